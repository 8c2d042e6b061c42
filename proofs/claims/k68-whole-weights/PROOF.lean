import PyProof.Rows.All
import Wide.All
import OpenK.AllK
import Wide.FinOn
import HandS.ForMost
import HandS.Exc
import HandS.TryOnly
import HandS.ExcOwn
import HandS.WordsExc
import HandS.CallSlots
import HandS.Defaults
import HandS.Flow
import HandS.Style
import HandS.IsInst
import HandS.Wide
import HandS.WideBits
import HandS.TupAny
import HandS.Rev
import HandS.Conv
import HandS.Walk
import HandS.Deep
import KE.GoesMore
import HandS.HeadEnd
import HandS.HeadHook2
import HandS.Head2
import PySem.Challenge.RW_whichpass_k68_whole_weights
import KE.KStateDown
set_option Elab.async false
set_option linter.all false
set_option maxRecDepth 100000
set_option maxHeartbeats 2000000
set_option autoImplicit false
/-! ShBase: a shallow reading of Python over plain data (D), a store of mutable objects (Sto), and its soundness over the layer HandS. -/
namespace Sh
open PySem PySem.Spec PyProof.Rows L2

/-! ### plain data -/
inductive D where
  | non | bl (b : Bool) | int (i : Int) | str (x : Str) | ty (n : String) | adr (a : Addr) | loc (n : Nat) | tup (xs : List D)
/-- a mutable object (ro: a list that is only read) -/
inductive Ob where
  | lst (xs : List D) | ro (xs : List D) | dct (kvs : List (Key × D)) | dctT (kvs : List (List Key × D)) | ins (C : Addr) (fs : List (Str × D)) | rod (kvs : List (Key × D))
abbrev Sto := List Ob
abbrev En := List (Option D)

/-! ### data at values -/
section
variable (K : PySem.W.Frag) (H : Hp) (rs : List Addr)
mutual
def Rep : D → V → Prop
  | .non, v => v = .non
  | .bl b, v => v = .bl b
  | .int i, v => v = .int i
  | .str x, v => v = .str x
  | .ty n, v => v = .ty n
  | .adr a, v => v = .ref a
  | .loc n, v => ∃ a, v = .ref a ∧ rs[n]? = some a
  | .tup ds, v => ∃ a vs, v = .ref a ∧ SqT K H a vs ∧ Reps ds vs
def Reps : List D → List V → Prop
  | [], vs => vs = []
  | d :: ds, vs => ∃ v r, vs = v :: r ∧ Rep d v ∧ Reps ds r
end
def RepF : List (Str × D) → List (Str × V) → Prop
  | [], vs => vs = []
  | p :: ps, vs => ∃ q r, vs = q :: r ∧ p.1 = q.1 ∧ Rep K H rs p.2 q.2 ∧ RepF ps r
def RepK {κ : Type} : List (κ × D) → List (κ × V) → Prop
  | [], vs => vs = []
  | p :: ps, vs => ∃ q r, vs = q :: r ∧ p.1 = q.1 ∧ Rep K H rs p.2 q.2 ∧ RepK ps r
def RepO : Ob → Addr → Prop
  | .lst ds, a => ∃ vs, H a = some (.lst vs) ∧ Reps K H rs ds vs
  | .ro ds, a => ∃ o vs, H a = some (.frz o (.lst vs)) ∧ Reps K H rs ds vs
  | .dct kvs, a => ∃ kw, H a = some (.dK kw) ∧ RepK K H rs kvs kw
  | .dctT kvs, a => ∃ kw, H a = some (.dT kw) ∧ RepK K H rs kvs kw
  | .ins C fs, a => ∃ dx fv, H a = some (.ins C dx fv) ∧ RepF K H rs fs fv
  | .rod kvs, a => ∃ o kw, H a = some (.frz o (.dK kw)) ∧ RepK K H rs kvs kw
end

/-- the tuples and what is locked stay -/
structure Tz (H H' : Hp) : Prop where
  tup : ∀ a xs, H a = some (.tup xs) → H' a = some (.tup xs)
  frz : ∀ a o u, H a = some (.frz o u) → H' a = some (.frz o u)
theorem Tz.refl (H : Hp) : Tz H H := ⟨fun _ _ h => h, fun _ _ _ h => h⟩
theorem Tz.trans {H H1 H2 : Hp} (a : Tz H H1) (b : Tz H1 H2) : Tz H H2 := ⟨fun x y h => b.tup x y (a.tup x y h), fun x y u h => b.frz x y u (a.frz x y u h)⟩
theorem Tz.new {H : Hp} {p : Addr} {o : HO} (h : H p = none) : Tz H (upd H p o) := ⟨fun a xs e => by rw [upd_ne (ne_of_none e h)]; exact e, fun a u x e => by rw [upd_ne (ne_of_none e h)]; exact e⟩
theorem Tz.mut {H : Hp} {p : Addr} {o : HO} (h : Mut (H p)) : Tz H (upd H p o) :=
  ⟨fun a xs e => by
    have : a ≠ p := fun z => by subst z; rw [e] at h; exact h
    rw [upd_ne this]; exact e, fun a u x e => by
    have : a ≠ p := fun z => by subst z; rw [e] at h; exact h
    rw [upd_ne this]; exact e⟩
theorem Tz.sqT {K : PySem.W.Frag} {H H' : Hp} (t : Tz H H') {a : Addr} {xs : List V} (h : SqT K H a xs) : SqT K H' a xs := by
  rcases h with (h | ⟨o, h⟩) | h
  · exact .inl (.inl (t.tup _ _ h))
  · exact .inl (.inr ⟨o, t.frz _ _ _ h⟩)
  · exact .inr h

/-- from (H, rs) on to (H', rs') -/
structure Ext (H : Hp) (rs : List Addr) (H' : Hp) (rs' : List Addr) : Prop where
  tz : Tz H H'
  pre : rs <+: rs'
section
variable {K : PySem.W.Frag} {H H' H1 H2 : Hp} {rs rs' rs1 rs2 : List Addr}
theorem Ext.refl (H : Hp) (rs : List Addr) : Ext H rs H rs := ⟨Tz.refl H, List.prefix_refl rs⟩
theorem Ext.trans (a : Ext H rs H1 rs1) (b : Ext H1 rs1 H2 rs2) : Ext H rs H2 rs2 := ⟨a.tz.trans b.tz, a.pre.trans b.pre⟩
theorem pre_get {α : Type} {l l' : List α} (p : l <+: l') {n : Nat} {a : α} (h : l[n]? = some a) : l'[n]? = some a := by
  obtain ⟨t, rfl⟩ := p
  have hn := (List.getElem?_eq_some_iff.mp h).1
  rw [List.getElem?_append_left hn]; exact h
mutual
theorem Rep.monoG (hq : ∀ a xs, SqT K H a xs → SqT K H' a xs) (pre : rs <+: rs') : ∀ (d : D) (v : V), Rep K H rs d v → Rep K H' rs' d v
  | .non, v, h => by unfold Rep at h ⊢; exact h
  | .bl b, v, h => by unfold Rep at h ⊢; exact h
  | .int i, v, h => by unfold Rep at h ⊢; exact h
  | .str x, v, h => by unfold Rep at h ⊢; exact h
  | .ty n, v, h => by unfold Rep at h ⊢; exact h
  | .adr a, v, h => by unfold Rep at h ⊢; exact h
  | .loc n, v, h => by
    unfold Rep at h ⊢
    obtain ⟨a, h1, h2⟩ := h
    exact ⟨a, h1, pre_get pre h2⟩
  | .tup ds, v, h => by
    unfold Rep at h ⊢
    obtain ⟨a, vs, h1, h2, h3⟩ := h
    exact ⟨a, vs, h1, hq a vs h2, Reps.monoG hq pre ds vs h3⟩
theorem Reps.monoG (hq : ∀ a xs, SqT K H a xs → SqT K H' a xs) (pre : rs <+: rs') : ∀ (ds : List D) (vs : List V), Reps K H rs ds vs → Reps K H' rs' ds vs
  | [], vs, h => by unfold Reps at h ⊢; exact h
  | d :: ds, vs, h => by
    unfold Reps at h ⊢
    obtain ⟨v, r, h1, h2, h3⟩ := h
    exact ⟨v, r, h1, Rep.monoG hq pre d v h2, Reps.monoG hq pre ds r h3⟩
end
theorem Rep.mono (e : Ext H rs H' rs') (d : D) (v : V) (h : Rep K H rs d v) : Rep K H' rs' d v := Rep.monoG (fun _ _ q => e.tz.sqT q) e.pre d v h
theorem Reps.mono (e : Ext H rs H' rs') (ds : List D) (vs : List V) (h : Reps K H rs ds vs) : Reps K H' rs' ds vs := Reps.monoG (fun _ _ q => e.tz.sqT q) e.pre ds vs h
theorem RepF.monoG (hq : ∀ a xs, SqT K H a xs → SqT K H' a xs) (pre : rs <+: rs') : ∀ {fs : List (Str × D)} {fv : List (Str × V)}, RepF K H rs fs fv → RepF K H' rs' fs fv
  | [], fv, h => h
  | p :: ps, fv, ⟨q, r, h1, h2, h3, h4⟩ => ⟨q, r, h1, h2, Rep.monoG hq pre _ _ h3, RepF.monoG hq pre h4⟩
theorem RepK.monoG {κ : Type} (hq : ∀ a xs, SqT K H a xs → SqT K H' a xs) (pre : rs <+: rs') : ∀ {fs : List (κ × D)} {fv : List (κ × V)}, RepK K H rs fs fv → RepK K H' rs' fs fv
  | [], fv, h => h
  | p :: ps, fv, ⟨q, r, h1, h2, h3, h4⟩ => ⟨q, r, h1, h2, Rep.monoG hq pre _ _ h3, RepK.monoG hq pre h4⟩
theorem RepF.mono (e : Ext H rs H' rs') {fs : List (Str × D)} {fv : List (Str × V)} (h : RepF K H rs fs fv) : RepF K H' rs' fs fv := RepF.monoG (fun _ _ q => e.tz.sqT q) e.pre h
theorem RepK.mono {κ : Type} (e : Ext H rs H' rs') {fs : List (κ × D)} {fv : List (κ × V)} (h : RepK K H rs fs fv) : RepK K H' rs' fs fv := RepK.monoG (fun _ _ q => e.tz.sqT q) e.pre h
theorem RepO.monoG (hq : ∀ a xs, SqT K H a xs → SqT K H' a xs) (pre : rs <+: rs') {o : Ob} {a : Addr} (k : ∀ u, H a = some u → H' a = some u) (h : RepO K H rs o a) : RepO K H' rs' o a := by
  cases o with
  | lst ds => obtain ⟨vs, h1, h2⟩ := h; exact ⟨vs, k _ h1, Reps.monoG hq pre _ _ h2⟩
  | ro ds => obtain ⟨o, vs, h1, h2⟩ := h; exact ⟨o, vs, k _ h1, Reps.monoG hq pre _ _ h2⟩
  | dct kvs => obtain ⟨vs, h1, h2⟩ := h; exact ⟨vs, k _ h1, h2.monoG hq pre⟩
  | dctT kvs => obtain ⟨vs, h1, h2⟩ := h; exact ⟨vs, k _ h1, h2.monoG hq pre⟩
  | ins C fs => obtain ⟨dx, vs, h1, h2⟩ := h; exact ⟨dx, vs, k _ h1, h2.monoG hq pre⟩
  | rod kvs => obtain ⟨o, vs, h1, h2⟩ := h; exact ⟨o, vs, k _ h1, h2.monoG hq pre⟩
/-- the object at a stands as before -/
theorem RepO.mono (e : Ext H rs H' rs') {o : Ob} {a : Addr} (k : ∀ u, H a = some u → H' a = some u) (h : RepO K H rs o a) : RepO K H' rs' o a := RepO.monoG (fun _ _ q => e.tz.sqT q) e.pre k h
theorem RepO.there {o : Ob} {a : Addr} (h : RepO K H rs o a) : H a ≠ none := by
  intro z
  cases o with
  | lst ds => obtain ⟨vs, h1, _⟩ := h; rw [z] at h1; cases h1
  | ro ds => obtain ⟨o, vs, h1, _⟩ := h; rw [z] at h1; cases h1
  | dct kvs => obtain ⟨vs, h1, _⟩ := h; rw [z] at h1; cases h1
  | dctT kvs => obtain ⟨vs, h1, _⟩ := h; rw [z] at h1; cases h1
  | ins C fs => obtain ⟨dx, vs, h1, _⟩ := h; rw [z] at h1; cases h1
  | rod kvs => obtain ⟨o, vs, h1, _⟩ := h; rw [z] at h1; cases h1
end

/-- the store stands in the heap, object n at rs[n] -/
structure RelS (K : PySem.W.Frag) (rs : List Addr) (H : Hp) (S : Sto) : Prop where
  nd : rs.Nodup
  len : rs.length = S.length
  ob : ∀ (n : Nat) (o : Ob) (a : Addr), S[n]? = some o → rs[n]? = some a → RepO K H rs o a
section
variable {K : PySem.W.Frag} {H H' : Hp} {rs rs' : List Addr} {S S' : Sto}
theorem RelS.get (r : RelS K rs H S) {n : Nat} {o : Ob} (h : S[n]? = some o) : ∃ a, rs[n]? = some a ∧ RepO K H rs o a := by
  have hn := (List.getElem?_eq_some_iff.mp h).1
  have hr : n < rs.length := by rw [r.len]; exact hn
  exact ⟨rs[n], List.getElem?_eq_getElem hr, r.ob n o _ h (List.getElem?_eq_getElem hr)⟩
theorem RelS.out (r : RelS K rs H S) {p : Addr} (h : H p = none) : p ∉ rs := fun hp => by
  obtain ⟨n, hn, e⟩ := List.getElem_of_mem hp
  have hs : n < S.length := by rw [← r.len]; exact hn
  exact (r.ob n _ p (List.getElem?_eq_getElem hs) (by rw [List.getElem?_eq_getElem hn, e])).there h
theorem nodup_get {α : Type} {l : List α} (h : l.Nodup) {i j : Nat} {a : α} (hi : l[i]? = some a) (hj : l[j]? = some a) : i = j := nd_ix h hi hj
/-- a tuple (or another thing that is no root) is laid -/
theorem RelS.new (r : RelS K rs H S) {p : Addr} {o : HO} (h : H p = none) : RelS K rs (upd H p o) S :=
  ⟨r.nd, r.len, fun n ob a hS ha => (r.ob n ob a hS ha).mono ⟨Tz.new h, List.prefix_refl _⟩ fun u e => by rw [upd_ne (ne_of_none e h)]; exact e⟩
/-- a new root -/
theorem RelS.push (r : RelS K rs H S) {p : Addr} {o : HO} {ob : Ob} (h : H p = none) (ho : RepO K (upd H p o) (rs ++ [p]) ob p) : RelS K (rs ++ [p]) (upd H p o) (S ++ [ob]) := by
  refine ⟨?_, by simp [r.len], fun n ob' a hS ha => ?_⟩
  · rw [List.nodup_append]
    refine ⟨r.nd, by simp, fun a ha b hb e => ?_⟩
    simp at hb
    subst hb
    subst e
    exact r.out h ha
  · by_cases hn : n < S.length
    · rw [List.getElem?_append_left hn] at hS
      have hr : n < rs.length := by rw [r.len]; exact hn
      rw [List.getElem?_append_left hr] at ha
      exact (r.ob n ob' a hS ha).mono ⟨Tz.new h, List.prefix_append _ _⟩ fun u e => by rw [upd_ne (ne_of_none e h)]; exact e
    · have hl := (List.getElem?_eq_some_iff.mp hS).1
      have e : n = S.length := by simp at hl; omega
      subst e
      rw [List.getElem?_append_right (Nat.le_refl _)] at hS
      rw [← r.len, List.getElem?_append_right (Nat.le_refl _)] at ha
      simp at hS ha
      subst hS ha
      exact ho
theorem Ext.push {p : Addr} {o : HO} (h : H p = none) : Ext H rs (upd H p o) (rs ++ [p]) := ⟨Tz.new h, List.prefix_append _ _⟩
theorem Ext.new {p : Addr} {o : HO} (h : H p = none) : Ext H rs (upd H p o) rs := ⟨Tz.new h, List.prefix_refl _⟩
theorem Ext.mut {p : Addr} {o : HO} (h : Mut (H p)) : Ext H rs (upd H p o) rs := ⟨Tz.mut h, List.prefix_refl _⟩
/-- root n is changed -/
theorem RelS.setG (r : RelS K rs H S) {n : Nat} {a : Addr} {o : HO} {ob : Ob} (ha : rs[n]? = some a) (hq : ∀ b xs, SqT K H b xs → SqT K (upd H a o) b xs) (ho : RepO K (upd H a o) rs ob a) : RelS K rs (upd H a o) (S.set n ob) := by
  refine ⟨r.nd, by simp [r.len], fun m ob' b hS hb => ?_⟩
  rw [List.getElem?_set] at hS
  by_cases e : n = m
  · subst e
    rw [ha] at hb
    cases hb
    split at hS
    · split at hS
      · cases hS; exact ho
      · cases hS
    · exact absurd rfl (by assumption)
  · rw [if_neg e] at hS
    have hba : b ≠ a := fun z => by subst z; exact e (nd_ix r.nd ha hb)
    exact (r.ob m ob' b hS hb).monoG hq (List.prefix_refl _) fun u q => by rw [upd_ne hba]; exact q
theorem RelS.set (r : RelS K rs H S) {n : Nat} {a : Addr} {o : HO} {ob : Ob} (ha : rs[n]? = some a) (mu : Mut (H a)) (ho : RepO K (upd H a o) rs ob a) : RelS K rs (upd H a o) (S.set n ob) := r.setG ha (fun _ _ q => (Tz.mut mu).sqT q) ho
end

/-- the slots and the store -/
structure Stt (K : PySem.W.Frag) (σ : L2.St) (H : Hp) (rs : List Addr) (env : En) (S : Sto) : Prop where
  len : env.length = σ.length
  env : ∀ (i : Nat) (d : D), env[i]? = some (some d) → ∃ v, σ[i]? = some (some v) ∧ Rep K H rs d v
  sto : RelS K rs H S
section
variable {K : PySem.W.Frag} {σ : L2.St} {H H' : Hp} {rs rs' : List Addr} {env : En} {S S' : Sto}
theorem Stt.to (s : Stt K σ H rs env S) (e : Ext H rs H' rs') (r : RelS K rs' H' S') : Stt K σ H' rs' env S' :=
  ⟨s.len, fun i d h => let ⟨v, h1, h2⟩ := s.env i d h; ⟨v, h1, Rep.mono e d v h2⟩, r⟩
theorem Stt.set (s : Stt K σ H rs env S) {i : Nat} {d : D} {v : V} (h : Rep K H rs d v) : Stt K (σ.set i (some v)) H rs (env.set i (some d)) S := by
  refine ⟨by simp [s.len], fun j d' hj => ?_, s.sto⟩
  rw [List.getElem?_set] at hj
  by_cases e : i = j
  · subst e
    rw [if_pos rfl] at hj
    split at hj
    · rename_i hl
      cases hj
      refine ⟨v, ?_, h⟩
      rw [List.getElem?_set, if_pos rfl, if_pos (by rw [← s.len]; exact hl)]
    · cases hj
  · rw [if_neg e] at hj
    obtain ⟨v', h1, h2⟩ := s.env j d' hj
    exact ⟨v', by rw [List.getElem?_set, if_neg e]; exact h1, h2⟩
theorem Stt.unset (s : Stt K σ H rs env S) {i : Nat} : Stt K (σ.set i none) H rs (env.set i none) S := by
  refine ⟨by simp [s.len], fun j d' hj => ?_, s.sto⟩
  rw [List.getElem?_set] at hj
  by_cases e : i = j
  · subst e
    rw [if_pos rfl] at hj
    split at hj <;> cases hj
  · rw [if_neg e] at hj
    obtain ⟨v', h1, h2⟩ := s.env j d' hj
    exact ⟨v', by rw [List.getElem?_set, if_neg e]; exact h1, h2⟩
end

/-! ### what comes out -/
/-- an exception: its class, its own fields (none: it has no dict) -/
structure Ex where
  cls : Value
  fs : Option (List (Str × D))
def RepX (K : PySem.W.Frag) (H : Hp) (rs : List Addr) (x : Ex) (c : Value) (a : Option Addr) : Prop :=
  x.cls = c ∧ match x.fs with
    | none => a = none
    | some fs => ∃ p fv, a = some p ∧ H p = some (.xd fv) ∧ RepF K H rs fs fv
inductive Out (α : Type) where
  | val (a : α) (S : Sto) | exc (x : Ex) (S : Sto) | bad
namespace Out
def bind {α β : Type} (m : Out α) (f : α → Sto → Out β) : Out β := match m with
  | .val a S => f a S
  | .exc x S => .exc x S
  | .bad => .bad
def ofO {α : Type} : Option (α × Sto) → Out α
  | some (a, S) => .val a S
  | none => .bad
end Out
abbrev EM := En → Sto → Out D
abbrev TM := En → Sto → Out Bool
abbrev AM := En → Sto → Out (List D)
/-- what comes out of a statement -/
inductive Fl where
  | nx (env : En) (S : Sto) | rt (d : D) (S : Sto) | bk (env : En) (S : Sto) | ct (env : En) (S : Sto) | exc (x : Ex) (env : En) (S : Sto) | bad
abbrev SM := En → Sto → Fl

/-! ### readings -/
def OkE (K : PySem.W.Frag) (W : WX) (σ : L2.St) (H : Hp) (rs : List Addr) (o : Out D) (Q : VK) : Prop := match o with
  | .val d S' => ∀ v H' rs', Ext H rs H' rs' → RelS K rs' H' S' → Rep K H' rs' d v → Q v H'
  | .exc x S' => ∀ c a H' rs', Ext H rs H' rs' → RelS K rs' H' S' → RepX K H' rs' x c a → W c a σ H'
  | .bad => False
def OkT (K : PySem.W.Frag) (W : WX) (σ : L2.St) (H : Hp) (rs : List Addr) (o : Out Bool) (Q : Bool → Hp → Prop) : Prop := match o with
  | .val b S' => ∀ H' rs', Ext H rs H' rs' → RelS K rs' H' S' → Q b H'
  | .exc x S' => ∀ c a H' rs', Ext H rs H' rs' → RelS K rs' H' S' → RepX K H' rs' x c a → W c a σ H'
  | .bad => False
def OkA (K : PySem.W.Frag) (W : WX) (σ : L2.St) (H : Hp) (rs : List Addr) (o : Out (List D)) (Q : List V → Hp → Prop) : Prop := match o with
  | .val ds S' => ∀ vs H' rs', Ext H rs H' rs' → RelS K rs' H' S' → Reps K H' rs' ds vs → Q vs H'
  | .exc x S' => ∀ c a H' rs', Ext H rs H' rs' → RelS K rs' H' S' → RepX K H' rs' x c a → W c a σ H'
  | .bad => False
def OkS (K : PySem.W.Frag) (W : WX) (H : Hp) (rs : List Addr) (o : Fl) (D : Ends) : Prop := match o with
  | .nx env' S' => ∀ σ' H' rs', Ext H rs H' rs' → Stt K σ' H' rs' env' S' → D.nx σ' H'
  | .bk env' S' => ∀ σ' H' rs', Ext H rs H' rs' → Stt K σ' H' rs' env' S' → D.bk σ' H'
  | .ct env' S' => ∀ σ' H' rs', Ext H rs H' rs' → Stt K σ' H' rs' env' S' → D.ct σ' H'
  | .rt d S' => ∀ v H' rs', Ext H rs H' rs' → RelS K rs' H' S' → Rep K H' rs' d v → D.rt v H'
  | .exc x env' S' => ∀ c a σ' H' rs', Ext H rs H' rs' → Stt K σ' H' rs' env' S' → RepX K H' rs' x c a → W c a σ' H'
  | .bad => False
section
variable (K : PySem.W.Frag) (W : WX)
def rdE (m : EM) : TE := fun σ H Q => ∃ rs env S, Stt K σ H rs env S ∧ OkE K W σ H rs (m env S) Q
def rdT (m : TM) : TT := fun σ H Q => ∃ rs env S, Stt K σ H rs env S ∧ OkT K W σ H rs (m env S) Q
def rdA (m : AM) : TA := fun σ H Q => ∃ rs env S, Stt K σ H rs env S ∧ OkA K W σ H rs (m env S) Q
def rdS (m : SM) : TS := fun D σ H => ∃ rs env S, Stt K σ H rs env S ∧ OkS K W H rs (m env S) D
end
/-- what the place must give: nothing is being handled, exceptions are taken -/
structure Good (X : Cx) (W : WX) : Prop where
  calm : X.calm = true
  nd : X.N.Nodup
  pass : PassesOwn (model X.prog X.w) X.A X.env X.xe
  tk : Takes X W
def SimE (X : Cx) (W : WX) (e : Expr) (m : EM) : Prop := PE X e (rdE X.K W m)
def SimT (X : Cx) (W : WX) (e : Expr) (m : TM) : Prop := PT X e (rdT X.K W m)
def SimW (X : Cx) (W : WX) (e : Expr) (m : TM) : Prop := PW X e (rdT X.K W m)
def SimA (X : Cx) (W : WX) (es : List Expr) (m : AM) : Prop := PA X es (rdA X.K W m)
def SimS (X : Cx) (W : WX) (st : Stmt) (m : SM) : Prop := PS X st (rdS X.K W m)
def SimSs (X : Cx) (W : WX) (st : List Stmt) (m : SM) : Prop := PSs X st (rdS X.K W m)

theorem PE.weaken {X : Cx} {e : Expr} {t t' : TE} (h : PE X e t) (w : ∀ σ H Q, t' σ H Q → t σ H Q) : PE X e t' := ⟨fun pins s σ H Q I q => h.run pins s σ H Q I (w σ H Q q)⟩
theorem PT.weaken {X : Cx} {e : Expr} {t t' : TT} (h : PT X e t) (w : ∀ σ H Q, t' σ H Q → t σ H Q) : PT X e t' := ⟨fun pins s σ H Q I q => h.run pins s σ H Q I (w σ H Q q)⟩
theorem PW.weaken {X : Cx} {e : Expr} {t t' : TT} (h : PW X e t) (w : ∀ σ H Q, t' σ H Q → t σ H Q) : PW X e t' := ⟨fun wh pins s σ H Q I q => h.run wh pins s σ H Q I (w σ H Q q)⟩
theorem PA.weaken {X : Cx} {e : List Expr} {t t' : TA} (h : PA X e t) (w : ∀ σ H Q, t' σ H Q → t σ H Q) : PA X e t' := ⟨fun pos pins s σ H Q I q => h.run pos pins s σ H Q I (w σ H Q q)⟩
theorem PS.weaken {X : Cx} {e : Stmt} {t t' : TS} (h : PS X e t) (w : ∀ D σ H, t' D σ H → t D σ H) : PS X e t' := ⟨fun pins s σ H D I q => h.run pins s σ H D I (w D σ H q)⟩
theorem PSs.weaken {X : Cx} {e : List Stmt} {t t' : TS} (h : PSs X e t) (w : ∀ D σ H, t' D σ H → t D σ H) : PSs X e t' := ⟨fun pins s σ H D I q => h.run pins s σ H D I (w D σ H q)⟩

/-! ### the ends, carried over -/
section
variable {K : PySem.W.Frag} {W : WX} {σ : L2.St} {H H1 : Hp} {rs rs1 : List Addr}
theorem OkE.from {o : Out D} {Q : VK} (e : Ext H rs H1 rs1) (h : OkE K W σ H rs o Q) : OkE K W σ H1 rs1 o Q := by
  cases o with
  | val d S => exact fun v H' rs' e' => h v H' rs' (e.trans e')
  | exc x S => exact fun c a H' rs' e' => h c a H' rs' (e.trans e')
  | bad => exact h
theorem OkT.from {o : Out Bool} {Q : Bool → Hp → Prop} (e : Ext H rs H1 rs1) (h : OkT K W σ H rs o Q) : OkT K W σ H1 rs1 o Q := by
  cases o with
  | val d S => exact fun H' rs' e' => h H' rs' (e.trans e')
  | exc x S => exact fun c a H' rs' e' => h c a H' rs' (e.trans e')
  | bad => exact h
theorem OkA.from {o : Out (List D)} {Q : List V → Hp → Prop} (e : Ext H rs H1 rs1) (h : OkA K W σ H rs o Q) : OkA K W σ H1 rs1 o Q := by
  cases o with
  | val d S => exact fun v H' rs' e' => h v H' rs' (e.trans e')
  | exc x S => exact fun c a H' rs' e' => h c a H' rs' (e.trans e')
  | bad => exact h
theorem OkS.from {o : Fl} {D : Ends} (e : Ext H rs H1 rs1) (h : OkS K W H rs o D) : OkS K W H1 rs1 o D := by
  cases o with
  | nx env S => exact fun σ' H' rs' e' => h σ' H' rs' (e.trans e')
  | bk env S => exact fun σ' H' rs' e' => h σ' H' rs' (e.trans e')
  | ct env S => exact fun σ' H' rs' e' => h σ' H' rs' (e.trans e')
  | rt d S => exact fun v H' rs' e' => h v H' rs' (e.trans e')
  | exc x env S => exact fun c a σ' H' rs' e' => h c a σ' H' rs' (e.trans e')
  | bad => exact h
end
end Sh

set_option Elab.async false
set_option linter.all false
set_option maxRecDepth 100000
set_option maxHeartbeats 2000000
set_option autoImplicit false
namespace Sh
open PySem PySem.Spec PyProof.Rows L2

/-! ### generic ends -/
def OkG {α β : Type} (R : Hp → List Addr → α → β → Prop) (K : PySem.W.Frag) (W : WX) (σ : L2.St) (H : Hp) (rs : List Addr) (o : Out α) (Q : β → Hp → Prop) : Prop := match o with
  | .val d S' => ∀ v H' rs', Ext H rs H' rs' → RelS K rs' H' S' → R H' rs' d v → Q v H'
  | .exc x S' => ∀ c a H' rs', Ext H rs H' rs' → RelS K rs' H' S' → RepX K H' rs' x c a → W c a σ H'
  | .bad => False
section
variable {K : PySem.W.Frag} {W : WX} {σ : L2.St} {H H1 : Hp} {rs rs1 : List Addr}
theorem OkE.g {o : Out D} {Q : VK} : OkE K W σ H rs o Q = OkG (Rep K) K W σ H rs o Q := by cases o <;> rfl
theorem OkA.g {o : Out (List D)} {Q : List V → Hp → Prop} : OkA K W σ H rs o Q = OkG (Reps K) K W σ H rs o Q := by cases o <;> rfl
/-- an expression's end, from what follows it -/
theorem bindEE {o : Out D} {k : D → Sto → Out D} {Q Q1 : VK} (h : OkE K W σ H rs (o.bind k) Q)
    (next : ∀ d S' v H' rs', Ext H rs H' rs' → RelS K rs' H' S' → Rep K H' rs' d v → OkE K W σ H' rs' (k d S') Q → Q1 v H') : OkE K W σ H rs o Q1 := by
  cases o with
  | val d S => exact fun v H' rs' e r p => next d S v H' rs' e r p (OkE.from e h)
  | exc x S => exact h
  | bad => exact h
theorem bindET {o : Out D} {k : D → Sto → Out Bool} {Q : Bool → Hp → Prop} {Q1 : VK} (h : OkT K W σ H rs (o.bind k) Q)
    (next : ∀ d S' v H' rs', Ext H rs H' rs' → RelS K rs' H' S' → Rep K H' rs' d v → OkT K W σ H' rs' (k d S') Q → Q1 v H') : OkE K W σ H rs o Q1 := by
  cases o with
  | val d S => exact fun v H' rs' e r p => next d S v H' rs' e r p (OkT.from e h)
  | exc x S => exact h
  | bad => exact h
theorem bindEA {o : Out D} {k : D → Sto → Out (List D)} {Q : List V → Hp → Prop} {Q1 : VK} (h : OkA K W σ H rs (o.bind k) Q)
    (next : ∀ d S' v H' rs', Ext H rs H' rs' → RelS K rs' H' S' → Rep K H' rs' d v → OkA K W σ H' rs' (k d S') Q → Q1 v H') : OkE K W σ H rs o Q1 := by
  cases o with
  | val d S => exact fun v H' rs' e r p => next d S v H' rs' e r p (OkA.from e h)
  | exc x S => exact h
  | bad => exact h
theorem bindAE {o : Out (List D)} {k : List D → Sto → Out D} {Q : VK} {Q1 : List V → Hp → Prop} (h : OkE K W σ H rs (o.bind k) Q)
    (next : ∀ d S' v H' rs', Ext H rs H' rs' → RelS K rs' H' S' → Reps K H' rs' d v → OkE K W σ H' rs' (k d S') Q → Q1 v H') : OkA K W σ H rs o Q1 := by
  cases o with
  | val d S => exact fun v H' rs' e r p => next d S v H' rs' e r p (OkE.from e h)
  | exc x S => exact h
  | bad => exact h
theorem bindAA {o : Out (List D)} {k : List D → Sto → Out (List D)} {Q Q1 : List V → Hp → Prop} (h : OkA K W σ H rs (o.bind k) Q)
    (next : ∀ d S' v H' rs', Ext H rs H' rs' → RelS K rs' H' S' → Reps K H' rs' d v → OkA K W σ H' rs' (k d S') Q → Q1 v H') : OkA K W σ H rs o Q1 := by
  cases o with
  | val d S => exact fun v H' rs' e r p => next d S v H' rs' e r p (OkA.from e h)
  | exc x S => exact h
  | bad => exact h
theorem bindTT {o : Out Bool} {k : Bool → Sto → Out Bool} {Q Q1 : Bool → Hp → Prop} (h : OkT K W σ H rs (o.bind k) Q)
    (next : ∀ d S' H' rs', Ext H rs H' rs' → RelS K rs' H' S' → OkT K W σ H' rs' (k d S') Q → Q1 d H') : OkT K W σ H rs o Q1 := by
  cases o with
  | val d S => exact fun H' rs' e r => next d S H' rs' e r (OkT.from e h)
  | exc x S => exact h
  | bad => exact h
theorem bindTE {o : Out Bool} {k : Bool → Sto → Out D} {Q : VK} {Q1 : Bool → Hp → Prop} (h : OkE K W σ H rs (o.bind k) Q)
    (next : ∀ d S' H' rs', Ext H rs H' rs' → RelS K rs' H' S' → OkE K W σ H' rs' (k d S') Q → Q1 d H') : OkT K W σ H rs o Q1 := by
  cases o with
  | val d S => exact fun H' rs' e r => next d S H' rs' e r (OkE.from e h)
  | exc x S => exact h
  | bad => exact h
/-- the end of a value -/
theorem OkE.go {d : D} {S' : Sto} {Q : VK} (h : OkE K W σ H rs (.val d S') Q) {v : V} {H' : Hp} {rs' : List Addr} (e : Ext H rs H' rs') (r : RelS K rs' H' S') (p : Rep K H' rs' d v) : Q v H' := h v H' rs' e r p
end

/-! ### names, constants -/
def dVar (i : Nat) : EM := fun env S => match env[i]? with
  | some (some d) => .val d S
  | _ => .bad
def dC (d : D) : EM := fun _ S => .val d S
def dBin (f : D → D → Sto → Option (D × Sto)) (ma mb : EM) : EM := fun env S => (ma env S).bind fun a S1 => (mb env S1).bind fun b S2 => .ofO (f a b S2)
def dUn (f : D → Sto → Option (D × Sto)) (ma : EM) : EM := fun env S => (ma env S).bind fun a S1 => .ofO (f a S1)
def dB (m : EM) : TM := fun env S => (m env S).bind fun a S1 => match a with
  | .bl b => .val b S1
  | _ => .bad
def dAnd (m n : TM) : TM := fun env S => (m env S).bind fun a S1 => if a = true then n env S1 else .val false S1
def dOr (m n : TM) : TM := fun env S => (m env S).bind fun a S1 => if a = true then .val true S1 else n env S1
def dNot (m : TM) : TM := fun env S => (m env S).bind fun a S1 => .val (!a) S1
def dIf (c : TM) (m n : EM) : EM := fun env S => (c env S).bind fun a S1 => if a = true then m env S1 else n env S1
/-- and, or as values of bools -/
def dAndV (m n : EM) : EM := fun env S => (m env S).bind fun a S1 => match a with
  | .bl true => n env S1
  | .bl false => .val (.bl false) S1
  | _ => .bad
def dOrV (m n : EM) : EM := fun env S => (m env S).bind fun a S1 => match a with
  | .bl true => .val (.bl true) S1
  | .bl false => n env S1
  | _ => .bad
def dNotV (m : EM) : EM := fun env S => (m env S).bind fun a S1 => match a with
  | .bl b => .val (.bl (!b)) S1
  | _ => .bad
def aNil : AM := fun _ S => .val [] S
def aCons (m : EM) (n : AM) : AM := fun env S => (m env S).bind fun a S1 => (n env S1).bind fun as S2 => .val (a :: as) S2
/-- a call of something known by values -/
def dCall (f : List D → Sto → Option (D × Sto)) (m : AM) : EM := fun env S => (m env S).bind fun as S1 => .ofO (f as S1)

section
variable {X : Cx} {W : WX} {a b c e : Expr} {pos : Pos} {ma mb : EM}
theorem Rep.flat {K : PySem.W.Frag} {H : Hp} {rs : List Addr} {v : V} {b : Bool} (h : Rep K H rs (.bl b) v) : v = .bl b := by unfold Rep at h; exact h
theorem e_var (i : Nat) {x : Str} (hN : X.N[i]? = some x := by rfl) (hv : Vis X.env.scope x := by first | exact Or.inl rfl | exact Or.inr (Or.inl rfl) | exact Or.inr (Or.inr rfl)) (hd : (x == ("__debug__" : Str)) = false := by decide)
    (hcd : (x == ("__classdict__" : Str)) = false := by decide) : SimE X W (.Name x pos) (dVar i) := by
  refine PE.weaken (pe_var hN hv hd hcd) fun σ H Q ⟨rs, env, S, st, h⟩ => ?_
  unfold dVar at h
  split at h
  · rename_i d hd
    obtain ⟨v, h1, h2⟩ := st.env i d hd
    exact ⟨v, h1, h v H rs (Ext.refl _ _) st.sto h2⟩
  · exact h.elim
theorem e_c {t : TE} {d : D} {v : V} (h : PE X e (tC v)) (r : ∀ H rs, Rep X.K H rs d v) : SimE X W e (dC d) :=
  PE.weaken h fun σ H Q ⟨rs, env, S, st, h⟩ => h v H rs (Ext.refl _ _) st.sto (r H rs)
theorem e_int {i : Int} {j : Nat} : SimE X W (.Constant (.int i) j pos) (dC (.int i)) := PE.weaken pe_int fun σ H Q ⟨rs, env, S, st, h⟩ => h _ H rs (Ext.refl _ _) st.sto (by unfold Rep; rfl)
theorem e_bl {i : Bool} {j : Nat} : SimE X W (.Constant (.bool i) j pos) (dC (.bl i)) := PE.weaken pe_bl fun σ H Q ⟨rs, env, S, st, h⟩ => h _ H rs (Ext.refl _ _) st.sto (by unfold Rep; rfl)
theorem e_non {j : Nat} : SimE X W (.Constant .none j pos) (dC .non) := PE.weaken pe_non fun σ H Q ⟨rs, env, S, st, h⟩ => h _ H rs (Ext.refl _ _) st.sto (by unfold Rep; rfl)
theorem e_str {x : Str} {j : Nat} : SimE X W (.Constant (.str x) j pos) (dC (.str x)) := PE.weaken pe_str fun σ H Q ⟨rs, env, S, st, h⟩ => h _ H rs (Ext.refl _ _) st.sto (by unfold Rep; rfl)
/-- a module's name -/
theorem e_glob {x : Str} {v : V} {u : Value} {d : D} (hg : Gl X x) (hm : X.mg x = some u) (r : RelV v u) (rd : ∀ H rs, Rep X.K H rs d v) (hd : (x == ("__debug__" : Str)) = false := by decide) : SimE X W (.Name x pos) (dC d) :=
  PE.weaken (pe_glob hg hm r hd) fun σ H Q ⟨rs, env, S, st, h⟩ => h v H rs (Ext.refl _ _) st.sto (rd H rs)
/-- a built-in class as a value -/
theorem e_ty {x : Str} {n : String} (hg : Gl X x) (hm : X.mg x = none) (hv : bootBuiltins x = some (.type n)) (hn : x ≠ "__name__" := by decide) (hd : (x == ("__debug__" : Str)) = false := by decide) : SimE X W (.Name x pos) (dC (.ty n)) :=
  PE.weaken (pe_bltn (v := .ty n) hg hm hv rfl hn hd) fun σ H Q ⟨rs, env, S, st, h⟩ => h _ H rs (Ext.refl _ _) st.sto (by unfold Rep; rfl)

/-! ### operators -/
def Fits2 (K : PySem.W.Frag) (f : D → D → Sto → Option (D × Sto)) (r : R2) : Prop :=
  ∀ (W : WX) (σ : L2.St) (rs : List Addr) (H : Hp) (S : Sto) (da db : D) (x y : V) (Q : VK), RelS K rs H S → Rep K H rs da x → Rep K H rs db y → OkE K W σ H rs (.ofO (f da db S)) Q → r x y H Q
def Fits1 (K : PySem.W.Frag) (f : D → Sto → Option (D × Sto)) (r : V → Hp → VK → Prop) : Prop :=
  ∀ (W : WX) (σ : L2.St) (rs : List Addr) (H : Hp) (S : Sto) (da : D) (x : V) (Q : VK), RelS K rs H S → Rep K H rs da x → OkE K W σ H rs (.ofO (f da S)) Q → r x H Q
def FitsC (K : PySem.W.Frag) (f : List D → Sto → Option (D × Sto)) (r : List V → Hp → VK → Prop) : Prop :=
  ∀ (W : WX) (σ : L2.St) (rs : List Addr) (H : Hp) (S : Sto) (ds : List D) (xs : List V) (Q : VK), RelS K rs H S → Reps K H rs ds xs → OkE K W σ H rs (.ofO (f ds S)) Q → r xs H Q

theorem rd_bin {K : PySem.W.Frag} {f : D → D → Sto → Option (D × Sto)} {r : R2} (hf : Fits2 K f r) : ∀ σ H Q, rdE K W (dBin f ma mb) σ H Q → tOp r (rdE K W ma) (rdE K W mb) σ H Q := by
  rintro σ H Q ⟨rs, env, S, st, h⟩
  refine ⟨rs, env, S, st, bindEE h fun d S1 v H1 rs1 e1 r1 p1 h1 => ?_⟩
  refine ⟨rs1, env, S1, st.to e1 r1, bindEE h1 fun d2 S2 v2 H2 rs2 e2 r2 p2 h2 => ?_⟩
  exact hf W σ rs2 H2 S2 d d2 v v2 Q r2 (Rep.mono e2 _ _ p1) p2 h2
theorem e_op {op : Operator} {f : D → D → Sto → Option (D × Sto)} {r : R2} (ho : OpR X (binaryOp op) r) (hf : Fits2 X.K f r) (ha : SimE X W a ma) (hb : SimE X W b mb) : SimE X W (.BinOp a op b pos) (dBin f ma mb) :=
  PE.weaken (pe_op ho ha hb) (rd_bin hf)
theorem e_cmp {op : CmpOp} {f : D → D → Sto → Option (D × Sto)} {r : R2} (ho : OpR X (compareOp op) r) (hf : Fits2 X.K f r) (hm : behindInMarks op b = false) (ha : SimE X W a ma) (hb : SimE X W b mb) :
    SimE X W (.Compare a [op] [b] pos) (dBin f ma mb) := PE.weaken (pe_cmpR ho ha hb hm) (rd_bin hf)
theorem e_un {op : UnaryOp} {f : D → Sto → Option (D × Sto)} {r : V → Hp → VK → Prop} (ho : UnR X (unaryOp op) r) (hf : Fits1 X.K f r) (ha : SimE X W a ma) : SimE X W (.UnaryOp op a pos) (dUn f ma) := by
  refine PE.weaken (pe_un ho ha) fun σ H Q ⟨rs, env, S, st, h⟩ => ?_
  exact ⟨rs, env, S, st, bindEE h fun d S1 v H1 rs1 e1 r1 p1 h1 => hf W σ rs1 H1 S1 d v Q r1 p1 h1⟩
theorem e_ix {f : D → D → Sto → Option (D × Sto)} {r : R2} (ho : IxR X r) (hf : Fits2 X.K f r) (hs : PlainIx b) (ha : SimE X W a ma) (hb : SimE X W b mb) : SimE X W (.Subscript a b pos) (dBin f ma mb) :=
  PE.weaken (pe_ix ho ha hb hs) (rd_bin hf)

/-! ### tests -/
theorem t_val (h : SimE X W e ma) (he : ∀ whole, isTrue e X.env whole = (do let v ← whole; standAt e.pos; holding [v] (truthy v)) := by intro _; rfl) : SimT X W e (dB ma) := by
  refine PT.weaken (pt_val h he) fun σ H Q ⟨rs, env, S, st, h⟩ => ?_
  refine ⟨rs, env, S, st, bindET h fun d S1 v H1 rs1 e1 r1 p1 h1 => ?_⟩
  cases d with
  | bl b => exact ⟨b, Rep.flat p1, h1 H1 rs1 (Ext.refl _ _) r1⟩
  | _ => exact h1.elim
theorem t_cmp {op : CmpOp} {f : D → D → Sto → Option (D × Sto)} {r : R2} (ho : OpR X (compareOp op) r) (hf : Fits2 X.K f r) (hm : behindInMarks op b = false) (ha : SimE X W a ma) (hb : SimE X W b mb) :
    SimT X W (.Compare a [op] [b] pos) (dB (dBin f ma mb)) := by
  refine PT.weaken (pt_cmpR ho ha hb hm) fun σ H Q ⟨rs, env, S, st, h⟩ => ?_
  have h2 : rdE X.K W (dBin f ma mb) σ H (fun x H' => ∃ k, x = .bl k ∧ Q k H') := by
    refine ⟨rs, env, S, st, bindET h fun d S1 v H1 rs1 e1 r1 p1 h1 => ?_⟩
    cases d with
    | bl b => exact ⟨b, Rep.flat p1, h1 H1 rs1 (Ext.refl _ _) r1⟩
    | _ => exact h1.elim
  exact rd_bin hf σ H _ h2
theorem w_and1 {m : TM} (h : SimT X W a m) : SimW X W (.BoolOp .And [a] pos) m := pw_and1 h
theorem w_or1 {m : TM} (h : SimT X W a m) : SimW X W (.BoolOp .Or [a] pos) m := pw_or1 h
theorem w_and {m n : TM} {rest : List Expr} (ha : SimT X W a m) (hb : SimW X W (.BoolOp .And (b :: rest) pos) n) : SimW X W (.BoolOp .And (a :: b :: rest) pos) (dAnd m n) := by
  refine PW.weaken (pw_and ha hb) fun σ H Q ⟨rs, env, S, st, h⟩ => ?_
  refine ⟨rs, env, S, st, bindTT h fun d S1 H1 rs1 e1 r1 h1 => ?_⟩
  cases d with
  | true => exact ⟨rs1, env, S1, st.to e1 r1, h1⟩
  | false => exact h1 H1 rs1 (Ext.refl _ _) r1
theorem w_or {m n : TM} {rest : List Expr} (ha : SimT X W a m) (hb : SimW X W (.BoolOp .Or (b :: rest) pos) n) : SimW X W (.BoolOp .Or (a :: b :: rest) pos) (dOr m n) := by
  refine PW.weaken (pw_or ha hb) fun σ H Q ⟨rs, env, S, st, h⟩ => ?_
  refine ⟨rs, env, S, st, bindTT h fun d S1 H1 rs1 e1 r1 h1 => ?_⟩
  cases d with
  | true => exact h1 H1 rs1 (Ext.refl _ _) r1
  | false => exact ⟨rs1, env, S1, st.to e1 r1, h1⟩
theorem t_w {m : TM} (h : SimW X W e m) : SimT X W e m := h.pt
theorem t_not {m : TM} (h : SimT X W a m) : SimT X W (.UnaryOp .Not a pos) (dNot m) := by
  refine PT.weaken (pt_not h) fun σ H Q ⟨rs, env, S, st, h⟩ => ?_
  exact ⟨rs, env, S, st, bindTT h fun d S1 H1 rs1 e1 r1 h1 => h1 H1 rs1 (Ext.refl _ _) r1⟩
theorem e_one {op : BoolOp} (h : SimE X W a ma) : SimE X W (.BoolOp op [a] pos) ma := pe_one h
theorem e_and {rest : List Expr} (ha : SimE X W a ma) (hb : SimE X W (.BoolOp .And (b :: rest) pos) mb) : SimE X W (.BoolOp .And (a :: b :: rest) pos) (dAndV ma mb) := by
  refine PE.weaken (pe_and ha hb) fun σ H Q ⟨rs, env, S, st, h⟩ => ?_
  refine ⟨rs, env, S, st, bindEE h fun d S1 v H1 rs1 e1 r1 p1 h1 => ?_⟩
  cases d with
  | bl k =>
    refine ⟨k, Rep.flat p1, ?_⟩
    cases k with
    | true => exact ⟨rs1, env, S1, st.to e1 r1, h1⟩
    | false => exact h1 _ H1 rs1 (Ext.refl _ _) r1 (by unfold Rep; rfl)
  | _ => exact h1.elim
theorem e_or {rest : List Expr} (ha : SimE X W a ma) (hb : SimE X W (.BoolOp .Or (b :: rest) pos) mb) : SimE X W (.BoolOp .Or (a :: b :: rest) pos) (dOrV ma mb) := by
  refine PE.weaken (pe_or ha hb) fun σ H Q ⟨rs, env, S, st, h⟩ => ?_
  refine ⟨rs, env, S, st, bindEE h fun d S1 v H1 rs1 e1 r1 p1 h1 => ?_⟩
  cases d with
  | bl k =>
    refine ⟨k, Rep.flat p1, ?_⟩
    cases k with
    | true => exact h1 _ H1 rs1 (Ext.refl _ _) r1 (by unfold Rep; rfl)
    | false => exact ⟨rs1, env, S1, st.to e1 r1, h1⟩
  | _ => exact h1.elim
theorem e_not (ha : SimE X W a ma) : SimE X W (.UnaryOp .Not a pos) (dNotV ma) := by
  refine PE.weaken (pe_not ha) fun σ H Q ⟨rs, env, S, st, h⟩ => ?_
  refine ⟨rs, env, S, st, bindEE h fun d S1 v H1 rs1 e1 r1 p1 h1 => ?_⟩
  cases d with
  | bl k => exact ⟨k, Rep.flat p1, h1 _ H1 rs1 (Ext.refl _ _) r1 (by unfold Rep; rfl)⟩
  | _ => exact h1.elim
theorem e_if {m : TM} (hc : SimT X W c m) (ha : SimE X W a ma) (hb : SimE X W b mb) : SimE X W (.IfExp c a b pos) (dIf m ma mb) := by
  refine PE.weaken (pe_ifExp hc ha hb) fun σ H Q ⟨rs, env, S, st, h⟩ => ?_
  refine ⟨rs, env, S, st, bindTE h fun d S1 H1 rs1 e1 r1 h1 => ?_⟩
  cases d with
  | true => exact ⟨rs1, env, S1, st.to e1 r1, h1⟩
  | false => exact ⟨rs1, env, S1, st.to e1 r1, h1⟩

/-! ### arguments -/
theorem a_nil : SimA X W [] aNil := PA.weaken pa_nil fun σ H Q ⟨rs, env, S, st, h⟩ => h [] H rs (Ext.refl _ _) st.sto (by unfold Reps; rfl)
theorem a_cons {es : List Expr} {m : AM} (ha : SimE X W e ma) (hr : SimA X W es m) (hs : starEach (e :: es) X.env = (false, eval e X.env) :: starEach es X.env := by rfl) : SimA X W (e :: es) (aCons ma m) := by
  refine PA.weaken (pa_cons ha hr hs) fun σ H Q ⟨rs, env, S, st, h⟩ => ?_
  refine ⟨rs, env, S, st, bindEA h fun d S1 v H1 rs1 e1 r1 p1 h1 => ?_⟩
  refine ⟨rs1, env, S1, st.to e1 r1, bindAA h1 fun ds S2 vs H2 rs2 e2 r2 p2 h2 => ?_⟩
  exact h2 (v :: vs) H2 rs2 (Ext.refl _ _) r2 (by unfold Reps; exact ⟨v, vs, rfl, Rep.mono e2 _ _ p1, p2⟩)
theorem e_callB {id : String} {x : Str} {p : Pos} {es : List Expr} {f : List D → Sto → Option (D × Sto)} {r : List V → Hp → VK → Prop} {m : AM} (hc : CallR X (.builtin id) r) (hf : FitsC X.K f r) (hg : Gl X x) (hm : X.mg x = none)
    (hv : bootBuiltins x = some (.builtin id)) (ha : SimA X W (e :: es) m) (hn : x ≠ "__name__" := by decide) (hdb : (x == ("__debug__" : Str)) = false := by decide)
    (he : starEach (e :: es) X.env = (false, eval e X.env) :: starEach es X.env := by rfl) (hpl : (backTo pos (starEach es X.env)).any (·.1) = false := by rfl) : SimE X W (.Call (.Name x p) (e :: es) [] pos) (dCall f m) := by
  refine PE.weaken (pe_callB hc hg hm hv ha hn hdb he hpl) fun σ H Q ⟨rs, env, S, st, h⟩ => ?_
  exact ⟨rs, env, S, st, bindAE h fun d S1 v H1 rs1 e1 r1 p1 h1 => hf W σ rs1 H1 S1 d v Q r1 p1 h1⟩
theorem e_callTy {T : String} {x : Str} {p : Pos} {es : List Expr} {f : List D → Sto → Option (D × Sto)} {r : List V → Hp → VK → Prop} {m : AM} (hc : CallR X (.type T) r) (hf : FitsC X.K f r) (hg : Gl X x) (hm : X.mg x = none)
    (hv : bootBuiltins x = some (.type T)) (ha : SimA X W (e :: es) m) (hn : x ≠ "__name__" := by decide) (hdb : (x == ("__debug__" : Str)) = false := by decide)
    (he : starEach (e :: es) X.env = (false, eval e X.env) :: starEach es X.env := by rfl) (hpl : (backTo pos (starEach es X.env)).any (·.1) = false := by rfl) : SimE X W (.Call (.Name x p) (e :: es) [] pos) (dCall f m) := by
  refine PE.weaken (pe_callTy hc hg hm hv ha hn hdb he hpl) fun σ H Q ⟨rs, env, S, st, h⟩ => ?_
  exact ⟨rs, env, S, st, bindAE h fun d S1 v H1 rs1 e1 r1 p1 h1 => hf W σ rs1 H1 S1 d v Q r1 p1 h1⟩
end
end Sh

set_option Elab.async false
set_option linter.all false
set_option maxRecDepth 100000
set_option maxHeartbeats 2000000
set_option autoImplicit false
namespace Sh
open PySem PySem.Spec PyProof.Rows L2

/-! ### lengths -/
abbrev big : Nat := 1000000
theorem big_le {n : Nat} (h : n ≤ big) : n ≤ sizeLine := Nat.le_trans h (by decide)
theorem big_lt {n : Nat} (h : n < big) : n < sizeLine := Nat.lt_of_lt_of_le h (by decide)
section
variable {K : PySem.W.Frag} {H : Hp} {rs : List Addr}
theorem Reps.length : ∀ {ds : List D} {vs : List V}, Reps K H rs ds vs → vs.length = ds.length
  | [], vs, h => by unfold Reps at h; subst h; rfl
  | d :: ds, vs, h => by
    unfold Reps at h
    obtain ⟨v, r, rfl, _, h⟩ := h
    simp [Reps.length h]
theorem Reps.get : ∀ {ds : List D} {vs : List V} {i : Nat} {d : D}, Reps K H rs ds vs → ds[i]? = some d → ∃ v, vs[i]? = some v ∧ Rep K H rs d v
  | [], vs, i, d, h, e => by simp at e
  | d :: ds, vs, 0, d', h, e => by
    unfold Reps at h
    obtain ⟨v, r, rfl, h1, h⟩ := h
    simp at e
    subst e
    exact ⟨v, by simp, h1⟩
  | d :: ds, vs, i + 1, d', h, e => by
    unfold Reps at h
    obtain ⟨v, r, rfl, h1, h⟩ := h
    obtain ⟨v', h2, h3⟩ := Reps.get (i := i) (d := d') h (by simpa using e)
    exact ⟨v', by simpa using h2, h3⟩
theorem Reps.append : ∀ {ds es : List D} {vs ws : List V}, Reps K H rs ds vs → Reps K H rs es ws → Reps K H rs (ds ++ es) (vs ++ ws)
  | [], es, vs, ws, h, g => by unfold Reps at h; subst h; exact g
  | d :: ds, es, vs, ws, h, g => by
    unfold Reps at h
    obtain ⟨v, r, rfl, h1, h⟩ := h
    show Reps K H rs (d :: (ds ++ es)) (v :: (r ++ ws))
    unfold Reps
    exact ⟨v, _, rfl, h1, Reps.append h g⟩
theorem Reps.one {d : D} {v : V} (h : Rep K H rs d v) : Reps K H rs [d] [v] := by
  unfold Reps
  exact ⟨v, [], rfl, h, by unfold Reps; rfl⟩
theorem Reps.nil : Reps K H rs [] [] := by unfold Reps; rfl
theorem Reps.cons {d : D} {v : V} {ds : List D} {vs : List V} (h : Rep K H rs d v) (t : Reps K H rs ds vs) : Reps K H rs (d :: ds) (v :: vs) := by
  unfold Reps
  exact ⟨v, vs, rfl, h, t⟩
theorem Reps.drop : ∀ {ds : List D} {vs : List V} (n : Nat), Reps K H rs ds vs → Reps K H rs (ds.drop n) (vs.drop n)
  | ds, vs, 0, h => h
  | [], vs, n + 1, h => by unfold Reps at h; subst h; exact Reps.nil
  | d :: ds, vs, n + 1, h => by
    unfold Reps at h
    obtain ⟨v, r, rfl, h1, h⟩ := h
    exact Reps.drop n h
theorem Reps.take : ∀ {ds : List D} {vs : List V} (n : Nat), Reps K H rs ds vs → Reps K H rs (ds.take n) (vs.take n)
  | ds, vs, 0, h => by simp; exact Reps.nil
  | [], vs, n + 1, h => by unfold Reps at h; subst h; exact Reps.nil
  | d :: ds, vs, n + 1, h => by
    unfold Reps at h
    obtain ⟨v, r, rfl, h1, h⟩ := h
    exact Reps.cons h1 (Reps.take n h)
theorem Reps.set : ∀ {ds : List D} {vs : List V} (n : Nat) {d : D} {v : V}, Reps K H rs ds vs → Rep K H rs d v → Reps K H rs (ds.set n d) (vs.set n v)
  | [], vs, n, d, v, h, g => by unfold Reps at h; subst h; exact Reps.nil
  | d' :: ds, vs, 0, d, v, h, g => by
    unfold Reps at h
    obtain ⟨v', r, rfl, h1, h⟩ := h
    exact Reps.cons g h
  | d' :: ds, vs, n + 1, d, v, h, g => by
    unfold Reps at h
    obtain ⟨v', r, rfl, h1, h⟩ := h
    exact Reps.cons h1 (Reps.set n h g)
theorem Reps.reverse {ds : List D} : ∀ {vs : List V}, Reps K H rs ds vs → Reps K H rs ds.reverse vs.reverse := by
  induction ds with
  | nil => intro vs h; unfold Reps at h; subst h; exact Reps.nil
  | cons d ds ih =>
    intro vs h
    unfold Reps at h
    obtain ⟨v, r, rfl, h1, h⟩ := h
    rw [List.reverse_cons, List.reverse_cons]
    exact Reps.append (ih h) (Reps.one h1)
theorem rep_int {i : Int} {v : V} : Rep K H rs (.int i) v ↔ v = .int i := by unfold Rep; exact Iff.rfl
theorem rep_non {v : V} : Rep K H rs .non v ↔ v = .non := by unfold Rep; exact Iff.rfl
theorem rep_bl {b : Bool} {v : V} : Rep K H rs (.bl b) v ↔ v = .bl b := by unfold Rep; exact Iff.rfl
theorem rep_str {x : Str} {v : V} : Rep K H rs (.str x) v ↔ v = .str x := by unfold Rep; exact Iff.rfl
theorem rep_ty {x : String} {v : V} : Rep K H rs (.ty x) v ↔ v = .ty x := by unfold Rep; exact Iff.rfl
theorem rep_adr {a : Addr} {v : V} : Rep K H rs (.adr a) v ↔ v = .ref a := by unfold Rep; exact Iff.rfl
theorem rep_loc {n : Nat} {v : V} : Rep K H rs (.loc n) v ↔ ∃ a, v = .ref a ∧ rs[n]? = some a := by unfold Rep; exact Iff.rfl
theorem rep_tup {ds : List D} {v : V} : Rep K H rs (.tup ds) v ↔ ∃ a vs, v = .ref a ∧ SqT K H a vs ∧ Reps K H rs ds vs := by rw [Rep]
end
/-- the list at a root -/
def lstAt (S : Sto) (n : Nat) : Option (List D) := match S[n]? with
  | some (.lst xs) => some xs
  | some (.ro xs) => some xs
  | _ => none
section
variable {K : PySem.W.Frag} {H : Hp} {rs : List Addr} {S : Sto}
theorem RelS.lst (r : RelS K rs H S) {n : Nat} {xs : List D} (h : lstAt S n = some xs) : ∃ a vs, rs[n]? = some a ∧ SqL K H a vs ∧ Reps K H rs xs vs := by
  unfold lstAt at h
  split at h
  · rename_i ys e
    cases h
    obtain ⟨a, h1, vs, h2, h3⟩ := r.get e
    exact ⟨a, vs, h1, SqL.of h2, h3⟩
  · rename_i ys e
    cases h
    obtain ⟨a, h1, o, vs, h2, h3⟩ := r.get e
    exact ⟨a, vs, h1, .inl (.inr ⟨o, h2⟩), h3⟩
  · cases h
theorem RelS.mlst (r : RelS K rs H S) {n : Nat} {xs : List D} (h : S[n]? = some (.lst xs)) : ∃ a vs, rs[n]? = some a ∧ H a = some (.lst vs) ∧ Reps K H rs xs vs := by
  obtain ⟨a, h1, vs, h2, h3⟩ := r.get h
  exact ⟨a, vs, h1, h2, h3⟩
end

/-! ### + - * // % ** -/
def newL (xs : List D) (S : Sto) : Option (D × Sto) := some (.loc S.length, S ++ [.lst xs])
def fAdd : D → D → Sto → Option (D × Sto)
  | .int i, .int j, S => some (.int (i + j), S)
  | .str x, .str y, S => if x.length + y.length ≤ big then some (.str (x ++ y), S) else none
  | .tup x, .tup y, S => if x.length + y.length ≤ big then some (.tup (x ++ y), S) else none
  | .loc m, .loc n, S => match S[m]?, S[n]? with
    | some (.lst x), some (.lst y) => if x.length + y.length ≤ big then newL (x ++ y) S else none
    | _, _ => none
  | _, _, _ => none
def fInt (g : Int → Int → Int) (c : Int → Int → Prop) [∀ i j, Decidable (c i j)] : D → D → Sto → Option (D × Sto)
  | .int i, .int j, S => if c i j then some (.int (g i j), S) else none
  | _, _, _ => none
def fCmp (g : Int → Int → Bool) : D → D → Sto → Option (D × Sto)
  | .int i, .int j, S => some (.bl (g i j), S)
  | _, _, _ => none
instance {i j : Int} : Decidable (IntMulOk i j) := by unfold IntMulOk; exact inferInstance
abbrev DivOk (i j : Int) : Prop := j ≠ 0 ∧ Builtin.divisionGoesByPylong i j = false
abbrev PowOk (i j : Int) : Prop := 0 ≤ j ∧ j ≤ 1000000 ∧ i.natAbs < 2 ^ 64
def fSub := fInt (· - ·) fun _ _ => True
def fMul := fInt (· * ·) IntMulOk
def fDiv := fInt Int.fdiv DivOk
def fMod := fInt Int.fmod fun _ j => j ≠ 0
def fPow := fInt (fun i j => i ^ j.toNat) PowOk
def fLt := fCmp fun i j => decide (i < j)
def fLe := fCmp fun i j => decide (i ≤ j)
def fGt := fCmp fun i j => decide (j < i)
def fGe := fCmp fun i j => decide (j ≤ i)
def fNeg : D → Sto → Option (D × Sto)
  | .int i, S => some (.int (-i), S)
  | _, _ => none
/-- == of flat values -/
def scalD : D → D → Option Bool
  | .int i, .int j => some (decide (i = j))
  | .str x, .str y => some (decide (x = y))
  | .bl a, .bl b => some (decide (a = b))
  | .non, .non => some true
  | _, _ => none
section
variable {X : Cx} {K : PySem.W.Frag}
theorem okv {K : PySem.W.Frag} {W : WX} {σ : L2.St} {H : Hp} {rs : List Addr} {d : D} {S : Sto} {Q : VK} {v : V} (h : OkE K W σ H rs (.ofO (some (d, S))) Q) (r : RelS K rs H S) (p : Rep K H rs d v) : Q v H := h v H rs (Ext.refl _ _) r p
theorem okn {K : PySem.W.Frag} {W : WX} {σ : L2.St} {H : Hp} {rs : List Addr} {Q : VK} (h : OkE K W σ H rs (.ofO none) Q) : False := h
/-- a new tuple -/
theorem oktup {K : PySem.W.Frag} {W : WX} {σ : L2.St} {H : Hp} {rs : List Addr} {ds : List D} {vs : List V} {S : Sto} {Q : VK} (h : OkE K W σ H rs (.ofO (some (.tup ds, S))) Q) (r : RelS K rs H S) (p : Reps K H rs ds vs) : ∀ q, H q = none → Q (.ref q) (upd H q (.tup vs)) := fun q hq =>
  h _ _ rs (Ext.new hq) (r.new hq) (rep_tup.mpr ⟨q, vs, rfl, SqT.of upd_same, Reps.mono (Ext.new hq) _ _ p⟩)
/-- a new list -/
theorem oklst {K : PySem.W.Frag} {W : WX} {σ : L2.St} {H : Hp} {rs : List Addr} {ds : List D} {vs : List V} {S : Sto} {Q : VK} (h : OkE K W σ H rs (.ofO (newL ds S)) Q) (r : RelS K rs H S) (p : Reps K H rs ds vs) : ∀ q, H q = none → Q (.ref q) (upd H q (.lst vs)) := fun q hq =>
  h _ _ _ (Ext.push hq) (r.push hq ⟨vs, upd_same, Reps.mono (Ext.push hq) _ _ p⟩) (rep_loc.mpr ⟨q, rfl, by rw [← r.len, List.getElem?_append_right (Nat.le_refl _)]; simp⟩)
theorem op_divP : OpR X (binaryOp .FloorDiv) (rI DivOk fun i j => .int (i.fdiv j)) := opI fun _ _ _ _ _ _ _ hc q => floordiv_int hc.1 q (.inl hc.2)
theorem op_mulP : OpR X (binaryOp .Mult) (rI IntMulOk fun i j => .int (i * j)) := opI fun _ _ _ _ _ _ _ hc q => mul_int q hc
def rAddS : R2 := fun x y H Q => ∃ i j, x = .str i ∧ y = .str j ∧ i.length + j.length ≤ sizeLine ∧ Q (.str (i ++ j)) H
def rAddA (K : PySem.W.Frag) : R2 := fun x y H Q => rI0 (fun i j => .int (i + j)) x y H Q ∨ (rAddS x y H Q ∨ (rCatA K x y H Q ∨ rCat x y H Q))
theorem op_addA : OpR X (binaryOp .Add) (rAddA X.K) := op_add.or (OpR.or op_add_str (op_catA.or op_cat))
theorem fits_add : Fits2 K fAdd (rAddA K) := by
  intro W σ rs H S da db x y Q r p q h
  cases da with
  | int i =>
    cases db with
    | int j => exact .inl ⟨i, j, rep_int.mp p, rep_int.mp q, okv h r (rep_int.mpr rfl)⟩
    | _ => exact h.elim
  | str i =>
    cases db with
    | str j =>
      simp only [fAdd] at h
      split at h
      · rename_i hz
        exact .inr (.inl ⟨i, j, rep_str.mp p, rep_str.mp q, big_le hz, okv h r (rep_str.mpr rfl)⟩)
      · exact h.elim
    | _ => exact h.elim
  | tup i =>
    cases db with
    | tup j =>
      simp only [fAdd] at h
      split at h
      · rename_i hz
        obtain ⟨a, vs, rfl, ha, pa⟩ := rep_tup.mp p
        obtain ⟨b, ws, rfl, hb, pb⟩ := rep_tup.mp q
        refine .inr (.inr (.inl ⟨a, b, vs, ws, rfl, rfl, ha, hb, by rw [pa.length, pb.length]; exact big_le hz, fun e => ?_, fun _ e => ?_, fun _ _ => ?_⟩))
        · subst e
          have l := pa.length
          have : i = [] := by cases i with | nil => rfl | cons _ _ => simp at l
          subst this
          exact okv h r q
        · subst e
          have l := pb.length
          have : j = [] := by cases j with | nil => rfl | cons _ _ => simp at l
          subst this
          rw [List.append_nil] at h
          exact okv h r p
        · exact oktup h r (pa.append pb)
      · exact h.elim
    | _ => exact h.elim
  | loc m =>
    cases db with
    | loc n =>
      simp only [fAdd] at h
      split at h
      · rename_i xs ys e1 e2
        split at h
        · rename_i hz
          obtain ⟨a, vs, ha1, ha, pa⟩ := r.mlst e1
          obtain ⟨b, ws, hb1, hb, pb⟩ := r.mlst e2
          obtain ⟨a', rfl, ea⟩ := rep_loc.mp p
          obtain ⟨b', rfl, eb⟩ := rep_loc.mp q
          rw [ha1] at ea; cases ea
          rw [hb1] at eb; cases eb
          exact .inr (.inr (.inr ⟨a, b, vs, ws, rfl, rfl, ha, hb, by rw [pa.length, pb.length]; exact big_le hz, oklst h r (pa.append pb)⟩))
        · exact h.elim
      · exact h.elim
    | _ => exact h.elim
  | _ => exact h.elim
theorem fits_int {g : Int → Int → Int} {c : Int → Int → Prop} [∀ i j, Decidable (c i j)] : Fits2 K (fInt g c) (rI c fun i j => .int (g i j)) := by
  intro W σ rs H S da db x y Q r p q h
  cases da with
  | int i =>
    cases db with
    | int j =>
      simp only [fInt] at h
      split at h
      · rename_i hz
        exact ⟨i, j, rep_int.mp p, rep_int.mp q, hz, okv h r (rep_int.mpr rfl)⟩
      · exact h.elim
    | _ => exact h.elim
  | _ => exact h.elim
theorem fits_cmp {g : Int → Int → Bool} : Fits2 K (fCmp g) (rI0 fun i j => .bl (g i j)) := by
  intro W σ rs H S da db x y Q r p q h
  cases da with
  | int i =>
    cases db with
    | int j => exact ⟨i, j, rep_int.mp p, rep_int.mp q, okv h r (rep_bl.mpr rfl)⟩
    | _ => exact h.elim
  | _ => exact h.elim
theorem op_subP : OpR X (binaryOp .Sub) (rI (fun _ _ => True) fun i j => .int (i - j)) := opI fun _ _ _ _ _ _ _ _ q => sub_int q
theorem op_powP : OpR X (binaryOp .Pow) (rI PowOk fun i j => .int (i ^ j.toNat)) := opI fun _ _ _ _ _ _ _ hc q => pow_int_small hc.1 hc.2.1 hc.2.2 q
section
variable {W : WX} {a b e : Expr} {pos : Pos} {ma mb : EM}
theorem e_add (ha : SimE X W a ma) (hb : SimE X W b mb) : SimE X W (.BinOp a .Add b pos) (dBin fAdd ma mb) := e_op op_addA fits_add ha hb
theorem e_sub (ha : SimE X W a ma) (hb : SimE X W b mb) : SimE X W (.BinOp a .Sub b pos) (dBin fSub ma mb) := e_op op_subP fits_int ha hb
theorem e_mul (ha : SimE X W a ma) (hb : SimE X W b mb) : SimE X W (.BinOp a .Mult b pos) (dBin fMul ma mb) := e_op op_mulP fits_int ha hb
theorem e_div (ha : SimE X W a ma) (hb : SimE X W b mb) : SimE X W (.BinOp a .FloorDiv b pos) (dBin fDiv ma mb) := e_op op_divP fits_int ha hb
theorem e_mod (ha : SimE X W a ma) (hb : SimE X W b mb) : SimE X W (.BinOp a .Mod b pos) (dBin fMod ma mb) := e_op op_modN fits_int ha hb
theorem e_pow (ha : SimE X W a ma) (hb : SimE X W b mb) : SimE X W (.BinOp a .Pow b pos) (dBin fPow ma mb) := e_op op_powP fits_int ha hb
theorem e_neg (ha : SimE X W a ma) : SimE X W (.UnaryOp .USub a pos) (dUn fNeg ma) := e_un un_neg (by
  intro W σ rs H S da x Q r p h
  cases da with
  | int i => exact ⟨i, rep_int.mp p, okv h r (rep_int.mpr rfl)⟩
  | _ => exact h.elim) ha
theorem e_lt (ha : SimE X W a ma) (hb : SimE X W b mb) : SimE X W (.Compare a [.Lt] [b] pos) (dBin fLt ma mb) := e_cmp op_lt fits_cmp (nomark _) ha hb
theorem e_le (ha : SimE X W a ma) (hb : SimE X W b mb) : SimE X W (.Compare a [.LtE] [b] pos) (dBin fLe ma mb) := e_cmp op_le fits_cmp (nomark _) ha hb
theorem e_gt (ha : SimE X W a ma) (hb : SimE X W b mb) : SimE X W (.Compare a [.Gt] [b] pos) (dBin fGt ma mb) := e_cmp op_gt fits_cmp (nomark _) ha hb
theorem e_ge (ha : SimE X W a ma) (hb : SimE X W b mb) : SimE X W (.Compare a [.GtE] [b] pos) (dBin fGe ma mb) := e_cmp op_ge fits_cmp (nomark _) ha hb
theorem t_lt (ha : SimE X W a ma) (hb : SimE X W b mb) : SimT X W (.Compare a [.Lt] [b] pos) (dB (dBin fLt ma mb)) := t_cmp op_lt fits_cmp (nomark _) ha hb
theorem t_le (ha : SimE X W a ma) (hb : SimE X W b mb) : SimT X W (.Compare a [.LtE] [b] pos) (dB (dBin fLe ma mb)) := t_cmp op_le fits_cmp (nomark _) ha hb
theorem t_gt (ha : SimE X W a ma) (hb : SimE X W b mb) : SimT X W (.Compare a [.Gt] [b] pos) (dB (dBin fGt ma mb)) := t_cmp op_gt fits_cmp (nomark _) ha hb
theorem t_ge (ha : SimE X W a ma) (hb : SimE X W b mb) : SimT X W (.Compare a [.GtE] [b] pos) (dB (dBin fGe ma mb)) := t_cmp op_ge fits_cmp (nomark _) ha hb
end
end

/-! ### == != is -/
section
variable {K : PySem.W.Frag} {H : Hp} {rs : List Addr}
theorem scal_ok {da db : D} {x y : V} {k : Bool} (p : Rep K H rs da x) (q : Rep K H rs db y) (h : scalD da db = some k) : scal x y = true ∧ decide (x = y) = k := by
  cases da <;> cases db <;> first | (cases h; done) | skip
  · rw [rep_non] at p q; subst p q; cases h; exact ⟨rfl, by decide⟩
  · rename_i i j
    rw [rep_bl] at p q; subst p q; cases h; refine ⟨rfl, ?_⟩
    cases i <;> cases j <;> decide
  · rename_i i j
    rw [rep_int] at p q; subst p q; cases h; refine ⟨rfl, ?_⟩
    by_cases e : i = j
    · subst e; simp
    · simp [e]
  · rename_i i j
    rw [rep_str] at p q; subst p q; cases h; refine ⟨rfl, ?_⟩
    by_cases e : i = j
    · subst e; simp
    · simp [e]
end
def fEq : D → D → Sto → Option (D × Sto) := fun a b S => (scalD a b).map fun k => (.bl k, S)
def fNe : D → D → Sto → Option (D × Sto) := fun a b S => (scalD a b).map fun k => (.bl (!k), S)
def isNon : D → Bool
  | .non => true
  | _ => false
def fIsN : D → D → Sto → Option (D × Sto)
  | a, .non, S => some (.bl (isNon a), S)
  | _, _, _ => none
def fIsNotN : D → D → Sto → Option (D × Sto)
  | a, .non, S => some (.bl (!isNon a), S)
  | _, _, _ => none
def fIsB : D → D → Sto → Option (D × Sto)
  | .bl a, .bl b, S => some (.bl (decide (a = b)), S)
  | _, _, _ => none
def fIsNotB : D → D → Sto → Option (D × Sto)
  | .bl a, .bl b, S => some (.bl (!decide (a = b)), S)
  | _, _, _ => none
section
variable {X : Cx} {K : PySem.W.Frag}
theorem rep_isNon {H : Hp} {rs : List Addr} {d : D} {v : V} (p : Rep K H rs d v) : decide (v = .non) = isNon d := by
  cases d with
  | non => rw [rep_non] at p; subst p; rfl
  | bl b => rw [rep_bl] at p; subst p; rfl
  | int b => rw [rep_int] at p; subst p; rfl
  | str b => rw [rep_str] at p; subst p; rfl
  | ty b => rw [rep_ty] at p; subst p; rfl
  | adr b => rw [rep_adr] at p; subst p; rfl
  | loc n => obtain ⟨a, rfl, _⟩ := rep_loc.mp p; rfl
  | tup ds => obtain ⟨a, vs, rfl, _⟩ := rep_tup.mp p; rfl
theorem fits_eq : Fits2 K fEq rEq := by
  intro W σ rs H S da db x y Q r p q h
  unfold fEq at h
  cases e : scalD da db with
  | none => rw [e] at h; exact h.elim
  | some k =>
    rw [e] at h
    obtain ⟨h1, h2⟩ := scal_ok p q e
    exact ⟨h1, by rw [h2]; exact okv h r (rep_bl.mpr rfl)⟩
theorem fits_ne : Fits2 K fNe rNe := by
  intro W σ rs H S da db x y Q r p q h
  unfold fNe at h
  cases e : scalD da db with
  | none => rw [e] at h; exact h.elim
  | some k =>
    rw [e] at h
    obtain ⟨h1, h2⟩ := scal_ok p q e
    exact ⟨h1, by rw [h2]; exact okv h r (rep_bl.mpr rfl)⟩
def rIsN : R2 := fun x y H Q => y = .non ∧ Q (.bl (decide (x = .non))) H
def rNotN : R2 := fun x y H Q => y = .non ∧ Q (.bl (!decide (x = .non))) H
theorem fits_isN : Fits2 K fIsN rIsN := by
  intro W σ rs H S da db x y Q r p q h
  cases db with
  | non => exact ⟨rep_non.mp q, by rw [rep_isNon p]; exact okv h r (rep_bl.mpr rfl)⟩
  | _ => cases da <;> exact h.elim
theorem fits_notN : Fits2 K fIsNotN rNotN := by
  intro W σ rs H S da db x y Q r p q h
  cases db with
  | non => exact ⟨rep_non.mp q, by rw [rep_isNon p]; exact okv h r (rep_bl.mpr rfl)⟩
  | _ => cases da <;> exact h.elim
theorem fits_isB : Fits2 K fIsB rIsB := by
  intro W σ rs H S da db x y Q r p q h
  cases da with
  | bl a =>
    cases db with
    | bl b => exact ⟨a, b, rep_bl.mp p, rep_bl.mp q, okv h r (rep_bl.mpr rfl)⟩
    | _ => exact h.elim
  | _ => cases db <;> exact h.elim
theorem fits_notB : Fits2 K fIsNotB rNotB := by
  intro W σ rs H S da db x y Q r p q h
  cases da with
  | bl a =>
    cases db with
    | bl b => exact ⟨a, b, rep_bl.mp p, rep_bl.mp q, okv h r (rep_bl.mpr rfl)⟩
    | _ => exact h.elim
  | _ => cases db <;> exact h.elim
section
variable {W : WX} {a b e : Expr} {pos : Pos} {ma mb : EM}
theorem e_eq (ha : SimE X W a ma) (hb : SimE X W b mb) : SimE X W (.Compare a [.Eq] [b] pos) (dBin fEq ma mb) := e_cmp op_eq fits_eq (nomark _) ha hb
theorem e_ne (ha : SimE X W a ma) (hb : SimE X W b mb) : SimE X W (.Compare a [.NotEq] [b] pos) (dBin fNe ma mb) := e_cmp op_ne fits_ne (nomark _) ha hb
theorem t_eq (ha : SimE X W a ma) (hb : SimE X W b mb) : SimT X W (.Compare a [.Eq] [b] pos) (dB (dBin fEq ma mb)) := t_cmp op_eq fits_eq (nomark _) ha hb
theorem t_ne (ha : SimE X W a ma) (hb : SimE X W b mb) : SimT X W (.Compare a [.NotEq] [b] pos) (dB (dBin fNe ma mb)) := t_cmp op_ne fits_ne (nomark _) ha hb
theorem e_isN (ha : SimE X W a ma) (hb : SimE X W b mb) : SimE X W (.Compare a [.Is] [b] pos) (dBin fIsN ma mb) := e_cmp op_isN fits_isN (nomark _) ha hb
theorem e_notN (ha : SimE X W a ma) (hb : SimE X W b mb) : SimE X W (.Compare a [.IsNot] [b] pos) (dBin fIsNotN ma mb) := e_cmp op_notN fits_notN (nomark _) ha hb
theorem t_isN (ha : SimE X W a ma) (hb : SimE X W b mb) : SimT X W (.Compare a [.Is] [b] pos) (dB (dBin fIsN ma mb)) := t_cmp op_isN fits_isN (nomark _) ha hb
theorem t_notN (ha : SimE X W a ma) (hb : SimE X W b mb) : SimT X W (.Compare a [.IsNot] [b] pos) (dB (dBin fIsNotN ma mb)) := t_cmp op_notN fits_notN (nomark _) ha hb
theorem e_isB (ha : SimE X W a ma) (hb : SimE X W b mb) : SimE X W (.Compare a [.Is] [b] pos) (dBin fIsB ma mb) := e_cmp op_isBl fits_isB (nomark _) ha hb
theorem e_notB (ha : SimE X W a ma) (hb : SimE X W b mb) : SimE X W (.Compare a [.IsNot] [b] pos) (dBin fIsNotB ma mb) := e_cmp op_notBl fits_notB (nomark _) ha hb
theorem t_isB (ha : SimE X W a ma) (hb : SimE X W b mb) : SimT X W (.Compare a [.Is] [b] pos) (dB (dBin fIsB ma mb)) := t_cmp op_isBl fits_isB (nomark _) ha hb
theorem t_notB (ha : SimE X W a ma) (hb : SimE X W b mb) : SimT X W (.Compare a [.IsNot] [b] pos) (dB (dBin fIsNotB ma mb)) := t_cmp op_notBl fits_notB (nomark _) ha hb
end
end
end Sh

set_option Elab.async false
set_option linter.all false
set_option maxRecDepth 100000
set_option maxHeartbeats 2000000
set_option autoImplicit false
namespace Sh
open PySem PySem.Spec PyProof.Rows L2

/-! ### tables -/
section
variable {κ : Type} [DecidableEq κ] {K : PySem.W.Frag} {H : Hp} {rs : List Addr}
def valD (kvs : List (κ × D)) (k : κ) : Option D := (kvs.find? fun kv => decide (kv.1 = k)).map (·.2)
def putD (kvs : List (κ × D)) (k : κ) (v : D) : List (κ × D) :=
  if (kvs.any fun kv => decide (kv.1 = k)) = true then kvs.map (fun kv => if kv.1 = k then (kv.1, v) else kv) else kvs ++ [(k, v)]
theorem valD_cons (p : κ × D) (r : List (κ × D)) (k : κ) : valD (p :: r) k = if p.1 = k then some p.2 else valD r k := by
  unfold valD
  by_cases e : p.1 = k
  · simp [List.find?_cons, e]
  · simp [List.find?_cons, e]
theorem RepK.val : ∀ {kvs : List (κ × D)} {kw : List (κ × V)} (k : κ), RepK K H rs kvs kw → match valD kvs k with
    | some d => ∃ v, valV kw k = some v ∧ Rep K H rs d v
    | none => valV kw k = none
  | [], kw, k, h => by
    have e : kw = [] := h
    subst e
    rfl
  | p :: ps, kw, k, ⟨q, r, e, h1, h2, h3⟩ => by
    subst e
    have ih := RepK.val (kvs := ps) (kw := r) k h3
    rw [valD_cons]
    by_cases e : p.1 = k
    · rw [if_pos e]
      exact ⟨q.2, valV_pos (h1.symm.trans e), h2⟩
    · rw [if_neg e]
      have e2 : ¬ q.1 = k := fun z => e (h1.trans z)
      rw [valV_neg e2]
      exact ih
theorem RepK.any : ∀ {kvs : List (κ × D)} {kw : List (κ × V)} (k : κ), RepK K H rs kvs kw → (kvs.any fun kv => decide (kv.1 = k)) = kw.any fun kv => decide (kv.1 = k)
  | [], kw, k, h => by
    have e : kw = [] := h
    subst e
    rfl
  | p :: ps, kw, k, ⟨q, r, e, h1, h2, h3⟩ => by
    subst e
    rw [List.any_cons, List.any_cons, h1, RepK.any k h3]
theorem RepK.len : ∀ {kvs : List (κ × D)} {kw : List (κ × V)}, RepK K H rs kvs kw → kw.length = kvs.length
  | [], kw, h => by
    have e : kw = [] := h
    subst e
    rfl
  | p :: ps, kw, ⟨q, r, e, h1, h2, h3⟩ => by
    subst e
    simp [RepK.len h3]
theorem RepK.repl : ∀ {kvs : List (κ × D)} {kw : List (κ × V)} (k : κ) {d : D} {v : V}, RepK K H rs kvs kw → Rep K H rs d v →
    RepK K H rs (kvs.map fun kv => if kv.1 = k then (kv.1, d) else kv) (kw.map fun kv => if kv.1 = k then (kv.1, v) else kv)
  | [], kw, k, d, v, h, g => by
    have e : kw = [] := h
    subst e
    exact rfl
  | p :: ps, kw, k, d, v, ⟨q, r, e, h1, h2, h3⟩, g => by
    subst e
    refine ⟨if q.1 = k then (q.1, v) else q, _, rfl, ?_, ?_, RepK.repl k h3 g⟩
    · show (if p.1 = k then (p.1, d) else p).1 = (if q.1 = k then (q.1, v) else q).1
      by_cases e : p.1 = k
      · rw [if_pos e, if_pos (h1.symm.trans e)]; exact h1
      · rw [if_neg e, if_neg (fun z => e (h1.trans z))]; exact h1
    · show Rep K H rs (if p.1 = k then (p.1, d) else p).2 (if q.1 = k then (q.1, v) else q).2
      by_cases e : p.1 = k
      · rw [if_pos e, if_pos (h1.symm.trans e)]; exact g
      · rw [if_neg e, if_neg (fun z => e (h1.trans z))]; exact h2
theorem RepK.snoc : ∀ {kvs : List (κ × D)} {kw : List (κ × V)} (k : κ) {d : D} {v : V}, RepK K H rs kvs kw → Rep K H rs d v → RepK K H rs (kvs ++ [(k, d)]) (kw ++ [(k, v)])
  | [], kw, k, d, v, h, g => by
    have e : kw = [] := h
    subst e
    exact ⟨(k, v), [], rfl, rfl, g, rfl⟩
  | p :: ps, kw, k, d, v, ⟨q, r, e, h1, h2, h3⟩, g => by
    subst e
    exact ⟨q, _, rfl, h1, h2, RepK.snoc k h3 g⟩
theorem RepK.put {kvs : List (κ × D)} {kw : List (κ × V)} (k : κ) {d : D} {v : V} (h : RepK K H rs kvs kw) (g : Rep K H rs d v) : RepK K H rs (putD kvs k d) (putK kw k v) := by
  unfold putD putK
  rw [← h.any k]
  by_cases e : (kvs.any fun kv => decide (kv.1 = k)) = true
  · rw [if_pos e, if_pos e]; exact h.repl k g
  · rw [if_neg e, if_neg e]; exact h.snoc k g
theorem RepK.get : ∀ {kvs : List (κ × D)} {kw : List (κ × V)} {i : Nat} {k : κ} {v : V}, RepK K H rs kvs kw → kw[i]? = some (k, v) → ∃ d, kvs[i]? = some (k, d) ∧ Rep K H rs d v
  | [], kw, i, k, v, h, e => by
    have e1 : kw = [] := h
    subst e1
    simp at e
  | p :: ps, kw, 0, k, v, ⟨q, r, e1, h1, h2, h3⟩, e => by
    subst e1
    simp at e
    subst e
    exact ⟨p.2, by rw [List.getElem?_cons_zero]; exact congrArg some (Prod.ext h1 rfl), h2⟩
  | p :: ps, kw, i + 1, k, v, ⟨q, r, e1, h1, h2, h3⟩, e => by
    subst e1
    obtain ⟨d, h4, h5⟩ := RepK.get (i := i) h3 (by simpa using e)
    exact ⟨d, by simpa using h4, h5⟩
end
def toKey : D → Option Key
  | .int i => some (.inl i)
  | .str x => some (.inr x)
  | _ => none
def keyD : Key → D
  | .inl i => .int i
  | .inr x => .str x
def dctAt (S : Sto) (n : Nat) : Option (List (Key × D)) := match S[n]? with
  | some (.dct kvs) => some kvs
  | _ => none
section
variable {K : PySem.W.Frag} {H : Hp} {rs : List Addr} {S : Sto}
theorem toKey_ok {d : D} {v : V} {k : Key} (p : Rep K H rs d v) (h : toKey d = some k) : v = kV k := by
  cases d with
  | int i => cases h; exact rep_int.mp p
  | str i => cases h; exact rep_str.mp p
  | _ => cases h
theorem keyD_ok (k : Key) : Rep K H rs (keyD k) (kV k) := by
  cases k with
  | inl i => exact rep_int.mpr rfl
  | inr i => exact rep_str.mpr rfl
theorem RelS.dct (r : RelS K rs H S) {n : Nat} {kvs : List (Key × D)} (h : dctAt S n = some kvs) : ∃ a kw, rs[n]? = some a ∧ H a = some (.dK kw) ∧ RepK K H rs kvs kw ∧ S[n]? = some (.dct kvs) := by
  unfold dctAt at h
  split at h
  · rename_i ys e
    cases h
    obtain ⟨a, h1, vs, h2, h3⟩ := r.get e
    exact ⟨a, vs, h1, h2, h3, e⟩
  · cases h
end

/-! ### subscripts -/
def fIx : D → D → Sto → Option (D × Sto)
  | .tup xs, .int i, S => (atI xs i).map fun d => (d, S)
  | .loc n, .int i, S => match S[n]? with
    | some (.lst xs) => (atI xs i).map fun d => (d, S)
    | some (.ro xs) => (atI xs i).map fun d => (d, S)
    | some (.dct kvs) => (valD kvs (.inl i)).map fun d => (d, S)
    | some (.rod kvs) => (valD kvs (.inl i)).map fun d => (d, S)
    | _ => none
  | .loc n, .str x, S => match S[n]? with
    | some (.dct kvs) => (valD kvs (.inr x)).map fun d => (d, S)
    | some (.rod kvs) => (valD kvs (.inr x)).map fun d => (d, S)
    | _ => none
  | .str z, .int i, S => if z.length ≤ big then (atI z.cps.toList i).map fun c => (.str ⟨#[c]⟩, S) else none
  | _, _, _ => none
def rIxD : R2 := fun x y H Q => ∃ a v, x = .ref a ∧ DGet H a y (some v) ∧ Q v H
def rIxA (K : PySem.W.Frag) : R2 := fun x y H Q => rIx K x y H Q ∨ rIxD x y H Q
section
variable {X : Cx} {K : PySem.W.Frag} {H : Hp} {rs : List Addr} {S : Sto}
theorem ix_dict (hu : X.A.units + 1 < cLine) : IxR X rIxD := by
  intro value slice pins s σ H x y v u Q I rx ry h hs
  obtain ⟨a, z, rfl, g, q⟩ := h
  cases rx
  exact PyProof.Rows.tail_any (dict_typeIs I g) PySem.F.slot_dict_getitem.lookup (d_getItem hu I g ry fun w' s3 I3 rw' => ⟨z, H, I3, rw', q⟩) hs
theorem ix_any (hu : X.A.units + 1 < cLine) : IxR X (rIxA X.K) := IxR.or ix_seq (ix_dict hu)
theorem Reps.at {ds : List D} {vs : List V} {i : Int} {d : D} (h : Reps K H rs ds vs) (e : atI ds i = some d) : ∃ v, atI vs i = some v ∧ Rep K H rs d v := by
  unfold atI at e ⊢
  rw [h.length]
  cases q : ixN ds.length i with
  | none => rw [q] at e; cases e
  | some j =>
    rw [q] at e
    obtain ⟨v, h1, h2⟩ := h.get (show ds[j]? = some d from e)
    exact ⟨v, h1, h2⟩
theorem fits_ix : Fits2 K fIx (rIxA K) := by
  intro W σ rs H S da db x y Q r p q h
  have opt : ∀ {α : Type} {o : Option α} {f : α → D × Sto}, OkE K W σ H rs (.ofO (o.map f)) Q → ∃ d, o = some d ∧ OkE K W σ H rs (.ofO (some (f d))) Q := fun {α o f} h => by
    cases o with
    | none => exact h.elim
    | some d => exact ⟨d, rfl, h⟩
  cases da with
  | tup xs =>
    cases db with
    | int i =>
      obtain ⟨d, e, h⟩ := opt (show OkE K W σ H rs (.ofO ((atI xs i).map fun d => (d, S))) Q from h)
      obtain ⟨a, vs, rfl, h1, h2⟩ := rep_tup.mp p
      obtain ⟨v, h3, h4⟩ := h2.at e
      exact .inl (.inr (.inl ⟨a, vs, i, v, rfl, rep_int.mp q, h1, h3, okv h r h4⟩))
    | _ => exact h.elim
  | str z =>
    cases db with
    | int i =>
      simp only [fIx] at h
      split at h
      · rename_i hz
        obtain ⟨c, e, h⟩ := opt h
        exact .inl (.inr (.inr ⟨z, i, c, rep_str.mp p, rep_int.mp q, big_le hz, e, okv h r (rep_str.mpr rfl)⟩))
      · exact h.elim
    | _ => exact h.elim
  | loc n =>
    have dd : ∀ (k : Key) (kvs : List (Key × D)), y = kV k → S[n]? = some (.dct kvs) → OkE K W σ H rs (.ofO ((valD kvs k).map fun d => (d, S))) Q → rIxD x y H Q := fun k kvs ey e h => by
      obtain ⟨d, e2, h⟩ := opt h
      obtain ⟨a, h1, kw, h2, h3⟩ := r.get e
      obtain ⟨a', rfl, ea⟩ := rep_loc.mp p
      rw [h1] at ea; cases ea
      have hv := h3.val k
      rw [e2] at hv
      obtain ⟨v, h4, h5⟩ := hv
      refine ⟨a, v, rfl, ?_, okv h r h5⟩
      subst ey
      rw [← h4]
      exact DGet.k h2
    have dr : ∀ (k : Key) (kvs : List (Key × D)), y = kV k → S[n]? = some (.rod kvs) → OkE K W σ H rs (.ofO ((valD kvs k).map fun d => (d, S))) Q → rIxD x y H Q := fun k kvs ey e h => by
      obtain ⟨d, e2, h⟩ := opt h
      obtain ⟨a, h1, o, kw, h2, h3⟩ := r.get e
      obtain ⟨a', rfl, ea⟩ := rep_loc.mp p
      rw [h1] at ea; cases ea
      have hv := h3.val k
      rw [e2] at hv
      obtain ⟨v, h4, h5⟩ := hv
      refine ⟨a, v, rfl, ?_, okv h r h5⟩
      subst ey
      rw [← h4]
      exact .inl ⟨kw, k, .inr ⟨o, h2⟩, rfl, rfl⟩
    cases db with
    | int i =>
      simp only [fIx] at h
      have ll : ∀ xs, lstAt S n = some xs → OkE K W σ H rs (.ofO ((atI xs i).map fun d => (d, S))) Q → rIxA K x y H Q := fun xs e h => by
        obtain ⟨d, e2, h⟩ := opt h
        obtain ⟨a, vs, h1, h2, h3⟩ := r.lst e
        obtain ⟨a', rfl, ea⟩ := rep_loc.mp p
        rw [h1] at ea; cases ea
        obtain ⟨v, h4, h5⟩ := h3.at e2
        exact .inl (.inl ⟨a, vs, i, v, rfl, rep_int.mp q, h2, h4, okv h r h5⟩)
      split at h
      · rename_i xs e
        exact ll xs (by unfold lstAt; rw [e]) h
      · rename_i xs e
        exact ll xs (by unfold lstAt; rw [e]) h
      · rename_i kvs e
        exact .inr (dd (.inl i) kvs (rep_int.mp q) e h)
      · rename_i kvs e
        exact .inr (dr (.inl i) kvs (rep_int.mp q) e h)
      · exact h.elim
    | str i =>
      simp only [fIx] at h
      split at h
      · rename_i kvs e
        exact .inr (dd (.inr i) kvs (rep_str.mp q) e h)
      · rename_i kvs e
        exact .inr (dr (.inr i) kvs (rep_str.mp q) e h)
      · exact h.elim
    | _ => exact h.elim
  | _ => exact h.elim
section
variable {W : WX} {a b e : Expr} {pos : Pos} {ma mb : EM}
theorem e_sub_ (hu : X.A.units + 1 < cLine) (ha : SimE X W a ma) (hb : SimE X W b mb) (hs : PlainIx b := by intro _ _; rfl) : SimE X W (.Subscript a b pos) (dBin fIx ma mb) := e_ix (ix_any hu) fits_ix hs ha hb
end
end

/-! ### displays -/
def dTup (m : AM) : EM := fun env S => (m env S).bind fun ds S1 => if ds.length ≤ big then .val (.tup ds) S1 else .bad
def dLst (m : AM) : EM := fun env S => (m env S).bind fun ds S1 => if ds.length ≤ big then .val (.loc S1.length) (S1 ++ [.lst ds]) else .bad
def dDict : EM := fun _ S => .val (.loc S.length) (S ++ [.dct []])
section
variable {X : Cx} {W : WX} {es : List Expr} {pos : Pos} {m : AM}
theorem e_tup {x1 : Nat} (h : SimA X W es m) : SimE X W (.Tuple es x1 pos) (dTup m) := by
  refine PE.weaken (pe_tup h) fun σ H Q ⟨rs, env, S, st, h⟩ => ?_
  refine ⟨rs, env, S, st, bindAE h fun ds S1 vs H1 rs1 e1 r1 p1 h1 => ?_⟩
  split at h1
  · rename_i hz
    exact ⟨by rw [p1.length]; exact big_le hz, oktup (W := W) (σ := σ) h1 r1 p1⟩
  · exact h1.elim
theorem e_lst (h : SimA X W es m) : SimE X W (.List es pos) (dLst m) := by
  refine PE.weaken (pe_lst h) fun σ H Q ⟨rs, env, S, st, h⟩ => ?_
  refine ⟨rs, env, S, st, bindAE h fun ds S1 vs H1 rs1 e1 r1 p1 h1 => ?_⟩
  split at h1
  · rename_i hz
    exact ⟨by rw [p1.length]; exact big_le hz, oklst (W := W) (σ := σ) h1 r1 p1⟩
  · exact h1.elim
theorem e_dict : SimE X W (.Dict [] [] pos) dDict := by
  refine PE.weaken pe_dnewK fun σ H Q ⟨rs, env, S, st, h⟩ => ?_
  intro p hp
  exact h _ _ _ (Ext.push hp) (st.sto.push hp ⟨[], upd_same, rfl⟩) (rep_loc.mpr ⟨p, rfl, by rw [← st.sto.len, List.getElem?_append_right (Nat.le_refl _)]; simp⟩)
end

/-! ### slices -/
def cutD (xs : List D) (lo hi : Option Int) : List D := (xs.drop (HT.sIx xs.length 0 lo)).take (HT.sIx xs.length xs.length hi - HT.sIx xs.length 0 lo)
def fSl (lo hi : Option Int) : D → Sto → Option (D × Sto)
  | .tup xs, S => some (.tup (cutD xs lo hi), S)
  | .loc n, S => match S[n]? with
    | some (.lst xs) => newL (cutD xs lo hi) S
    | some (.ro xs) => newL (cutD xs lo hi) S
    | _ => none
  | .str z, S => if z.length ≤ big then some (.str (cutS z lo hi), S) else none
  | _, _ => none
/-- a part of a slice: none, or an expression -/
abbrev OM := En → Sto → Out (Option Int)
def oNone : OM := fun _ S => .val none S
def oSome (m : EM) : OM := fun env S => (m env S).bind fun d S1 => match d with
  | .int i => .val (some i) S1
  | _ => .bad
def dSl (m : EM) (lo hi : OM) : EM := fun env S => (m env S).bind fun d S1 => (lo env S1).bind fun l S2 => (hi env S2).bind fun u S3 => .ofO (fSl l u d S3)
def rSlAny (K : PySem.W.Frag) : V → Option Int → Option Int → Hp → VK → Prop := fun x lo hi H Q => rSlL K x lo hi H Q ∨ (rSlA K x lo hi H Q ∨ ∃ z, x = .str z ∧ z.length ≤ sizeLine ∧ Q (.str (cutS z lo hi)) H)
end Sh

set_option Elab.async false
set_option linter.all false
set_option maxRecDepth 100000
set_option maxHeartbeats 2000000
set_option autoImplicit false
namespace Sh
open PySem PySem.Spec PyProof.Rows L2

/-! ### slices -/
section
variable {X : Cx} {K : PySem.W.Frag} {H : Hp} {rs : List Addr} {S : Sto}
theorem Reps.cut {ds : List D} {vs : List V} (h : Reps K H rs ds vs) (lo hi : Option Int) : Reps K H rs (cutD ds lo hi) (cutV vs lo hi) := by
  unfold cutD cutV
  rw [h.length]
  exact (h.drop _).take _
theorem fits_sl (lo hi : Option Int) : Fits1 K (fSl lo hi) fun x H Q => rSlAny K x lo hi H Q := by
  intro W σ rs H S da x Q r p h
  have ll : ∀ (n : Nat) (xs : List D), da = .loc n → lstAt S n = some xs → OkE K W σ H rs (.ofO (newL (cutD xs lo hi) S)) Q → rSlAny K x lo hi H Q := fun n xs ed e h0 => by
    subst ed
    obtain ⟨a, vs, h1, h2, h3⟩ := r.lst e
    obtain ⟨a', rfl, ea⟩ := rep_loc.mp p
    rw [h1] at ea; cases ea
    exact .inl ⟨_, vs, rfl, h2, oklst h0 r (h3.cut lo hi)⟩
  cases da with
  | tup xs =>
    obtain ⟨a, vs, rfl, h1, h2⟩ := rep_tup.mp p
    refine .inr (.inl ⟨a, vs, rfl, h1, fun e => ?_, fun _ => oktup h r (h2.cut lo hi)⟩)
    have e2 : cutD xs lo hi = xs := by
      unfold cutD
      rw [← h2.length, e.1, e.2, List.drop_zero]
      rw [Nat.sub_zero, h2.length]
      exact List.take_length
    have h' : OkE K W σ H rs (.ofO (some (.tup xs, S))) Q := by
      have h0 : OkE K W σ H rs (.ofO (some (.tup (cutD xs lo hi), S))) Q := h
      rw [e2] at h0
      exact h0
    exact okv h' r p
  | str z =>
    simp only [fSl] at h
    split at h
    · rename_i hz
      exact .inr (.inr ⟨z, rep_str.mp p, big_le hz, okv h r (rep_str.mpr rfl)⟩)
    · exact h.elim
  | loc n =>
    simp only [fSl] at h
    split at h
    · rename_i xs e
      exact ll n xs rfl (by unfold lstAt; rw [e]) h
    · rename_i xs e
      exact ll n xs rfl (by unfold lstAt; rw [e]) h
    · exact h.elim
  | _ => exact h.elim
theorem sl_any : SlR X (rSlAny X.K) := SlR.or sl_list (SlR.or sl_tupA sl_str)
def rdO (K : PySem.W.Frag) (W : WX) (m : OM) : TO := fun σ H Q => ∃ rs env S, Stt K σ H rs env S ∧ match m env S with
  | .val d S' => ∀ H' rs', Ext H rs H' rs' → RelS K rs' H' S' → Q d H'
  | .exc x S' => ∀ c a H' rs', Ext H rs H' rs' → RelS K rs' H' S' → RepX K H' rs' x c a → W c a σ H'
  | .bad => False
def SimO (X : Cx) (W : WX) (e : Option Expr) (m : OM) : Prop := PO X e (rdO X.K W m)
theorem PO.weaken {X : Cx} {e : Option Expr} {t t' : TO} (h : PO X e t) (w : ∀ σ H Q, t' σ H Q → t σ H Q) : PO X e t' := ⟨fun pins s σ H Q I q => h.run pins s σ H Q I (w σ H Q q)⟩
theorem o_none {W : WX} : SimO X W none oNone := PO.weaken po_none fun σ H Q ⟨rs, env, S, st, h⟩ => h H rs (Ext.refl _ _) st.sto
theorem o_some {W : WX} {e : Expr} {m : EM} (h : SimE X W e m) : SimO X W (some e) (oSome m) := by
  refine PO.weaken (po_some h) fun σ H Q ⟨rs, env, S, st, h⟩ => ?_
  refine ⟨rs, env, S, st, ?_⟩
  unfold oSome at h
  cases q : m env S with
  | val d S1 =>
    rw [q] at h
    intro v H1 rs1 e1 r1 p1
    cases d with
    | int i => exact ⟨i, rep_int.mp p1, h H1 rs1 e1 r1⟩
    | _ => exact h.elim
  | exc x S1 => rw [q] at h; exact h
  | bad => rw [q] at h; exact h
theorem e_slice {W : WX} {e : Expr} {lo hi : Option Expr} {m : EM} {l u : OM} {p2 pos : Pos} (he : SimE X W e m) (hl : SimO X W lo l) (hu : SimO X W hi u) : SimE X W (.Subscript e (.Slice lo hi none p2) pos) (dSl m l u) := by
  refine PE.weaken (pe_slice sl_any he hl hu) fun σ H Q ⟨rs, env, S, st, h⟩ => ?_
  refine ⟨rs, env, S, st, bindEE h fun d S1 v H1 rs1 e1 r1 p1 h1 => ?_⟩
  refine ⟨rs1, env, S1, st.to e1 r1, ?_⟩
  cases q : l env S1 with
  | val a S2 =>
    rw [q] at h1
    intro H2 rs2 e2 r2
    have h2 := OkE.from e2 h1
    refine ⟨rs2, env, S2, (st.to e1 r1).to e2 r2, ?_⟩
    show match u env S2 with
      | .val d S' => _
      | .exc x S' => _
      | .bad => _
    have h2' : OkE X.K W σ H2 rs2 ((u env S2).bind fun u' S3 => .ofO (fSl a u' d S3)) Q := h2
    cases q2 : u env S2 with
    | val b S3 =>
      rw [q2] at h2'
      intro H3 rs3 e3 r3
      exact fits_sl a b W σ rs3 H3 S3 d v Q r3 (Rep.mono (e2.trans e3) _ _ p1) (OkE.from e3 h2')
    | exc x S3 => rw [q2] at h2'; exact h2'
    | bad => rw [q2] at h2'; exact h2'
  | exc x S2 => rw [q] at h1; exact h1
  | bad => rw [q] at h1; exact h1
end

/-! ### in -/
def toV : D → Option V
  | .non => some .non
  | .bl b => some (.bl b)
  | .int i => some (.int i)
  | .str x => some (.str x)
  | _ => none
def toVs : List D → Option (List V)
  | [] => some []
  | d :: ds => match toV d, toVs ds with
    | some v, some vs => some (v :: vs)
    | _, _ => none
section
variable {K : PySem.W.Frag} {H : Hp} {rs : List Addr}
theorem toV_ok {d : D} {v w : V} (p : Rep K H rs d v) (h : toV d = some w) : v = w ∧ flatV w = true := by
  cases d with
  | non => cases h; exact ⟨rep_non.mp p, rfl⟩
  | bl b => cases h; exact ⟨rep_bl.mp p, rfl⟩
  | int i => cases h; exact ⟨rep_int.mp p, rfl⟩
  | str x => cases h; exact ⟨rep_str.mp p, rfl⟩
  | _ => cases h
theorem toVs_ok : ∀ {ds : List D} {vs ws : List V}, Reps K H rs ds vs → toVs ds = some ws → vs = ws ∧ ws.all flatV = true
  | [], vs, ws, p, h => by
    unfold Reps at p
    cases h
    exact ⟨p, rfl⟩
  | d :: ds, vs, ws, p, h => by
    unfold Reps at p
    obtain ⟨v, r, rfl, p1, p2⟩ := p
    unfold toVs at h
    split at h
    · rename_i w ws' e1 e2
      cases h
      obtain ⟨rfl, f1⟩ := toV_ok p1 e1
      obtain ⟨rfl, f2⟩ := toVs_ok p2 e2
      exact ⟨rfl, by rw [List.all_cons, f1, f2]; rfl⟩
    · cases h
end
def inFlat (x : D) (xs : List D) : Option Bool := match toV x, toVs xs with
  | some v, some vs => some (inV v vs)
  | _, _ => none
/-- y in x: a list or tuple of flat items, a dict, a sign in a text -/
def inD (x y : D) (S : Sto) : Option Bool := match y with
  | .tup xs => inFlat x xs
  | .loc n => match S[n]? with
    | some (.lst xs) => inFlat x xs
    | some (.ro xs) => inFlat x xs
    | some (.dct kvs) => (toKey x).map fun k => (valD kvs k).isSome
    | _ => none
  | .str z => match x with
    | .str w => some (!(Builtin.Str.occurrences z w 0 z.length 1).isEmpty)
    | _ => none
  | _ => none
def fIn : D → D → Sto → Option (D × Sto) := fun x y S => (inD x y S).map fun b => (.bl b, S)
def fNotIn : D → D → Sto → Option (D × Sto) := fun x y S => (inD x y S).map fun b => (.bl (!b), S)
def rInA (K : PySem.W.Frag) : R2 := fun x y H Q => rIn K false x y H Q ∨ ((∃ a o, y = .ref a ∧ DGet H a x o ∧ Q (.bl o.isSome) H) ∨ ∃ i j, x = .str i ∧ y = .str j ∧ Q (.bl (!(Builtin.Str.occurrences j i 0 j.length 1).isEmpty)) H)
def rNotInA (K : PySem.W.Frag) : R2 := fun x y H Q => rIn K true x y H Q ∨ ((∃ a o, y = .ref a ∧ DGet H a x o ∧ Q (.bl (!o.isSome)) H) ∨ ∃ i j, x = .str i ∧ y = .str j ∧ Q (.bl (!(!(Builtin.Str.occurrences j i 0 j.length 1).isEmpty))) H)
section
variable {X : Cx} {K : PySem.W.Frag}
theorem op_inA (hu : X.A.units + 1 < cLine) : OpR X (compareOp .In) (rInA X.K) := op_in_seq.or (OpR.or (fun pins s σ H x y v u Q I rx ry ⟨a, o, ey, g, q⟩ => by
  subst ey
  cases ry
  exact d_in hu I g rx fun s3 I3 => ⟨.bl o.isSome, H, I3, rfl, q⟩) op_in_str)
theorem op_notInA (hu : X.A.units + 1 < cLine) : OpR X (compareOp .NotIn) (rNotInA X.K) := op_notIn_seq.or (OpR.or (fun pins s σ H x y v u Q I rx ry ⟨a, o, ey, g, q⟩ => by
  subst ey
  cases ry
  exact d_notIn hu I g rx fun s3 I3 => ⟨.bl (!o.isSome), H, I3, rfl, q⟩) op_notIn_str)
/-- what stands behind an answer of inD -/
theorem inD_ok {W : WX} {σ : L2.St} {rs : List Addr} {H : Hp} {S : Sto} {da db : D} {x y : V} {b : Bool} {R : Bool → Prop} (r : RelS K rs H S) (p : Rep K H rs da x) (q : Rep K H rs db y) (h : inD da db S = some b) (hR : R b) :
    (∃ a xs, y = .ref a ∧ (SqL K H a xs ∨ SqT K H a xs) ∧ flatV x = true ∧ xs.all flatV = true ∧ R (inV x xs)) ∨ (∃ a o, y = .ref a ∧ DGet H a x o ∧ R o.isSome) ∨ ∃ i j, x = .str i ∧ y = .str j ∧ R (!(Builtin.Str.occurrences j i 0 j.length 1).isEmpty) := by
  have fl : ∀ {xs : List D} {vs : List V}, Reps K H rs xs vs → inFlat da xs = some b → flatV x = true ∧ vs.all flatV = true ∧ R (inV x vs) := fun {xs vs} pv e => by
    unfold inFlat at e
    split at e
    · rename_i v ws e1 e2
      cases e
      obtain ⟨rfl, f1⟩ := toV_ok p e1
      obtain ⟨rfl, f2⟩ := toVs_ok pv e2
      exact ⟨f1, f2, hR⟩
    · cases e
  cases db with
  | tup xs =>
    obtain ⟨a, vs, rfl, h1, h2⟩ := rep_tup.mp q
    exact .inl ⟨a, vs, rfl, .inr h1, fl h2 h⟩
  | loc n =>
    obtain ⟨a', rfl, ea⟩ := rep_loc.mp q
    simp only [inD] at h
    split at h
    · rename_i xs e
      obtain ⟨a, vs, h1, h2, h3⟩ := r.lst (show lstAt S n = some xs by unfold lstAt; rw [e])
      rw [h1] at ea; cases ea
      exact .inl ⟨_, vs, rfl, .inl h2, fl h3 h⟩
    · rename_i xs e
      obtain ⟨a, vs, h1, h2, h3⟩ := r.lst (show lstAt S n = some xs by unfold lstAt; rw [e])
      rw [h1] at ea; cases ea
      exact .inl ⟨_, vs, rfl, .inl h2, fl h3 h⟩
    · rename_i kvs e
      cases ek : toKey da with
      | none => rw [ek] at h; cases h
      | some k =>
        rw [ek] at h
        cases h
        obtain ⟨a, h1, kw, h2, h3⟩ := r.get e
        rw [h1] at ea; cases ea
        have hv := h3.val k
        have hR' : R (valD kvs k).isSome := hR
        refine .inr (.inl ⟨_, valV kw k, rfl, by rw [toKey_ok p ek]; exact DGet.k h2, ?_⟩)
        cases e2 : valD kvs k with
        | none => rw [e2] at hv; rw [hv]; rw [e2] at hR'; exact hR'
        | some d =>
          rw [e2] at hv
          obtain ⟨v, h4, _⟩ := hv
          rw [h4]
          rw [e2] at hR'
          exact hR'
    · cases h
  | str z =>
    cases da with
    | str w =>
      cases h
      exact .inr (.inr ⟨w, z, rep_str.mp p, rep_str.mp q, hR⟩)
    | _ => cases h
  | _ => cases h
theorem fits_in : Fits2 K fIn (rInA K) := by
  intro W σ rs H S da db x y Q r p q h
  unfold fIn at h
  cases e : inD da db S with
  | none => rw [e] at h; exact h.elim
  | some b =>
    rw [e] at h
    have hR : Q (.bl b) H := okv h r (rep_bl.mpr rfl)
    rcases inD_ok (W := W) (σ := σ) (R := fun b => Q (.bl b) H) r p q e hR with ⟨a, xs, h1, h2, h3, h4, h5⟩ | ⟨a, o, h1, h2, h3⟩ | h1
    · exact .inl ⟨a, xs, h1, h2, h3, h4, h5⟩
    · exact .inr (.inl ⟨a, o, h1, h2, h3⟩)
    · exact .inr (.inr h1)
theorem fits_notIn : Fits2 K fNotIn (rNotInA K) := by
  intro W σ rs H S da db x y Q r p q h
  unfold fNotIn at h
  cases e : inD da db S with
  | none => rw [e] at h; exact h.elim
  | some b =>
    rw [e] at h
    have hR : Q (.bl (!b)) H := okv h r (rep_bl.mpr rfl)
    rcases inD_ok (W := W) (σ := σ) (R := fun b => Q (.bl (!b)) H) r p q e hR with ⟨a, xs, h1, h2, h3, h4, h5⟩ | ⟨a, o, h1, h2, h3⟩ | h1
    · exact .inl ⟨a, xs, h1, h2, h3, h4, h5⟩
    · exact .inr (.inl ⟨a, o, h1, h2, h3⟩)
    · exact .inr (.inr h1)
section
variable {W : WX} {a b e : Expr} {pos : Pos} {ma mb : EM}
theorem e_in (hu : X.A.units + 1 < cLine) (ha : SimE X W a ma) (hb : SimE X W b mb) (hm : behindInMarks .In b = false := by rfl) : SimE X W (.Compare a [.In] [b] pos) (dBin fIn ma mb) := e_cmp (op_inA hu) fits_in hm ha hb
theorem t_in (hu : X.A.units + 1 < cLine) (ha : SimE X W a ma) (hb : SimE X W b mb) (hm : behindInMarks .In b = false := by rfl) : SimT X W (.Compare a [.In] [b] pos) (dB (dBin fIn ma mb)) := t_cmp (op_inA hu) fits_in hm ha hb
theorem e_notIn (hu : X.A.units + 1 < cLine) (ha : SimE X W a ma) (hb : SimE X W b mb) (hm : behindInMarks .NotIn b = false := by rfl) : SimE X W (.Compare a [.NotIn] [b] pos) (dBin fNotIn ma mb) := e_cmp (op_notInA hu) fits_notIn hm ha hb
theorem t_notIn (hu : X.A.units + 1 < cLine) (ha : SimE X W a ma) (hb : SimE X W b mb) (hm : behindInMarks .NotIn b = false := by rfl) : SimT X W (.Compare a [.NotIn] [b] pos) (dB (dBin fNotIn ma mb)) := t_cmp (op_notInA hu) fits_notIn hm ha hb
end
end
end Sh

set_option Elab.async false
set_option linter.all false
set_option maxRecDepth 100000
set_option maxHeartbeats 2000000
set_option autoImplicit false
namespace Sh
open PySem PySem.Spec PyProof.Rows L2

section
variable {X : Cx} {K : PySem.W.Frag} {W : WX} {a b e : Expr} {p pos : Pos} {ma mb : EM}
theorem Reps.inv1 {H : Hp} {rs : List Addr} {d : D} {xs : List V} (h : Reps K H rs [d] xs) : ∃ v, xs = [v] ∧ Rep K H rs d v := by
  unfold Reps at h
  obtain ⟨v, r, rfl, h1, h2⟩ := h
  unfold Reps at h2
  subst h2
  exact ⟨v, rfl, h1⟩
theorem Reps.inv2 {H : Hp} {rs : List Addr} {d e : D} {xs : List V} (h : Reps K H rs [d, e] xs) : ∃ v w, xs = [v, w] ∧ Rep K H rs d v ∧ Rep K H rs e w := by
  unfold Reps at h
  obtain ⟨v, r, rfl, h1, h2⟩ := h
  obtain ⟨w, rfl, h3⟩ := h2.inv1
  exact ⟨v, w, rfl, h1, h3⟩
/-- a function of one value -/
def f1 (f : D → Sto → Option (D × Sto)) : List D → Sto → Option (D × Sto)
  | [d], S => f d S
  | _, _ => none
def f2 (f : D → D → Sto → Option (D × Sto)) : List D → Sto → Option (D × Sto)
  | [d, e], S => f d e S
  | _, _ => none
theorem fits_f1 {f : D → Sto → Option (D × Sto)} {r : V → Hp → VK → Prop} (h : Fits1 K f r) : FitsC K (f1 f) fun xs H Q => ∃ x, xs = [x] ∧ r x H Q := by
  intro W σ rs H S ds xs Q rl p q
  match ds with
  | [d] =>
    obtain ⟨v, rfl, hv⟩ := p.inv1
    exact ⟨v, rfl, h W σ rs H S d v Q rl hv q⟩
  | [] => exact q.elim
  | _ :: _ :: _ => exact q.elim
theorem fits_f2 {f : D → D → Sto → Option (D × Sto)} {r : R2} (h : Fits2 K f r) : FitsC K (f2 f) fun xs H Q => ∃ x y, xs = [x, y] ∧ r x y H Q := by
  intro W σ rs H S ds xs Q rl p q
  match ds with
  | [d, e] =>
    obtain ⟨v, w, rfl, hv, hw⟩ := p.inv2
    exact ⟨v, w, rfl, h W σ rs H S d e v w Q rl hv hw q⟩
  | [] => exact q.elim
  | [_] => exact q.elim
  | _ :: _ :: _ :: _ => exact q.elim

/-! ### len -/
def fLen : D → Sto → Option (D × Sto)
  | .tup xs, S => some (.int xs.length, S)
  | .str z, S => if z.length ≤ big then some (.int z.length, S) else none
  | .loc n, S => match S[n]? with
    | some (.lst xs) => some (.int xs.length, S)
    | some (.ro xs) => some (.int xs.length, S)
    | some (.dct kvs) => some (.int kvs.length, S)
    | _ => none
  | _, _ => none
def rLenA (K : PySem.W.Frag) : List V → Hp → VK → Prop := fun xs H Q => (∃ x n, xs = [x] ∧ LenV K x H n ∧ Q (.int n) H) ∨ ∃ a kvs, xs = [V.ref a] ∧ H a = some (.dK kvs) ∧ Q (.int kvs.length) H
theorem call_lenA : CallR X (.builtin "len") (rLenA X.K) := CallR.or call_len call_lenD
theorem fits_len : FitsC K (f1 fLen) (rLenA K) := by
  intro W σ rs H S ds xs Q r p q
  obtain ⟨d, rfl⟩ : ∃ d, ds = [d] := by
    match ds with
    | [d] => exact ⟨d, rfl⟩
    | [] => exact q.elim
    | _ :: _ :: _ => exact q.elim
  obtain ⟨x, rfl, hx⟩ := p.inv1
  have q : OkE K W σ H rs (.ofO (fLen d S)) Q := q
  cases d with
  | tup ys =>
    obtain ⟨a, vs, rfl, h1, h2⟩ := rep_tup.mp hx
    exact .inl ⟨_, ys.length, rfl, .inr ⟨vs, h1, h2.length.symm⟩, okv q r (rep_int.mpr rfl)⟩
  | str z =>
    simp only [fLen] at q
    split at q
    · rename_i hz
      rw [rep_str.mp hx]
      exact .inl ⟨.str z, z.length, rfl, ⟨big_le hz, rfl⟩, okv q r (rep_int.mpr rfl)⟩
    · exact q.elim
  | loc n =>
    obtain ⟨a', rfl, ea⟩ := rep_loc.mp hx
    have ll : ∀ ys, lstAt S n = some ys → OkE K W σ H rs (.ofO (some (.int (ys.length : Nat), S))) Q → rLenA K [V.ref a'] H Q := fun ys e h => by
      obtain ⟨a, vs, h1, h2, h3⟩ := r.lst e
      rw [h1] at ea; cases ea
      exact .inl ⟨_, ys.length, rfl, .inl ⟨vs, h2, h3.length.symm⟩, okv h r (rep_int.mpr rfl)⟩
    simp only [fLen] at q
    split at q
    · rename_i ys e
      exact ll ys (by unfold lstAt; rw [e]) q
    · rename_i ys e
      exact ll ys (by unfold lstAt; rw [e]) q
    · rename_i kvs e
      obtain ⟨a, h1, kw, h2, h3⟩ := r.get e
      rw [h1] at ea; cases ea
      exact .inr ⟨_, kw, rfl, h2, by rw [h3.len]; exact okv q r (rep_int.mpr rfl)⟩
    · exact q.elim
  | _ => exact q.elim
theorem e_len (m : X.mg "len" = none) (ha : SimE X W a ma) (g : Gl X "len" := by rfl) (hs : starEach [a] X.env = (false, eval a X.env) :: starEach [] X.env := by rfl) : SimE X W (.Call (.Name "len" p) [a] [] pos) (dCall (f1 fLen) (aCons ma aNil)) :=
  e_callB call_lenA fits_len g m PySem.boot_len (a_cons ha a_nil hs) (by decide) (by decide) hs rfl

/-! ### isinstance -/
def tyOf (d : D) (S : Sto) : Option String := match d with
  | .non => some "NoneType"
  | .bl _ => some "bool"
  | .int _ => some "int"
  | .str _ => some "str"
  | .tup _ => some "tuple"
  | .loc n => match S[n]? with
    | some (.lst _) => some "list"
    | some (.ro _) => some "list"
    | some (.dct _) => some "dict"
    | some (.dctT _) => some "dict"
    | _ => none
  | _ => none
/-- a is a b -/
def isTy (a b : String) : Option Bool := if b ∈ ["int", "bool", "str", "tuple", "list", "dict"] then some (decide (a = b) || (decide (a = "bool") && decide (b = "int"))) else none
theorem isTy_ok : ∀ a ∈ ["NoneType", "bool", "int", "str", "tuple", "list", "dict"], ∀ b ∈ ["int", "bool", "str", "tuple", "list", "dict"], kitB a b = isTy a b := by
  intro a ha b hb
  simp only [List.mem_cons, List.not_mem_nil, or_false] at ha hb
  rcases ha with rfl | rfl | rfl | rfl | rfl | rfl | rfl <;> rcases hb with rfl | rfl | rfl | rfl | rfl | rfl <;> decide +kernel
def fIsi : D → D → Sto → Option (D × Sto)
  | d, .ty n, S => match tyOf d S with
    | some t => (isTy t n).map fun b => (.bl b, S)
    | none => none
  | _, _, _ => none
theorem tyOf_in {d : D} {S : Sto} {t : String} (h : tyOf d S = some t) : t ∈ ["NoneType", "bool", "int", "str", "tuple", "list", "dict"] := by
  cases d with
  | loc n =>
    simp only [tyOf] at h
    split at h <;> first | (cases h; done) | (cases h; simp)
  | _ => first | (cases h; done) | (cases h; simp)
theorem tyOf_ok {H : Hp} {rs : List Addr} {S : Sto} {d : D} {v : V} {t : String} (r : RelS K rs H S) (p : Rep K H rs d v) (h : tyOf d S = some t) : TyX K H v (.type t) := by
  cases d with
  | non => cases h; rw [rep_non.mp p]; exact .base .non
  | bl b => cases h; rw [rep_bl.mp p]; exact .base (.bl b)
  | int i => cases h; rw [rep_int.mp p]; exact .base (.int i)
  | str x => cases h; rw [rep_str.mp p]; exact .base (.str x)
  | tup xs =>
    cases h
    obtain ⟨a, vs, rfl, h1, h2⟩ := rep_tup.mp p
    rcases h1 with (h1 | ⟨o, h1⟩) | ⟨o, its, n, h1, h2, _⟩
    · exact .base (.tup h1)
    · exact .fTuple h1
    · exact .kTuple h1 h2
  | loc n =>
    obtain ⟨a', rfl, ea⟩ := rep_loc.mp p
    simp only [tyOf] at h
    split at h
    · rename_i ys e
      cases h
      obtain ⟨a, h1, vs, h2, h3⟩ := r.get e
      rw [h1] at ea; cases ea
      exact .base (.lst h2)
    · rename_i ys e
      cases h
      obtain ⟨a, h1, o, vs, h2, h3⟩ := r.get e
      rw [h1] at ea; cases ea
      exact .base (.frz h2)
    · rename_i ys e
      cases h
      obtain ⟨a, h1, vs, h2, h3⟩ := r.get e
      rw [h1] at ea; cases ea
      exact .base (.dK h2)
    · rename_i ys e
      cases h
      obtain ⟨a, h1, vs, h2, h3⟩ := r.get e
      rw [h1] at ea; cases ea
      exact .base (.dT h2)
    · cases h
  | _ => cases h
theorem fits_isi : FitsC K (f2 fIsi) (rIsi K) := by
  intro W σ rs H S ds xs Q r p q
  obtain ⟨d, n, rfl⟩ : ∃ d n, ds = [d, .ty n] := by
    match ds with
    | [d, .ty n] => exact ⟨d, n, rfl⟩
    | [] => exact q.elim
    | [_] => exact q.elim
    | _ :: _ :: _ :: _ => exact q.elim
    | [_, .non] => exact q.elim
    | [_, .bl _] => exact q.elim
    | [_, .int _] => exact q.elim
    | [_, .str _] => exact q.elim
    | [_, .adr _] => exact q.elim
    | [_, .loc _] => exact q.elim
    | [_, .tup _] => exact q.elim
  obtain ⟨x, y, rfl, hx, hy⟩ := p.inv2
  have q : OkE K W σ H rs (.ofO (fIsi d (.ty n) S)) Q := q
  simp only [fIsi] at q
  cases et : tyOf d S with
  | none => rw [et] at q; exact q.elim
  | some t =>
    rw [et] at q
    cases eb : isTy t n with
    | none =>
      have q2 : OkE K W σ H rs (.ofO ((isTy t n).map fun b => (.bl b, S))) Q := q
      rw [eb] at q2; exact q2.elim
    | some b =>
      have q2 : OkE K W σ H rs (.ofO ((isTy t n).map fun b => (.bl b, S))) Q := q
      rw [eb] at q2
      have hn : n ∈ ["int", "bool", "str", "tuple", "list", "dict"] := by
        unfold isTy at eb
        split at eb
        · assumption
        · cases eb
      exact ⟨x, y, .type t, .type n, b, rfl, by rw [rep_ty.mp hy]; exact .ty n, tyOf_ok r hx et, kit_ty (by rw [isTy_ok t (tyOf_in et) n hn]; exact eb), okv q2 r (rep_bl.mpr rfl)⟩
theorem e_isi (m : X.mg "isinstance" = none) (ha : SimE X W a ma) (hb : SimE X W b mb) (g : Gl X "isinstance" := by rfl) (hs : starEach [a, b] X.env = (false, eval a X.env) :: starEach [b] X.env := by rfl) (hs2 : starEach [b] X.env = (false, eval b X.env) :: starEach [] X.env := by rfl)
    (hpl : (backTo pos (starEach [b] X.env)).any (·.1) = false := by rfl) : SimE X W (.Call (.Name "isinstance" p) [a, b] [] pos) (dCall (f2 fIsi) (aCons ma (aCons mb aNil))) :=
  e_callB call_isi fits_isi g m PyProof.Rows.boot_isinstance (a_cons ha (a_cons hb a_nil hs2) hs) (by decide) (by decide) hs hpl

/-! ### int, abs, min, max -/
def fIntC : D → Sto → Option (D × Sto)
  | .int i, S => some (.int i, S)
  | .bl b, S => some (.int (if b then 1 else 0), S)
  | _, _ => none
theorem fits_intc : FitsC K (f1 fIntC) (fun xs H Q => (∃ i, xs = [.int i] ∧ Q (.int i) H) ∨ ∃ k, xs = [.bl k] ∧ Q (.int (if k then 1 else 0)) H) := by
  intro W σ rs H S ds xs Q r p q
  match ds with
  | [d] =>
    obtain ⟨x, rfl, hx⟩ := p.inv1
    cases d with
    | int i => exact .inl ⟨i, by rw [rep_int.mp hx], okv q r (rep_int.mpr rfl)⟩
    | bl i => exact .inr ⟨i, by rw [rep_bl.mp hx], okv q r (rep_int.mpr rfl)⟩
    | _ => exact q.elim
  | [] => exact q.elim
  | _ :: _ :: _ => exact q.elim
theorem e_intc (m : X.mg "int" = none) (ha : SimE X W a ma) (g : Gl X "int" := by rfl) (hs : starEach [a] X.env = (false, eval a X.env) :: starEach [] X.env := by rfl) : SimE X W (.Call (.Name "int" p) [a] [] pos) (dCall (f1 fIntC) (aCons ma aNil)) :=
  e_callTy call_int1 fits_intc g m PyProof.Rows.boot_int (a_cons ha a_nil hs) (by decide) (by decide) hs rfl
def fAbs : D → Sto → Option (D × Sto)
  | .int i, S => some (.int (if i < 0 then -i else i), S)
  | _, _ => none
theorem fits_abs : FitsC K (f1 fAbs) (fun xs H Q => ∃ i, xs = [.int i] ∧ Q (.int (if i < 0 then -i else i)) H) := by
  intro W σ rs H S ds xs Q r p q
  match ds with
  | [d] =>
    obtain ⟨x, rfl, hx⟩ := p.inv1
    cases d with
    | int i => exact ⟨i, by rw [rep_int.mp hx], okv q r (rep_int.mpr rfl)⟩
    | _ => exact q.elim
  | [] => exact q.elim
  | _ :: _ :: _ => exact q.elim
theorem e_abs (m : X.mg "abs" = none) (ha : SimE X W a ma) (g : Gl X "abs" := by rfl) (hs : starEach [a] X.env = (false, eval a X.env) :: starEach [] X.env := by rfl) : SimE X W (.Call (.Name "abs" p) [a] [] pos) (dCall (f1 fAbs) (aCons ma aNil)) :=
  e_callB call_abs fits_abs g m PyProof.Rows.boot_abs (a_cons ha a_nil hs) (by decide) (by decide) hs rfl
def fMax2 : D → D → Sto → Option (D × Sto)
  | .int i, .int j, S => some (.int (if j > i then j else i), S)
  | _, _, _ => none
def fMin2 : D → D → Sto → Option (D × Sto)
  | .int i, .int j, S => some (.int (if j < i then j else i), S)
  | _, _, _ => none
theorem fits_max2 : FitsC K (f2 fMax2) (fun xs H Q => ∃ i j, xs = [.int i, .int j] ∧ Q (.int (if j > i then j else i)) H) := by
  intro W σ rs H S ds xs Q r p q
  match ds with
  | [d, e] =>
    obtain ⟨x, y, rfl, hx, hy⟩ := p.inv2
    cases d with
    | int i =>
      cases e with
      | int j => exact ⟨i, j, by rw [rep_int.mp hx, rep_int.mp hy], okv q r (rep_int.mpr rfl)⟩
      | _ => exact q.elim
    | _ => exact q.elim
  | [] => exact q.elim
  | [_] => exact q.elim
  | _ :: _ :: _ :: _ => exact q.elim
theorem fits_min2 : FitsC K (f2 fMin2) (fun xs H Q => ∃ i j, xs = [.int i, .int j] ∧ Q (.int (if j < i then j else i)) H) := by
  intro W σ rs H S ds xs Q r p q
  match ds with
  | [d, e] =>
    obtain ⟨x, y, rfl, hx, hy⟩ := p.inv2
    cases d with
    | int i =>
      cases e with
      | int j => exact ⟨i, j, by rw [rep_int.mp hx, rep_int.mp hy], okv q r (rep_int.mpr rfl)⟩
      | _ => exact q.elim
    | _ => exact q.elim
  | [] => exact q.elim
  | [_] => exact q.elim
  | _ :: _ :: _ :: _ => exact q.elim
theorem e_max2 (hc : X.calm = true) (m : X.mg "max" = none) (ha : SimE X W a ma) (hb : SimE X W b mb) (g : Gl X "max" := by rfl) (hs : starEach [a, b] X.env = (false, eval a X.env) :: starEach [b] X.env := by rfl) (hs2 : starEach [b] X.env = (false, eval b X.env) :: starEach [] X.env := by rfl) (hpl : (backTo pos (starEach [b] X.env)).any (·.1) = false := by rfl) : SimE X W (.Call (.Name "max" p) [a, b] [] pos) (dCall (f2 fMax2) (aCons ma (aCons mb aNil))) :=
  e_callB (call_max2 hc) fits_max2 g m PyProof.Rows.boot_max (a_cons ha (a_cons hb a_nil hs2) hs) (by decide) (by decide) hs hpl
theorem e_min2 (hc : X.calm = true) (m : X.mg "min" = none) (ha : SimE X W a ma) (hb : SimE X W b mb) (g : Gl X "min" := by rfl) (hs : starEach [a, b] X.env = (false, eval a X.env) :: starEach [b] X.env := by rfl) (hs2 : starEach [b] X.env = (false, eval b X.env) :: starEach [] X.env := by rfl) (hpl : (backTo pos (starEach [b] X.env)).any (·.1) = false := by rfl) : SimE X W (.Call (.Name "min" p) [a, b] [] pos) (dCall (f2 fMin2) (aCons ma (aCons mb aNil))) :=
  e_callB (call_min2 hc) fits_min2 g m PyProof.Rows.boot_min (a_cons ha (a_cons hb a_nil hs2) hs) (by decide) (by decide) hs hpl

/-! ### list(..), tuple(..), all, any -/
def seqOf (d : D) (S : Sto) : Option (List D) := match d with
  | .tup xs => some xs
  | .loc n => lstAt S n
  | _ => none
theorem seqOf_ok {H : Hp} {rs : List Addr} {S : Sto} {d : D} {v : V} {xs : List D} (r : RelS K rs H S) (p : Rep K H rs d v) (h : seqOf d S = some xs) : ∃ a vs, v = .ref a ∧ (SqL K H a vs ∨ SqT K H a vs) ∧ Reps K H rs xs vs := by
  cases d with
  | tup ys =>
    cases h
    obtain ⟨a, vs, rfl, h1, h2⟩ := rep_tup.mp p
    exact ⟨a, vs, rfl, .inr h1, h2⟩
  | loc n =>
    obtain ⟨a', rfl, ea⟩ := rep_loc.mp p
    obtain ⟨a, vs, h1, h2, h3⟩ := r.lst h
    rw [h1] at ea; cases ea
    exact ⟨_, vs, rfl, .inl h2, h3⟩
  | _ => cases h
def fList : D → Sto → Option (D × Sto) := fun d S => match seqOf d S with
  | some xs => newL xs S
  | none => none
def fTuple : D → Sto → Option (D × Sto) := fun d S => (seqOf d S).map fun xs => (.tup xs, S)
theorem fits_list : FitsC K (f1 fList) (fun xs H Q => ∃ p ys, xs = [.ref p] ∧ (SqL K H p ys ∨ SqT K H p ys) ∧ ∀ l, H l = none → Q (.ref l) (upd H l (.lst ys))) := by
  intro W σ rs H S ds xs Q r p q
  match ds with
  | [d] =>
    obtain ⟨x, rfl, hx⟩ := p.inv1
    have q : OkE K W σ H rs (.ofO (fList d S)) Q := q
    unfold fList at q
    cases e : seqOf d S with
    | none => rw [e] at q; exact q.elim
    | some ys =>
      rw [e] at q
      obtain ⟨a, vs, rfl, h1, h2⟩ := seqOf_ok r hx e
      exact ⟨a, vs, rfl, h1, oklst q r h2⟩
  | [] => exact q.elim
  | _ :: _ :: _ => exact q.elim
theorem fits_tuple : FitsC K (f1 fTuple) (fun xs H Q => ∃ p ys, xs = [.ref p] ∧ ((SqL K H p ys ∧ ∀ l, H l = none → Q (.ref l) (upd H l (.tup ys))) ∨ (SqT K H p ys ∧ Q (.ref p) H))) := by
  intro W σ rs H S ds xs Q r p q
  match ds with
  | [d] =>
    obtain ⟨x, rfl, hx⟩ := p.inv1
    have q : OkE K W σ H rs (.ofO (fTuple d S)) Q := q
    unfold fTuple at q
    cases e : seqOf d S with
    | none => rw [e] at q; exact q.elim
    | some ys =>
      rw [e] at q
      have q : OkE K W σ H rs (.ofO (some (.tup ys, S))) Q := q
      obtain ⟨a, vs, rfl, h1, h2⟩ := seqOf_ok r hx e
      rcases h1 with h1 | h1
      · exact ⟨a, vs, rfl, .inl ⟨h1, oktup q r h2⟩⟩
      · exact ⟨a, vs, rfl, .inr ⟨h1, okv q r (rep_tup.mpr ⟨a, vs, rfl, h1, h2⟩)⟩⟩
  | [] => exact q.elim
  | _ :: _ :: _ => exact q.elim
theorem e_list (m : X.mg "list" = none) (ha : SimE X W a ma) (g : Gl X "list" := by rfl) (hs : starEach [a] X.env = (false, eval a X.env) :: starEach [] X.env := by rfl) : SimE X W (.Call (.Name "list" p) [a] [] pos) (dCall (f1 fList) (aCons ma aNil)) :=
  e_callTy call_list_of fits_list g m PyProof.Rows.boot_list (a_cons ha a_nil hs) (by decide) (by decide) hs rfl
theorem e_tuple (m : X.mg "tuple" = none) (ha : SimE X W a ma) (g : Gl X "tuple" := by rfl) (hs : starEach [a] X.env = (false, eval a X.env) :: starEach [] X.env := by rfl) : SimE X W (.Call (.Name "tuple" p) [a] [] pos) (dCall (f1 fTuple) (aCons ma aNil)) :=
  e_callTy call_tuple_of fits_tuple g m PyProof.Rows.boot_tuple (a_cons ha a_nil hs) (by decide) (by decide) hs rfl
/-- all of them truth values -/
def blsOf : List D → Option (List Bool)
  | [] => some []
  | .bl b :: ds => (blsOf ds).map (b :: ·)
  | _ :: _ => none
theorem blsOf_ok {H : Hp} {rs : List Addr} : ∀ {ds : List D} {vs : List V} {bs : List Bool}, Reps K H rs ds vs → blsOf ds = some bs → vs = bs.map V.bl
  | [], vs, bs, p, h => by
    unfold Reps at p
    cases h
    exact p
  | d :: ds, vs, bs, p, h => by
    unfold Reps at p
    obtain ⟨v, r, rfl, p1, p2⟩ := p
    cases d with
    | bl b =>
      cases e : blsOf ds with
      | none =>
        have h2 : (blsOf ds).map (b :: ·) = some bs := h
        rw [e] at h2; cases h2
      | some cs =>
        have h2 : (blsOf ds).map (b :: ·) = some bs := h
        rw [e] at h2
        cases h2
        rw [rep_bl.mp p1, blsOf_ok p2 e]
        rfl
    | _ => cases h
def fAll : D → Sto → Option (D × Sto)
  | .loc n, S => match lstAt S n with
    | some ds => (blsOf ds).map fun bs => (.bl (bs.all id), S)
    | none => none
  | _, _ => none
def fAny : D → Sto → Option (D × Sto)
  | .loc n, S => match lstAt S n with
    | some ds => (blsOf ds).map fun bs => (.bl (bs.any id), S)
    | none => none
  | _, _ => none
theorem fits_all : FitsC K (f1 fAll) (rAll K) := by
  intro W σ rs H S ds xs Q r p q
  match ds with
  | [d] =>
    obtain ⟨x, rfl, hx⟩ := p.inv1
    have q : OkE K W σ H rs (.ofO (fAll d S)) Q := q
    cases d with
    | loc n =>
      simp only [fAll] at q
      cases e : lstAt S n with
      | none => rw [e] at q; exact q.elim
      | some ys =>
        rw [e] at q
        have q : OkE K W σ H rs (.ofO ((blsOf ys).map fun bs => (.bl (bs.all id), S))) Q := q
        obtain ⟨a', rfl, ea⟩ := rep_loc.mp hx
        obtain ⟨a, vs, h1, h2, h3⟩ := r.lst e
        rw [h1] at ea; cases ea
        cases eb : blsOf ys with
        | none => rw [eb] at q; exact q.elim
        | some bs =>
          rw [eb] at q
          have e3 := blsOf_ok h3 eb
          subst e3
          exact ⟨_, bs, rfl, h2, okv q r (rep_bl.mpr rfl)⟩
    | _ => exact q.elim
  | [] => exact q.elim
  | _ :: _ :: _ => exact q.elim
theorem fits_any : FitsC K (f1 fAny) (rAny K) := by
  intro W σ rs H S ds xs Q r p q
  match ds with
  | [d] =>
    obtain ⟨x, rfl, hx⟩ := p.inv1
    have q : OkE K W σ H rs (.ofO (fAny d S)) Q := q
    cases d with
    | loc n =>
      simp only [fAny] at q
      cases e : lstAt S n with
      | none => rw [e] at q; exact q.elim
      | some ys =>
        rw [e] at q
        have q : OkE K W σ H rs (.ofO ((blsOf ys).map fun bs => (.bl (bs.any id), S))) Q := q
        obtain ⟨a', rfl, ea⟩ := rep_loc.mp hx
        obtain ⟨a, vs, h1, h2, h3⟩ := r.lst e
        rw [h1] at ea; cases ea
        cases eb : blsOf ys with
        | none => rw [eb] at q; exact q.elim
        | some bs =>
          rw [eb] at q
          have e3 := blsOf_ok h3 eb
          subst e3
          exact ⟨_, bs, rfl, h2, okv q r (rep_bl.mpr rfl)⟩
    | _ => exact q.elim
  | [] => exact q.elim
  | _ :: _ :: _ => exact q.elim
theorem e_all (hc : X.calm = true) (m : X.mg "all" = none) (ha : SimE X W a ma) (g : Gl X "all" := by rfl) (hs : starEach [a] X.env = (false, eval a X.env) :: starEach [] X.env := by rfl) : SimE X W (.Call (.Name "all" p) [a] [] pos) (dCall (f1 fAll) (aCons ma aNil)) :=
  e_callB (cr_all hc) fits_all g m PyProof.Rows.boot_all (a_cons ha a_nil hs) (by decide) (by decide) hs rfl
/-- tuple(reversed(xs)), xs a list -/
def fTupRev : D → Sto → Option (D × Sto)
  | .loc n, S => (lstAt S n).map fun xs => (.tup xs.reverse, S)
  | _, _ => none
theorem e_tupRev {p2 pos2 : Pos} (hc : X.calm = true) (m : X.mg "tuple" = none) (m2 : X.mg "reversed" = none) (ha : SimE X W a ma) (g : Gl X "tuple" := by rfl) (g2 : Gl X "reversed" := by rfl)
    (hs : starEach [a] X.env = (false, eval a X.env) :: starEach [] X.env := by rfl) (hs2 : starEach [.Call (.Name "reversed" p2) [a] [] pos2] X.env = (false, eval (.Call (.Name "reversed" p2) [a] [] pos2) X.env) :: starEach [] X.env := by rfl) :
    SimE X W (.Call (.Name "tuple" p) [.Call (.Name "reversed" p2) [a] [] pos2] [] pos) (dUn fTupRev ma) := by
  refine PE.weaken (RT.pe_tupRev hc g m g2 m2 ha hs hs2) fun σ H Q ⟨rs, env, S, st, h⟩ => ?_
  refine ⟨rs, env, S, st, bindEE h fun d S1 v H1 rs1 e1 r1 p1 h1 => ?_⟩
  cases d with
  | loc n =>
    have q : OkE X.K W σ H1 rs1 (.ofO ((lstAt S1 n).map fun xs => (.tup xs.reverse, S1))) Q := h1
    cases e : lstAt S1 n with
    | none => rw [e] at q; exact q.elim
    | some ys =>
      rw [e] at q
      obtain ⟨a', rfl, ea⟩ := rep_loc.mp p1
      obtain ⟨a, vs, h1, h2, h3⟩ := r1.lst e
      rw [h1] at ea; cases ea
      exact ⟨_, vs, rfl, h2, oktup q r1 h3.reverse⟩
  | _ => exact h1.elim
end
end Sh

set_option Elab.async false
set_option linter.all false
set_option maxRecDepth 100000
set_option maxHeartbeats 2000000
set_option autoImplicit false
namespace Sh
open PySem PySem.Spec PyProof.Rows L2

/-! ### blocks -/
def dNop : SM := fun env S => .nx env S
def dSeq (m n : SM) : SM := fun env S => match m env S with
  | .nx env' S' => n env' S'
  | o => o
def dBrk : SM := fun env S => .bk env S
def dCnt : SM := fun env S => .ct env S
/-- from an expression on -/
def bindS {α : Type} (o : Out α) (env : En) (k : α → Sto → Fl) : Fl := match o with
  | .val a S => k a S
  | .exc x S => .exc x env S
  | .bad => .bad
def dRet (m : EM) : SM := fun env S => bindS (m env S) env fun d S' => .rt d S'
def dRetN : SM := fun env S => .rt .non S
def dDrop (m : EM) : SM := fun env S => bindS (m env S) env fun _ S' => .nx env S'
def dIfS (c : TM) (m n : SM) : SM := fun env S => bindS (c env S) env fun b S' => if b = true then m env S' else n env S'
abbrev GM := D → En → Sto → Fl
def gN (i : Nat) : GM := fun d env S => .nx (env.set i (some d)) S
def gT (gs : List D → En → Sto → Fl) (n : Nat) : GM := fun d env S => match d with
  | .tup ds => if ds.length = n then gs ds env S else .bad
  | _ => .bad
abbrev GsM := List D → En → Sto → Fl
def gNil_ : GsM := fun ds env S => match ds with
  | [] => .nx env S
  | _ => .bad
def gCons_ (g : GM) (gs : GsM) : GsM := fun ds env S => match ds with
  | d :: ds => match g d env S with
    | .nx env' S' => gs ds env' S'
    | .exc x e s => .exc x e s
    | _ => .bad
  | _ => .bad
/-- a target's end: it goes on, or raises -/
def asT (o : Fl) : Fl := match o with
  | .nx env S => .nx env S
  | .exc x env S => .exc x env S
  | _ => .bad
def dAsg (m : EM) (g : GM) : SM := fun env S => bindS (m env S) env fun d S' => asT (g d env S')
/-- o[i] = v -/
def fSet (o i v : D) (S : Sto) : Option Sto := match o with
  | .loc n => match S[n]? with
    | some (.lst xs) => match i with
      | .int k => (ixN xs.length k).map fun j => S.set n (.lst (xs.set j v))
      | _ => none
    | some (.dct kvs) => (toKey i).bind fun k => if kvs.length < big then some (S.set n (.dct (putD kvs k v))) else none
    | _ => none
  | _ => none
def gSub_ (mo mi : EM) : GM := fun d env S => bindS (mo env S) env fun o S1 => bindS (mi env S1) env fun i S2 => match fSet o i d S2 with
  | some S3 => .nx env S3
  | none => .bad
def dPar (i j : Nat) (m : AM) : SM := fun env S => bindS (m env S) env fun ds S' => match ds with
  | [a, b] => .nx ((env.set i (some a)).set j (some b)) S'
  | _ => .bad
def dPar3 (i j l : Nat) (m : AM) : SM := fun env S => bindS (m env S) env fun ds S' => match ds with
  | [a, b, c] => .nx (((env.set i (some a)).set j (some b)).set l (some c)) S'
  | _ => .bad
def dAug (i : Nat) (f : D → D → Sto → Option (D × Sto)) (m : EM) : SM := fun env S => match env[i]? with
  | some (some a) => bindS (m env S) env fun b S1 => match f a b S1 with
    | some (d, S2) => .nx (env.set i (some d)) S2
    | none => .bad
  | _ => .bad

/-! ### readings of targets -/
def OkF (K : PySem.W.Frag) (W : WX) (H : Hp) (rs : List Addr) (o : Fl) (Q : L2.St → Hp → Prop) : Prop := match o with
  | .nx env' S' => ∀ σ' H' rs', Ext H rs H' rs' → Stt K σ' H' rs' env' S' → Q σ' H'
  | .exc x env' S' => ∀ c a σ' H' rs', Ext H rs H' rs' → Stt K σ' H' rs' env' S' → RepX K H' rs' x c a → W c a σ' H'
  | _ => False
def rdG (K : PySem.W.Frag) (W : WX) (g : GM) : TG := fun v σ H Q => ∃ rs env S d, Stt K σ H rs env S ∧ Rep K H rs d v ∧ OkF K W H rs (g d env S) Q
def rdGs (K : PySem.W.Frag) (W : WX) (g : GsM) : TGs := fun vs σ H Q => ∃ rs env S ds, Stt K σ H rs env S ∧ Reps K H rs ds vs ∧ OkF K W H rs (g ds env S) Q
def SimG (X : Cx) (W : WX) (tg : Expr) (g : GM) : Prop := PG X tg (rdG X.K W g)
def SimGs (X : Cx) (W : WX) (ts : List Expr) (g : GsM) : Prop := PGs X ts (rdGs X.K W g)
section
variable {K : PySem.W.Frag} {W : WX} {σ : L2.St} {H H1 : Hp} {rs rs1 : List Addr} {env : En} {S : Sto}
theorem OkF.from {o : Fl} {Q : L2.St → Hp → Prop} (e : Ext H rs H1 rs1) (h : OkF K W H rs o Q) : OkF K W H1 rs1 o Q := by
  cases o with
  | nx env S => exact fun σ' H' rs' e' => h σ' H' rs' (e.trans e')
  | exc x env S => exact fun c a σ' H' rs' e' => h c a σ' H' rs' (e.trans e')
  | _ => exact h
theorem PG.weaken {X : Cx} {e : Expr} {t t' : TG} (h : PG X e t) (w : ∀ v σ H Q, t' v σ H Q → t v σ H Q) : PG X e t' := ⟨fun pins s σ H v u Q I r q => h.run pins s σ H v u Q I r (w v σ H Q q)⟩
theorem PGs.weaken {X : Cx} {e : List Expr} {t t' : TGs} (h : PGs X e t) (w : ∀ v σ H Q, t' v σ H Q → t v σ H Q) : PGs X e t' := ⟨fun pins s σ H v u Q I r q => h.run pins s σ H v u Q I r (w v σ H Q q)⟩
theorem okF_of_T {o : Fl} {D : Ends} (h : OkS K W H rs (asT o) D) : OkF K W H rs o D.nx := by
  cases o with
  | nx env S => exact h
  | exc x env S => exact h
  | _ => exact h.elim
/-- an expression, then a statement's end -/
theorem bindES {o : Out D} {k : D → Sto → Fl} {D' : Ends} {Q1 : VK} (st : Stt K σ H rs env S) (h : OkS K W H rs (bindS o env k) D')
    (next : ∀ d S' v H' rs', Ext H rs H' rs' → RelS K rs' H' S' → Rep K H' rs' d v → OkS K W H' rs' (k d S') D' → Q1 v H') : OkE K W σ H rs o Q1 := by
  cases o with
  | val d S => exact fun v H' rs' e r p => next d S v H' rs' e r p (OkS.from e h)
  | exc x S => exact fun c a H' rs' e r p => h c a σ H' rs' e (st.to e r) p
  | bad => exact h
theorem bindTS {o : Out Bool} {k : Bool → Sto → Fl} {D' : Ends} {Q1 : Bool → Hp → Prop} (st : Stt K σ H rs env S) (h : OkS K W H rs (bindS o env k) D')
    (next : ∀ d S' H' rs', Ext H rs H' rs' → RelS K rs' H' S' → OkS K W H' rs' (k d S') D' → Q1 d H') : OkT K W σ H rs o Q1 := by
  cases o with
  | val d S => exact fun H' rs' e r => next d S H' rs' e r (OkS.from e h)
  | exc x S => exact fun c a H' rs' e r p => h c a σ H' rs' e (st.to e r) p
  | bad => exact h
theorem bindAS {o : Out (List D)} {k : List D → Sto → Fl} {D' : Ends} {Q1 : List V → Hp → Prop} (st : Stt K σ H rs env S) (h : OkS K W H rs (bindS o env k) D')
    (next : ∀ d S' v H' rs', Ext H rs H' rs' → RelS K rs' H' S' → Reps K H' rs' d v → OkS K W H' rs' (k d S') D' → Q1 v H') : OkA K W σ H rs o Q1 := by
  cases o with
  | val d S => exact fun v H' rs' e r p => next d S v H' rs' e r p (OkS.from e h)
  | exc x S => exact fun c a H' rs' e r p => h c a σ H' rs' e (st.to e r) p
  | bad => exact h
theorem bindEF {o : Out D} {k : D → Sto → Fl} {Q : L2.St → Hp → Prop} {Q1 : VK} (st : Stt K σ H rs env S) (h : OkF K W H rs (bindS o env k) Q)
    (next : ∀ d S' v H' rs', Ext H rs H' rs' → RelS K rs' H' S' → Rep K H' rs' d v → OkF K W H' rs' (k d S') Q → Q1 v H') : OkE K W σ H rs o Q1 := by
  cases o with
  | val d S => exact fun v H' rs' e r p => next d S v H' rs' e r p (OkF.from e h)
  | exc x S => exact fun c a H' rs' e r p => h c a σ H' rs' e (st.to e r) p
  | bad => exact h
end

section
variable {X : Cx} {W : WX} {e c : Expr} {pos : Pos} {m : EM} {st : Stmt} {rest : List Stmt} {ms ns : SM}
theorem ss_nil : SimSs X W [] dNop := PSs.weaken pss_nil fun D σ H ⟨rs, env, S, st, h⟩ => h σ H rs (Ext.refl _ _) st
theorem ss_cons (h1 : SimS X W st ms) (h2 : SimSs X W rest ns) : SimSs X W (st :: rest) (dSeq ms ns) := by
  refine PSs.weaken (pss_cons h1 h2) fun D σ H ⟨rs, env, S, st, h⟩ => ?_
  refine ⟨rs, env, S, st, ?_⟩
  unfold dSeq at h
  cases q : ms env S with
  | nx env' S' => rw [q] at h; exact fun σ' H' rs' e st' => ⟨rs', env', S', st', OkS.from e h⟩
  | rt d S' => rw [q] at h; exact h
  | bk env' S' => rw [q] at h; exact h
  | ct env' S' => rw [q] at h; exact h
  | exc x env' S' => rw [q] at h; exact h
  | bad => rw [q] at h; exact h
theorem ss_one (h1 : SimS X W st ms) : SimSs X W [st] ms := pss_one h1
theorem s_pass : SimS X W (.Pass pos) dNop := PS.weaken ps_pass fun D σ H ⟨rs, env, S, st, h⟩ => h σ H rs (Ext.refl _ _) st
theorem s_break : SimS X W (.Break pos) dBrk := PS.weaken ps_break fun D σ H ⟨rs, env, S, st, h⟩ => h σ H rs (Ext.refl _ _) st
theorem s_continue : SimS X W (.Continue pos) dCnt := PS.weaken ps_continue fun D σ H ⟨rs, env, S, st, h⟩ => h σ H rs (Ext.refl _ _) st
theorem s_ret (h : SimE X W e m) : SimS X W (.Return (some e) pos) (dRet m) := by
  refine PS.weaken (ps_ret h) fun D σ H ⟨rs, env, S, st, h⟩ => ?_
  exact ⟨rs, env, S, st, bindES st h fun d S1 v H1 rs1 e1 r1 p1 h1 => h1 v H1 rs1 (Ext.refl _ _) r1 p1⟩
theorem s_retN : SimS X W (.Return none pos) dRetN := PS.weaken ps_retN fun D σ H ⟨rs, env, S, st, h⟩ => h .non H rs (Ext.refl _ _) st.sto (rep_non.mpr rfl)
theorem s_expr (h : SimE X W e m) (hs : swapsWith e none pos.line X.env = pure false := by rfl) : SimS X W (.Expr e pos) (dDrop m) := by
  refine PS.weaken (ps_expr h hs) fun D σ H ⟨rs, env, S, st, h⟩ => ?_
  exact ⟨rs, env, S, st, bindES st h fun d S1 v H1 rs1 e1 r1 p1 h1 => h1 σ H1 rs1 (Ext.refl _ _) (st.to e1 r1)⟩
theorem s_if {t : TM} {a b : List Stmt} (hc : SimT X W c t) (ha : SimSs X W a ms) (hb : SimSs X W b ns) : SimS X W (.If c a b pos) (dIfS t ms ns) := by
  refine PS.weaken (ps_if hc ha hb) fun D σ H ⟨rs, env, S, st, h⟩ => ?_
  refine ⟨rs, env, S, st, bindTS st h fun d S1 H1 rs1 e1 r1 h1 => ?_⟩
  cases d with
  | true => exact ⟨rs1, env, S1, st.to e1 r1, h1⟩
  | false => exact ⟨rs1, env, S1, st.to e1 r1, h1⟩

/-! ### targets -/
theorem g_name {x : Str} (i : Nat) (hN : X.N.Nodup) (hi : X.N[i]? = some x := by rfl) (hx : Loc X.env.scope x := by first | exact .inl rfl | exact .inr rfl)
    (hf : X.fn x = true ∨ X.env.scope.names.lookup x = some .local := by first | exact .inl rfl | exact .inr rfl) : SimG X W (.Name x pos) (gN i) :=
  PG.weaken (pg_name hN hi hx hf) fun v σ H Q ⟨rs, env, S, d, st, p, h⟩ => h _ H rs (Ext.refl _ _) (st.set p)
theorem gs_nil : SimGs X W [] gNil_ := PGs.weaken pgs_nil fun vs σ H Q ⟨rs, env, S, ds, st, p, h⟩ => by
  cases ds with
  | nil => exact ⟨by unfold Reps at p; exact p, h σ H rs (Ext.refl _ _) st⟩
  | cons _ _ => exact h.elim
theorem gs_cons {es : List Expr} {g : GM} {gs : GsM} (h1 : SimG X W e g) (h2 : SimGs X W es gs)
    (hs : (assignEach (e :: es) X.env).map (·.2) = assign e X.env :: (assignEach es X.env).map (·.2) := by rfl) : SimGs X W (e :: es) (gCons_ g gs) := by
  refine PGs.weaken (pgs_cons h1 h2 hs) fun vs σ H Q ⟨rs, env, S, ds, st, p, h⟩ => ?_
  cases ds with
  | nil => exact h.elim
  | cons d ds =>
    unfold Reps at p
    obtain ⟨v, r, rfl, p1, p2⟩ := p
    refine ⟨v, r, rfl, rs, env, S, d, st, p1, ?_⟩
    simp only [gCons_] at h
    cases q : g d env S with
    | nx env' S' => rw [q] at h; exact fun σ' H' rs' e st' => ⟨rs', env', S', ds, st', Reps.mono e _ _ p2, OkF.from e h⟩
    | exc x env' S' => rw [q] at h; exact h
    | rt d S' => rw [q] at h; exact h.elim
    | bk env' S' => rw [q] at h; exact h.elim
    | ct env' S' => rw [q] at h; exact h.elim
    | bad => rw [q] at h; exact h.elim
theorem g_tup {es : List Expr} {k n : Nat} {gs : GsM} (hc : X.calm = true) (h : SimGs X W es gs) (hn : (assignEach es X.env).length = n := by rfl) (hst : (assignEach es X.env).findIdx? (·.1) = none := by rfl) : SimG X W (.Tuple es k pos) (gT gs n) := by
  refine PG.weaken (pg_tup hc h hn hst) fun v σ H Q ⟨rs, env, S, d, st, p, h⟩ => ?_
  cases d with
  | tup ds =>
    simp only [gT] at h
    split at h
    · rename_i hl
      obtain ⟨a, vs, rfl, h1, h2⟩ := rep_tup.mp p
      exact ⟨a, vs, rfl, h1, h2.length.trans hl, rs, env, S, ds, st, h2, h⟩
    · exact h.elim
  | _ => exact h.elim
theorem s_asg {tg : Expr} {g : GM} (he : SimE X W e m) (hg : SimG X W tg g) (hs : swapsWithSole [tg] e pos.line X.env = pure false := by rfl) (hw : swappedStores [tg] e X.env = pure none := by rfl)
    (h1 : (assignEach [tg] X.env).map (·.2) = [assign tg X.env] := by rfl) : SimS X W (.Assign [tg] e pos) (dAsg m g) := by
  refine PS.weaken (ps_asg he hg hs hw h1) fun D σ H ⟨rs, env, S, st, h⟩ => ?_
  refine ⟨rs, env, S, st, bindES st h fun d S1 v H1 rs1 e1 r1 p1 h1 => ?_⟩
  refine ⟨rs1, env, S1, d, st.to e1 r1, p1, ?_⟩
  exact okF_of_T h1
/-! ### o[i] = v -/
def rSetD : TSet := fun o i v H Q => ∃ a H', o = .ref a ∧ DPut H a i v H' ∧ Q H'
theorem PSet.or {t t' : TSet} (h : PSet X t) (h' : PSet X t') : PSet X fun o i v H Q => t o i v H Q ∨ t' o i v H Q := by
  intro pins s σ H o i v ov iv u Q I ro ri rv q
  rcases q with q | q
  · exact h pins s σ H o i v ov iv u Q I ro ri rv q
  · exact h' pins s σ H o i v ov iv u Q I ro ri rv q
theorem set_dict (hu : X.A.units + 1 < cLine) : PSet X rSetD := by
  intro pins s σ H o i v ov iv u Q I ro ri rv q
  obtain ⟨a, H', rfl, g, q⟩ := q
  cases ro
  exact d_setItem hu I g ri rv fun s' I' => ⟨H', I', q⟩
def rSetA : TSet := fun o i v H Q => rSetL o i v H Q ∨ rSetD o i v H Q
theorem set_any (hu : X.A.units + 1 < cLine) : PSet X rSetA := PSet.or set_list (set_dict hu)
theorem fits_set {K : PySem.W.Frag} {H : Hp} {rs : List Addr} {S S' : Sto} {o i d : D} {x y v : V} {Q : Hp → Prop} (r : RelS K rs H S) (po : Rep K H rs o x) (pi : Rep K H rs i y) (pd : Rep K H rs d v)
    (h : fSet o i d S = some S') (q : ∀ H', Ext H rs H' rs → RelS K rs H' S' → Q H') : rSetA x y v H Q := by
  cases o with
  | loc n =>
    obtain ⟨a', rfl, ea⟩ := rep_loc.mp po
    simp only [fSet] at h
    split at h
    · rename_i xs e
      cases i with
      | int k =>
        simp only at h
        cases ej : ixN xs.length k with
        | none => rw [ej] at h; cases h
        | some j =>
          rw [ej] at h
          have h : some (S.set n (.lst (xs.set j d))) = some S' := h
          cases h
          obtain ⟨a, vs, h1, h2, h3⟩ := r.mlst e
          rw [h1] at ea; cases ea
          have mu : Mut (H a') := by rw [h2]; exact True.intro
          refine .inl ⟨_, vs, k, j, rfl, rep_int.mp pi, h2, by rw [h3.length]; exact ej, q _ (Ext.mut mu) (r.set h1 mu ⟨_, upd_same, ?_⟩)⟩
          exact (Reps.mono (Ext.mut mu) _ _ h3).set j (Rep.mono (Ext.mut mu) _ _ pd)
      | _ => cases h
    · rename_i kvs e
      cases ek : toKey i with
      | none => rw [ek] at h; cases h
      | some k =>
        rw [ek] at h
        have h : (if kvs.length < big then some (S.set n (.dct (putD kvs k d))) else none) = some S' := h
        split at h
        · rename_i hz
          cases h
          obtain ⟨a, h1, kw, h2, h3⟩ := r.get e
          rw [h1] at ea; cases ea
          have mu : Mut (H a') := by rw [h2]; exact True.intro
          refine .inr ⟨_, _, rfl, by rw [toKey_ok pi ek]; exact DPut.k h2 (by rw [h3.len]; exact big_lt hz), q _ (Ext.mut mu) (r.set h1 mu ⟨_, upd_same, ?_⟩)⟩
          exact (h3.mono (Ext.mut mu)).put k (Rep.mono (Ext.mut mu) _ _ pd)
        · cases h
    · cases h
  | _ => cases h
theorem g_sub {o i : Expr} {mo mi : EM} (hu : X.A.units + 1 < cLine) (ho : SimE X W o mo) (hi : SimE X W i mi)
    (ha : ∀ v, assign (.Subscript o i pos) X.env v = (do
      let ov ← holding [v] (eval o X.env)
      let iv ← holding [v, ov] (eval i X.env)
      standAt pos
      holding [v, ov, iv] (setItem ov iv v)
      release [v, ov, iv] []) := by intro _; rfl) : SimG X W (.Subscript o i pos) (gSub_ mo mi) := by
  refine PG.weaken (pg_sub ho hi (set_any hu) ha) fun v σ H Q ⟨rs, env, S, d, st, p, h⟩ => ?_
  refine ⟨rs, env, S, st, bindEF st h fun od S1 x H1 rs1 e1 r1 p1 h1 => ?_⟩
  refine ⟨rs1, env, S1, st.to e1 r1, bindEF (st.to e1 r1) h1 fun id S2 y H2 rs2 e2 r2 p2 h2 => ?_⟩
  cases q : fSet od id d S2 with
  | none => rw [q] at h2; exact h2.elim
  | some S3 =>
    rw [q] at h2
    refine fits_set r2 (Rep.mono e2 _ _ p1) p2 (Rep.mono (e1.trans e2) _ _ p) q fun H' e' r' => ?_
    exact h2 σ H' rs2 e' (((st.to e1 r1).to e2 r2).to e' r')
/-! ### a, b = x, y -/
theorem s_par {x y : Str} {a b : Expr} {ma : AM} {px py pt : Pos} {kt k2 pt2} (i j : Nat) (hc : X.calm = true) (hN : X.N.Nodup) (ha : SimA X W [a, b] ma) (hi : X.N[i]? = some x := by rfl) (hj : X.N[j]? = some y := by rfl) (hij : i ≠ j := by decide)
    (hx : X.env.scope.names.lookup x = some .local := by rfl) (hy : X.env.scope.names.lookup y = some .local := by rfl)
    (hw : swappedStores [.Tuple [.Name x px, .Name y py] kt pt] (.Tuple [a, b] k2 pt2) X.env = pure (some [x, y]) := by rfl)
    (hs : swapsWithSole [.Tuple [.Name x px, .Name y py] kt pt] (.Tuple [a, b] k2 pt2) pos.line X.env = pure false := by rfl) :
    SimS X W (.Assign [.Tuple [.Name x px, .Name y py] kt pt] (.Tuple [a, b] k2 pt2) pos) (dPar i j ma) := by
  refine PS.weaken (ps_par hc hN hi hj hij hx hy ha hw hs) fun D σ H ⟨rs, env, S, st, h⟩ => ?_
  refine ⟨rs, env, S, st, bindAS st h fun ds S1 vs H1 rs1 e1 r1 p1 h1 => ?_⟩
  match ds with
  | [d, d'] =>
    obtain ⟨v, w, rfl, h3, h4⟩ := p1.inv2
    exact ⟨v, w, rfl, h1 _ H1 rs1 (Ext.refl _ _) (((st.to e1 r1).set h3).set h4)⟩
  | [] => exact h1.elim
  | [_] => exact h1.elim
  | _ :: _ :: _ :: _ => exact h1.elim
theorem Reps.inv3 {K : PySem.W.Frag} {H : Hp} {rs : List Addr} {d e f : D} {xs : List V} (h : Reps K H rs [d, e, f] xs) : ∃ u v w, xs = [u, v, w] ∧ Rep K H rs d u ∧ Rep K H rs e v ∧ Rep K H rs f w := by
  unfold Reps at h
  obtain ⟨v, r, rfl, h1, h2⟩ := h
  obtain ⟨w, w', rfl, h3, h4⟩ := h2.inv2
  exact ⟨v, w, w', rfl, h1, h3, h4⟩
theorem s_par3 {x y z : Str} {a b c : Expr} {ma : AM} {px py pz pt : Pos} {kt k2 pt2} (i j l : Nat) (hc : X.calm = true) (hN : X.N.Nodup) (ha : SimA X W [a, b, c] ma) (hi : X.N[i]? = some x := by rfl) (hj : X.N[j]? = some y := by rfl) (hl : X.N[l]? = some z := by rfl)
    (hij : i ≠ j := by decide) (hil : i ≠ l := by decide) (hjl : j ≠ l := by decide)
    (hx : X.env.scope.names.lookup x = some .local := by rfl) (hy : X.env.scope.names.lookup y = some .local := by rfl) (hz : X.env.scope.names.lookup z = some .local := by rfl)
    (hw : swappedStores [.Tuple [.Name x px, .Name y py, .Name z pz] kt pt] (.Tuple [a, b, c] k2 pt2) X.env = pure (some [x, y, z]) := by rfl)
    (hs : swapsWithSole [.Tuple [.Name x px, .Name y py, .Name z pz] kt pt] (.Tuple [a, b, c] k2 pt2) pos.line X.env = pure false := by rfl) :
    SimS X W (.Assign [.Tuple [.Name x px, .Name y py, .Name z pz] kt pt] (.Tuple [a, b, c] k2 pt2) pos) (dPar3 i j l ma) := by
  refine PS.weaken (ps_par3 hc hN hi hj hl hij hil hjl hx hy hz ha hw hs) fun D σ H ⟨rs, env, S, st, h⟩ => ?_
  refine ⟨rs, env, S, st, bindAS st h fun ds S1 vs H1 rs1 e1 r1 p1 h1 => ?_⟩
  match ds with
  | [d, d', d''] =>
    obtain ⟨u, v, w, rfl, h3, h4, h5⟩ := p1.inv3
    exact ⟨u, v, w, rfl, h1 _ H1 rs1 (Ext.refl _ _) ((((st.to e1 r1).set h3).set h4).set h5)⟩
  | [] => exact h1.elim
  | [_] => exact h1.elim
  | [_, _] => exact h1.elim
  | _ :: _ :: _ :: _ :: _ => exact h1.elim
/-! ### x += e -/
theorem s_aug {x : Str} {op : Operator} {f : D → D → Sto → Option (D × Sto)} {r : R2} {pos' : Pos} (i : Nat) (hN : X.N.Nodup) (ho : OpR X (inplaceOp op) r) (hf : Fits2 X.K f r) (he : SimE X W e m) (hi : X.N[i]? = some x := by rfl) (hx : Loc X.env.scope x := by first | exact .inl rfl | exact .inr rfl)
    (hfn : X.fn x = true ∨ X.env.scope.names.lookup x = some .local := by first | exact .inl rfl | exact .inr rfl) : SimS X W (.AugAssign (.Name x pos') op e pos) (dAug i f m) := by
  refine PS.weaken (ps_aug (ti := r) hN hi hx he ho hfn) fun D σ H ⟨rs, env, S, st, h⟩ => ?_
  unfold dAug at h
  split at h
  · rename_i a ea
    obtain ⟨v, h1, h2⟩ := st.env i a ea
    refine ⟨v, h1, rs, env, S, st, bindES st h fun d S1 w H1 rs1 e1 r1 p1 h3 => ?_⟩
    refine hf W σ rs1 H1 S1 a d v w _ r1 (Rep.mono e1 _ _ h2) p1 ?_
    cases q : f a d S1 with
    | none => rw [q] at h3; exact h3
    | some z =>
      rw [q] at h3
      exact fun u H2 rs2 e2 r2 p2 => h3 _ H2 rs2 e2 (((st.to e1 r1).to e2 r2).set p2)
  · exact h.elim
def rIAdd : R2 := fun x y H Q => rI0 (fun i j => .int (i + j)) x y H Q ∨ rAddS x y H Q
theorem iop_addA : OpR X (inplaceOp .Add) rIAdd := iop_add.or iop_add_str
def fIAdd : D → D → Sto → Option (D × Sto)
  | .int i, .int j, S => some (.int (i + j), S)
  | .str x, .str y, S => if x.length + y.length ≤ big then some (.str (x ++ y), S) else none
  | _, _, _ => none
theorem fits_iadd {K : PySem.W.Frag} : Fits2 K fIAdd rIAdd := by
  intro W σ rs H S da db x y Q r p q h
  cases da with
  | int i =>
    cases db with
    | int j => exact .inl ⟨i, j, rep_int.mp p, rep_int.mp q, okv h r (rep_int.mpr rfl)⟩
    | _ => exact h.elim
  | str i =>
    cases db with
    | str j =>
      simp only [fIAdd] at h
      split at h
      · rename_i hz
        exact .inr ⟨i, j, rep_str.mp p, rep_str.mp q, big_le hz, okv h r (rep_str.mpr rfl)⟩
      · exact h.elim
    | _ => exact h.elim
  | _ => exact h.elim
theorem s_iadd {x : Str} {pos' : Pos} (i : Nat) (hN : X.N.Nodup) (he : SimE X W e m) (hi : X.N[i]? = some x := by rfl) (hx : Loc X.env.scope x := by first | exact .inl rfl | exact .inr rfl)
    (hfn : X.fn x = true ∨ X.env.scope.names.lookup x = some .local := by first | exact .inl rfl | exact .inr rfl) : SimS X W (.AugAssign (.Name x pos') .Add e pos) (dAug i fIAdd m) := s_aug i hN iop_addA fits_iadd he hi hx hfn
end
end Sh

set_option Elab.async false
set_option linter.all false
set_option maxRecDepth 100000
set_option maxHeartbeats 2000000
set_option autoImplicit false
namespace Sh
open PySem PySem.Spec PyProof.Rows L2

/-! ### what is walked -/
/-- root: the list that must stay as it is -/
structure Iter where
  items : List D
  root : Option (Nat × List D)
def Iter.ok (it : Iter) (S : Sto) : Prop := match it.root with
  | none => True
  | some p => lstAt S p.1 = some p.2
abbrev IM := En → Sto → Out Iter
structure Real (K : PySem.W.Frag) (J : It) (it : Iter) (H : Hp) (rs : List Addr) : Prop where
  goes : ∀ i H1 rs1 S1, i < it.items.length → Ext H rs H1 rs1 → RelS K rs1 H1 S1 → it.ok S1 → J.go i H1
  stops : ∀ H1 rs1 S1, Ext H rs H1 rs1 → RelS K rs1 H1 S1 → it.ok S1 → J.stop it.items.length H1
  yields : ∀ i H1 rs1 S1 x H2 d, it.items[i]? = some d → Ext H rs H1 rs1 → RelS K rs1 H1 S1 → it.ok S1 → J.yld i H1 x H2 → Ext H1 rs1 H2 rs1 ∧ RelS K rs1 H2 S1 ∧ Rep K H2 rs1 d x
def OkI (K : PySem.W.Frag) (W : WX) (σ : L2.St) (H : Hp) (rs : List Addr) (o : Out Iter) (R : It → Hp → Prop) : Prop := match o with
  | .val it S' => ∀ J H' rs', Ext H rs H' rs' → RelS K rs' H' S' → Real K J it H' rs' → R J H'
  | .exc x S' => ∀ c a H' rs', Ext H rs H' rs' → RelS K rs' H' S' → RepX K H' rs' x c a → W c a σ H'
  | .bad => False
def rdI (K : PySem.W.Frag) (W : WX) (m : IM) : TI := fun σ H R => ∃ rs env S, Stt K σ H rs env S ∧ OkI K W σ H rs (m env S) R
def SimI (X : Cx) (W : WX) (tg iter : Expr) (m : IM) : Prop := PI X tg iter (rdI X.K W m)
theorem PI.weaken {X : Cx} {tg e : Expr} {t t' : TI} (h : PI X tg e t) (w : ∀ σ H R, t' σ H R → t σ H R) : PI X tg e t' := ⟨fun pins s σ H R I q => h.run pins s σ H R I (w σ H R q)⟩
section
variable {K : PySem.W.Frag} {W : WX} {σ : L2.St} {H H1 : Hp} {rs rs1 : List Addr} {env : En} {S : Sto}
theorem OkI.from {o : Out Iter} {Q : It → Hp → Prop} (e : Ext H rs H1 rs1) (h : OkI K W σ H rs o Q) : OkI K W σ H1 rs1 o Q := by
  cases o with
  | val d S => exact fun J H' rs' e' => h J H' rs' (e.trans e')
  | exc x S => exact fun c a H' rs' e' => h c a H' rs' (e.trans e')
  | bad => exact h
theorem bindEI {o : Out D} {k : D → Sto → Out Iter} {Q : It → Hp → Prop} {Q1 : VK} (h : OkI K W σ H rs (o.bind k) Q)
    (next : ∀ d S' v H' rs', Ext H rs H' rs' → RelS K rs' H' S' → Rep K H' rs' d v → OkI K W σ H' rs' (k d S') Q → Q1 v H') : OkE K W σ H rs o Q1 := by
  cases o with
  | val d S => exact fun v H' rs' e r p => next d S v H' rs' e r p (OkI.from e h)
  | exc x S => exact h
  | bad => exact h
theorem bindAI {o : Out (List D)} {k : List D → Sto → Out Iter} {Q : It → Hp → Prop} {Q1 : List V → Hp → Prop} (h : OkI K W σ H rs (o.bind k) Q)
    (next : ∀ d S' v H' rs', Ext H rs H' rs' → RelS K rs' H' S' → Reps K H' rs' d v → OkI K W σ H' rs' (k d S') Q → Q1 v H') : OkA K W σ H rs o Q1 := by
  cases o with
  | val d S => exact fun v H' rs' e r p => next d S v H' rs' e r p (OkI.from e h)
  | exc x S => exact h
  | bad => exact h
/-! ### the realizations -/
theorem real_list {a : Addr} {n : Nat} {xs : List D} {vs : List V} (hr : rs[n]? = some a) (h : SqL K H a vs) (p : Reps K H rs xs vs) (hl : ∀ (X : Cx), True) : Real K (Itl K a) ⟨xs, some (n, xs)⟩ H rs := by
  have at_ : ∀ H1 rs1 S1, Ext H rs H1 rs1 → RelS K rs1 H1 S1 → lstAt S1 n = some xs → ∃ ws, SqL K H1 a ws ∧ Reps K H1 rs1 xs ws := fun H1 rs1 S1 e r ok => by
    obtain ⟨b, ws, h1, h2, h3⟩ := r.lst ok
    rw [pre_get e.pre hr] at h1
    cases h1
    exact ⟨ws, h2, h3⟩
  refine ⟨fun i H1 rs1 S1 hi e r ok => ?_, fun H1 rs1 S1 e r ok => ?_, fun i H1 rs1 S1 x H2 d hd e r ok y => ?_⟩
  · obtain ⟨ws, h1, h2⟩ := at_ H1 rs1 S1 e r ok
    obtain ⟨v, h3, _⟩ := h2.get (List.getElem?_eq_getElem hi)
    exact ⟨ws, v, h1, h3⟩
  · obtain ⟨ws, h1, h2⟩ := at_ H1 rs1 S1 e r ok
    exact ⟨ws, h1, Nat.le_of_eq h2.length⟩
  · obtain ⟨ws, h1, h2⟩ := at_ H1 rs1 S1 e r ok
    obtain ⟨rfl, hy⟩ := y
    obtain ⟨v, h3, h4⟩ := h2.get hd
    have := hy ws h1
    rw [h3] at this
    cases this
    exact ⟨Ext.refl _ _, r, h4⟩
theorem real_tup {a : Addr} {xs : List D} {vs : List V} (h : SqT K H a vs) (p : Reps K H rs xs vs) : Real K (Itt K a) ⟨xs, none⟩ H rs := by
  refine ⟨fun i H1 rs1 S1 hi e r ok => ?_, fun H1 rs1 S1 e r ok => ?_, fun i H1 rs1 S1 x H2 d hd e r ok y => ?_⟩
  · obtain ⟨v, h3, _⟩ := p.get (List.getElem?_eq_getElem hi)
    exact ⟨vs, v, e.tz.sqT h, h3⟩
  · exact ⟨vs, e.tz.sqT h, Nat.le_of_eq p.length⟩
  · obtain ⟨rfl, hy⟩ := y
    obtain ⟨v, h3, h4⟩ := p.get hd
    have := hy vs (e.tz.sqT h)
    rw [h3] at this
    cases this
    exact ⟨Ext.refl _ _, r, Rep.mono e _ _ h4⟩
theorem real_range {lo : Int} {n : Nat} : Real K (Itr lo n) ⟨(List.range n).map fun i => .int (lo + (i : Nat)), none⟩ H rs := by
  have hl : ((List.range n).map fun i => D.int (lo + (i : Nat))).length = n := by simp
  refine ⟨fun i H1 rs1 S1 hi e r ok => ?_, fun H1 rs1 S1 e r ok => ?_, fun i H1 rs1 S1 x H2 d hd e r ok y => ?_⟩
  · rw [hl] at hi; exact hi
  · rw [hl]; exact Nat.le_refl n
  · obtain ⟨rfl, rfl⟩ := y
    have hi : i < n := by
      have := (List.getElem?_eq_some_iff.mp hd).1
      rw [hl] at this; exact this
    rw [List.getElem?_map, List.getElem?_range hi] at hd
    cases hd
    exact ⟨Ext.refl _ _, r, rep_int.mpr rfl⟩
/-- keys of a locked dict -/
theorem real_keys {d : Addr} {o : Obj} {n : Nat} {kvs : List (Key × D)} {kw : List (Key × V)} (h : H d = some (.frz o (.dK kw))) (p : RepK K H rs kvs kw) : Real K (Itk d o kw) ⟨kvs.map fun kv => keyD kv.1, none⟩ H rs := by
  refine ⟨fun i H1 rs1 S1 hi e r ok => ?_, fun H1 rs1 S1 e r ok => ?_, fun i H1 rs1 S1 x H2 dd hd e r ok y => ?_⟩
  · exact ⟨e.tz.frz _ _ _ h, by rw [p.len]; simpa using hi⟩
  · exact ⟨e.tz.frz _ _ _ h, by rw [p.len]; simp⟩
  · obtain ⟨rfl, k, v, h3, rfl⟩ := y
    obtain ⟨d', h4, _⟩ := p.get h3
    simp only [List.getElem?_map, h4, Option.map_some] at hd
    cases hd
    exact ⟨Ext.refl _ _, r, keyD_ok k⟩
/-- a new pair at each turn -/
theorem real_pair {J : It} {xs ys : List D} {vs ws : List V} {n : Nat} (hx : xs.length = n) (hy : ys.length = n) (px : Reps K H rs xs vs) (py : Reps K H rs ys ws)
    (go : ∀ i H1, i < n → (∀ a us, SqT K H a us → SqT K H1 a us) → J.go i H1) (stop : ∀ H1, (∀ a us, SqT K H a us → SqT K H1 a us) → J.stop n H1)
    (yld : ∀ i H1 v H2, (∀ a us, SqT K H a us → SqT K H1 a us) → J.yld i H1 v H2 → ∃ T x y, v = .ref T ∧ H1 T = none ∧ H2 = upd H1 T (.tup [x, y]) ∧ vs[i]? = some x ∧ ws[i]? = some y) :
    Real K J ⟨(xs.zip ys).map fun p => .tup [p.1, p.2], none⟩ H rs := by
  have hl : ((xs.zip ys).map fun p => D.tup [p.1, p.2]).length = n := by simp [hx, hy]
  refine ⟨fun i H1 rs1 S1 hi e r ok => go i H1 (by rw [hl] at hi; exact hi) fun a us h => e.tz.sqT h, fun H1 rs1 S1 e r ok => by rw [hl]; exact stop H1 fun a us h => e.tz.sqT h, fun i H1 rs1 S1 x H2 d hd e r ok y => ?_⟩
  obtain ⟨T, x', y', rfl, hT, rfl, h3, h4⟩ := yld i H1 x H2 (fun a us h => e.tz.sqT h) y
  rw [List.getElem?_map] at hd
  cases q : (xs.zip ys)[i]? with
  | none => rw [q] at hd; cases hd
  | some pr =>
    rw [q] at hd
    cases hd
    rw [List.getElem?_zip_eq_some] at q
    obtain ⟨v, h5, h6⟩ := px.get q.1
    obtain ⟨w, h7, h8⟩ := py.get q.2
    rw [h3] at h5; cases h5
    rw [h4] at h7; cases h7
    refine ⟨Ext.new hT, r.new hT, rep_tup.mpr ⟨T, [x', y'], rfl, SqT.of upd_same, ?_⟩⟩
    have e2 := e.trans (Ext.new (o := .tup [x', y']) hT)
    exact Reps.cons (Rep.mono e2 _ _ h6) (Reps.one (Rep.mono e2 _ _ h8))
end

/-! ### the walked expressions -/
def iRange1 (m : EM) : IM := fun env S => (m env S).bind fun d S1 => match d with
  | .int j => if -(2 ^ 62) ≤ j ∧ j < 2 ^ 62 then .val ⟨(List.range j.toNat).map fun i => .int (0 + (i : Nat)), none⟩ S1 else .bad
  | _ => .bad
def rg2 : D → D → Sto → Out Iter
  | .int i, .int j, S2 => if -(2 ^ 62) ≤ i ∧ i < 2 ^ 62 ∧ -(2 ^ 62) ≤ j ∧ j < 2 ^ 62 then .val ⟨(List.range (j - i).toNat).map fun k => .int (i + (k : Nat)), none⟩ S2 else .bad
  | _, _, _ => .bad
def iRange2 (m n : EM) : IM := fun env S => (m env S).bind fun d S1 => (n env S1).bind fun e S2 => rg2 d e S2
/-- a list, a tuple -/
def iSeq (m : EM) : IM := fun env S => (m env S).bind fun d S1 => match d with
  | .tup xs => .val ⟨xs, none⟩ S1
  | .loc n => match lstAt S1 n with
    | some xs => .val ⟨xs, some (n, xs)⟩ S1
    | none => .bad
  | _ => .bad
section
variable {X : Cx} {W : WX} {tg a b e : Expr} {pos p : Pos} {m n : EM}
theorem i_range1 (hm : X.mg "range" = none) (ha : SimE X W a m) (hg : Gl X "range" := by rfl) (hs : starEach [a] X.env = [(false, eval a X.env)] := by rfl) (hs2 : starEach [a] X.env = (false, eval a X.env) :: starEach [] X.env := by rfl) : SimI X W tg (.Call (.Name "range" p) [a] [] pos) (iRange1 m) := by
  refine PI.weaken (pi_range1 hg hm (a_cons ha a_nil hs2) hs) fun σ H R ⟨rs, env, S, st, h⟩ => ?_
  refine ⟨rs, env, S, st, ?_⟩
  unfold iRange1 at h
  show OkA X.K W σ H rs ((m env S).bind fun a S1 => (aNil env S1).bind fun as S2 => .val (a :: as) S2) _
  cases q : m env S with
  | bad => rw [q] at h; exact h
  | exc x S1 => rw [q] at h; exact h
  | val d S1 =>
    rw [q] at h
    intro vs H1 rs1 e1 r1 p1
    obtain ⟨v, rfl, hv⟩ := p1.inv1
    cases d with
    | int j =>
      have h : OkI X.K W σ H rs (if -(2 ^ 62) ≤ j ∧ j < 2 ^ 62 then .val ⟨(List.range j.toNat).map fun i => .int (0 + (i : Nat)), none⟩ S1 else .bad) R := h
      split at h
      · rename_i hz
        exact ⟨j, by rw [rep_int.mp hv], hz.1, hz.2, h _ H1 rs1 e1 r1 real_range⟩
      · exact h.elim
    | _ => exact h.elim
theorem i_range2 (hm : X.mg "range" = none) (ha : SimE X W a m) (hb : SimE X W b n) (hg : Gl X "range" := by rfl) (hs : starEach [a, b] X.env = [(false, eval a X.env), (false, eval b X.env)] := by rfl) (hs2 : starEach [b] X.env = [(false, eval b X.env)] := by rfl)
    (hs3 : starEach [a, b] X.env = (false, eval a X.env) :: starEach [b] X.env := by rfl) (hs4 : starEach [b] X.env = (false, eval b X.env) :: starEach [] X.env := by rfl) : SimI X W tg (.Call (.Name "range" p) [a, b] [] pos) (iRange2 m n) := by
  refine PI.weaken (pi_range2 hg hm (a_cons ha (a_cons hb a_nil hs4) hs3) hs hs2) fun σ H R ⟨rs, env, S, st, h⟩ => ?_
  refine ⟨rs, env, S, st, ?_⟩
  unfold iRange2 at h
  show OkA X.K W σ H rs ((m env S).bind fun a S1 => ((n env S1).bind fun b S2 => (aNil env S2).bind fun as S3 => .val (b :: as) S3).bind fun as S2 => .val (a :: as) S2) _
  cases q : m env S with
  | bad => rw [q] at h; exact h
  | exc x S1 => rw [q] at h; exact h
  | val d S1 =>
    rw [q] at h
    have h : OkI X.K W σ H rs ((n env S1).bind fun e S2 => rg2 d e S2) R := h
    show OkA X.K W σ H rs (((n env S1).bind fun b S2 => (aNil env S2).bind fun as S3 => .val (b :: as) S3).bind fun as S2 => .val (d :: as) S2) _
    cases q2 : n env S1 with
    | bad => rw [q2] at h; exact h
    | exc x S1 => rw [q2] at h; exact h
    | val d2 S2 =>
      rw [q2] at h
      intro vs H1 rs1 e1 r1 p1
      obtain ⟨v, w, rfl, hv, hw⟩ := p1.inv2
      cases d with
      | int i =>
        cases d2 with
        | int j =>
          have h : OkI X.K W σ H rs (if -(2 ^ 62) ≤ i ∧ i < 2 ^ 62 ∧ -(2 ^ 62) ≤ j ∧ j < 2 ^ 62 then .val ⟨(List.range (j - i).toNat).map fun k => .int (i + (k : Nat)), none⟩ S2 else .bad) R := h
          split at h
          · rename_i hz
            exact ⟨i, j, by rw [rep_int.mp hv, rep_int.mp hw], hz, h _ H1 rs1 e1 r1 real_range⟩
          · exact h.elim
        | _ => exact h.elim
      | _ => cases d2 <;> exact h.elim
/-- pi_list and pi_tup, by what comes -/
def iAny (K : PySem.W.Frag) (tl : TE) : TI := fun σ H R => tl σ H fun x H1 => ∃ a, x = .ref a ∧ (((∃ xs, SqL K H1 a xs) ∧ R (Itl K a) H1) ∨ ((∃ xs, SqT K H1 a xs) ∧ R (Itt K a) H1))
theorem pi_any {l : Expr} {tl : TE} (hl : PE X l tl) : PI X tg l (iAny X.K tl) := by
  refine ⟨fun pins s σ H R I h => ?_⟩
  refine thn (hl.run pins s σ H _ I h) fun v s1 ⟨x, H1, I1, r1, q1⟩ => ?_
  obtain ⟨a, e, q1⟩ := q1
  subst e
  cases r1
  rcases q1 with ⟨⟨xs, hq⟩, q⟩ | ⟨⟨xs, hq⟩, q⟩
  · obtain ⟨its, rv, p, hz⟩ := I1.list hq
    refine wpAny_pyIter_list p.isList ?_
    refine ⟨s1.heap.objs.size, [s1.heap.objs.size], _, _, H1, rfl, I1.kept (t' := s1.toks) fun b o e => Heap.get?_push_of_some _ e, turn_list a _, ⟨_, Heap.get?_push_size _ rfl, rfl, rfl⟩, fun b hb => ?_, q⟩
    have e : b = s1.heap.objs.size := by simpa using hb
    subst e
    exact I1.fpOk (Nat.le_refl _) (I1.hok.fresh (Nat.le_refl _))
  · obtain ⟨its, rv, p, hz⟩ := I1.tuple hq
    refine wpAny_pyIter_tuple (show s1.heap.IsTuple a its.toArray from p) ?_
    refine ⟨s1.heap.objs.size, [s1.heap.objs.size], _, _, H1, rfl, I1.kept (t' := s1.toks) fun b o e => Heap.get?_push_of_some _ e, turn_tuple a _, ⟨_, Heap.get?_push_size _ rfl, rfl, rfl⟩, fun b hb => ?_, q⟩
    have e : b = s1.heap.objs.size := by simpa using hb
    subst e
    exact I1.fpOk (Nat.le_refl _) (I1.hok.fresh (Nat.le_refl _))
theorem i_seq (h : SimE X W e m) : SimI X W tg e (iSeq m) := by
  refine PI.weaken (pi_any h) fun σ H R ⟨rs, env, S, st, h⟩ => ?_
  refine ⟨rs, env, S, st, bindEI h fun d S1 v H1 rs1 e1 r1 p1 h1 => ?_⟩
  cases d with
  | tup xs =>
    obtain ⟨a, vs, rfl, h2, h3⟩ := rep_tup.mp p1
    exact ⟨a, rfl, .inr ⟨⟨vs, h2⟩, h1 _ H1 rs1 (Ext.refl _ _) r1 (real_tup h2 h3)⟩⟩
  | loc n =>
    simp only at h1
    cases q : lstAt S1 n with
    | none => rw [q] at h1; exact h1.elim
    | some xs =>
      rw [q] at h1
      obtain ⟨a', rfl, ea⟩ := rep_loc.mp p1
      obtain ⟨a, vs, h2, h3, h4⟩ := r1.lst q
      rw [h2] at ea; cases ea
      exact ⟨_, rfl, .inl ⟨⟨vs, h3⟩, h1 _ H1 rs1 (Ext.refl _ _) r1 (real_list h2 h3 h4 fun _ => True.intro)⟩⟩
  | _ => exact h1.elim
end

/-! ### for -/
open Classical in
noncomputable def forGo (it : Iter) (g : GM) (body : SM) : List D → En → Sto → Fl
  | [], env, S => if it.ok S then .nx env S else .bad
  | d :: ds, env, S => if it.ok S then (match asT (g d env S) with
      | .nx env1 S1 => (match body env1 S1 with
        | .nx env2 S2 => forGo it g body ds env2 S2
        | .ct env2 S2 => forGo it g body ds env2 S2
        | .bk env2 S2 => .nx env2 S2
        | o => o)
      | o => o) else .bad
noncomputable def dFor (im : IM) (g : GM) (body : SM) : SM := fun env S => bindS (im env S) env fun it S1 => forGo it g body it.items env S1
section
variable {K : PySem.W.Frag} {W : WX} {H : Hp} {rs : List Addr} {env : En} {S : Sto} {it : Iter} {g : GM} {body : SM} {D' : Ends}
theorem forGo_ok {ds : List D} (h : OkS K W H rs (forGo it g body ds env S) D') : it.ok S := by
  cases ds with
  | nil =>
    unfold forGo at h
    split at h
    · assumption
    · exact h.elim
  | cons d ds =>
    unfold forGo at h
    split at h
    · assumption
    · exact h.elim
/-- the loop over a realized walk -/
theorem for_real {J : It} {σ : L2.St} (real : Real K J it H rs) (st : Stt K σ H rs env S) (h : OkS K W H rs (forGo it g body it.items env S) D') :
    ∃ Wf : Nat → Nat → L2.St → Hp → Prop, (∃ m, Wf 0 m σ H) ∧ ∀ i m σ H, Wf i m σ H →
      (J.stop i H ∧ D'.nx σ H) ∨ (J.go i H ∧ ∃ N : L2.St → Hp → Prop, (∀ σ' H', N σ' H' → ∃ m', m' < m ∧ Wf (i + 1) m' σ' H') ∧ ∀ x H', J.yld i H x H' → rdG K W g x σ H' fun σ2 H2 => rdS K W body { D' with nx := N, ct := N, bk := D'.nx } σ2 H2) := by
  refine ⟨fun i m σ1 H1 => m = it.items.length - i ∧ i ≤ it.items.length ∧ ∃ rs1 env1 S1, Ext H rs H1 rs1 ∧ Stt K σ1 H1 rs1 env1 S1 ∧ OkS K W H1 rs1 (forGo it g body (it.items.drop i) env1 S1) D', ⟨it.items.length, by simp, Nat.zero_le _, rs, env, S, Ext.refl _ _, st, h⟩, ?_⟩
  rintro i m σ1 H1 ⟨rfl, hi, rs1, env1, S1, e1, st1, h1⟩
  have ok := forGo_ok h1
  by_cases hlt : i < it.items.length
  · have ed : it.items.drop i = it.items[i] :: it.items.drop (i + 1) := List.drop_eq_getElem_cons hlt
    rw [ed] at h1
    unfold forGo at h1
    rw [if_pos ok] at h1
    refine .inr ⟨real.goes i H1 rs1 S1 hlt e1 st1.sto ok, fun σ' H' => ∃ rs2 env2 S2, Ext H rs H' rs2 ∧ Stt K σ' H' rs2 env2 S2 ∧ OkS K W H' rs2 (forGo it g body (it.items.drop (i + 1)) env2 S2) D', fun σ' H' n => ⟨it.items.length - (i + 1), by omega, rfl, hlt, n⟩, fun x H2 y => ?_⟩
    obtain ⟨e2, r2, p2⟩ := real.yields i H1 rs1 S1 x H2 _ (List.getElem?_eq_getElem hlt) e1 st1.sto ok y
    refine ⟨rs1, env1, S1, it.items[i], st1.to e2 r2, p2, ?_⟩
    have h2 := OkS.from e2 h1
    cases q : g it.items[i] env1 S1 with
    | nx env3 S3 =>
      rw [q] at h2
      intro σ3 H3 rs3 e3 st3
      refine ⟨rs3, env3, S3, st3, ?_⟩
      have h3 := OkS.from e3 h2
      simp only [asT] at h3
      cases q2 : body env3 S3 with
      | nx env4 S4 =>
        rw [q2] at h3
        exact fun σ4 H4 rs4 e4 st4 => ⟨rs4, env4, S4, (e1.trans e2).trans (e3.trans e4), st4, OkS.from e4 h3⟩
      | ct env4 S4 =>
        rw [q2] at h3
        exact fun σ4 H4 rs4 e4 st4 => ⟨rs4, env4, S4, (e1.trans e2).trans (e3.trans e4), st4, OkS.from e4 h3⟩
      | bk env4 S4 => rw [q2] at h3; exact h3
      | rt d S4 => rw [q2] at h3; exact h3
      | exc x e s => rw [q2] at h3; exact h3
      | bad => rw [q2] at h3; exact h3
    | exc x e s => rw [q] at h2; exact h2
    | rt d S' => rw [q] at h2; exact h2.elim
    | bk env' S' => rw [q] at h2; exact h2.elim
    | ct env' S' => rw [q] at h2; exact h2.elim
    | bad => rw [q] at h2; exact h2.elim
  · have e : i = it.items.length := by omega
    subst e
    have ed : it.items.drop it.items.length = [] := List.drop_length
    rw [ed] at h1
    unfold forGo at h1
    rw [if_pos ok] at h1
    exact .inl ⟨real.stops H1 rs1 S1 e1 st1.sto ok, h1 σ1 H1 rs1 (Ext.refl _ _) st1⟩
end
section
variable {X : Cx} {W : WX} {tg iter c : Expr} {body : List Stmt} {pos : Pos} {im : IM} {g : GM} {ms : SM}
theorem s_for (G : Good X W) (hi : SimI X W tg iter im) (hg : SimG X W tg g) (hb : SimSs X W body ms) (hs : ∀ x, foldedSetIterable iter X.env x = pure x := by intro _; rfl) : SimS X W (.For tg iter body [] pos) (dFor im g ms) := by
  refine PS.weaken (ps_for G.pass G.calm hi hg hb hs) fun D σ H ⟨rs, env, S, st, h⟩ => ?_
  refine ⟨rs, env, S, st, ?_⟩
  unfold dFor at h
  cases q : im env S with
  | val it S1 => rw [q] at h; exact fun J H1 rs1 e1 r1 real => for_real real (st.to e1 r1) (OkS.from e1 h)
  | exc x S1 => rw [q] at h; exact fun c a H' rs' e r p => h c a σ H' rs' e (st.to e r) p
  | bad => rw [q] at h; exact h

/-! ### while -/
def whGo (c : TM) (b : SM) : Nat → En → Sto → Fl
  | 0, _, _ => .bad
  | n + 1, env, S => bindS (c env S) env fun k S1 => if k = true then (match b env S1 with
      | .nx e s => whGo c b n e s
      | .ct e s => whGo c b n e s
      | .bk e s => .nx e s
      | o => o) else .nx env S1
end
def Fl.isBad : Fl → Bool
  | .bad => true
  | _ => false
theorem whGo_succ {c : TM} {b : SM} : ∀ {n : Nat} {env : En} {S : Sto}, (whGo c b n env S).isBad = false → whGo c b (n + 1) env S = whGo c b n env S
  | 0, env, S, h => by simp [whGo, Fl.isBad] at h
  | n + 1, env, S, h => by
    rw [whGo]
    rw [whGo] at h ⊢
    cases q : c env S with
    | bad => rfl
    | exc x S1 => rfl
    | val k S1 =>
      rw [q] at h
      simp only [bindS] at h ⊢
      cases k with
      | false => rfl
      | true =>
        simp only [if_true] at h ⊢
        cases q2 : b env S1 with
        | nx e s => rw [q2] at h; exact whGo_succ h
        | ct e s => rw [q2] at h; exact whGo_succ h
        | bk e s => rfl
        | rt d s => rfl
        | exc x e s => rfl
        | bad => rfl
theorem whGo_le {c : TM} {b : SM} {n m : Nat} {env : En} {S : Sto} (h : (whGo c b n env S).isBad = false) (hm : n ≤ m) : whGo c b m env S = whGo c b n env S := by
  induction m with
  | zero =>
    have : n = 0 := by omega
    subst this; rfl
  | succ m ih =>
    by_cases e : n = m + 1
    · subst e; rfl
    · have hh := ih (by omega)
      rw [whGo_succ (by rw [hh]; exact h), hh]
open Classical in
noncomputable def dWh (c : TM) (b : SM) : SM := fun env S => if h : ∃ n, (whGo c b n env S).isBad = false then whGo c b h.choose env S else .bad
theorem dWh_of {c : TM} {b : SM} {n : Nat} {env : En} {S : Sto} (h : (whGo c b n env S).isBad = false) : dWh c b env S = whGo c b n env S := by
  have hx : ∃ n, (whGo c b n env S).isBad = false := ⟨n, h⟩
  unfold dWh
  rw [dif_pos hx]
  have h2 := hx.choose_spec
  by_cases e : n ≤ hx.choose
  · exact whGo_le h e
  · exact (whGo_le h2 (by omega)).symm
section
variable {X : Cx} {W : WX} {c : Expr} {body : List Stmt} {pos : Pos} {t : TM} {ms : SM}
theorem s_while (G : Good X W) (hc : SimT X W c t) (hb : SimSs X W body ms) : SimS X W (.While c body [] pos) (dWh t ms) := by
  refine PS.weaken (ps_while G.pass hc hb) fun D σ H ⟨rs, env, S, st, h⟩ => ?_
  have hx : ∃ n, (whGo t ms n env S).isBad = false := by
    unfold dWh at h
    split at h
    · assumption
    · exact h.elim
  obtain ⟨n, hn⟩ := hx
  rw [dWh_of hn] at h
  refine ⟨fun m σ1 H1 => ∃ rs1 env1 S1, Stt X.K σ1 H1 rs1 env1 S1 ∧ OkS X.K W H1 rs1 (whGo t ms m env1 S1) D, ⟨n, rs, env, S, st, h⟩, ?_⟩
  rintro m σ1 H1 ⟨rs1, env1, S1, st1, h1⟩
  cases m with
  | zero => exact h1.elim
  | succ m =>
    rw [whGo] at h1
    refine ⟨rs1, env1, S1, st1, bindTS st1 h1 fun k S2 H2 rs2 e2 r2 h2 => ?_⟩
    cases k with
    | false => exact h2 σ1 H2 rs2 (Ext.refl _ _) (st1.to e2 r2)
    | true =>
      simp only [if_true] at h2
      refine ⟨fun σ' H' => ∃ rs3 env3 S3, Stt X.K σ' H' rs3 env3 S3 ∧ OkS X.K W H' rs3 (whGo t ms m env3 S3) D, fun σ' H' n => ⟨m, Nat.lt_succ_self m, n⟩, rs2, env1, S2, st1.to e2 r2, ?_⟩
      cases q : ms env1 S2 with
      | nx e s => rw [q] at h2; exact fun σ3 H3 rs3 e3 st3 => ⟨rs3, e, s, st3, OkS.from e3 h2⟩
      | ct e s => rw [q] at h2; exact fun σ3 H3 rs3 e3 st3 => ⟨rs3, e, s, st3, OkS.from e3 h2⟩
      | bk e s => rw [q] at h2; exact h2
      | rt d s => rw [q] at h2; exact h2
      | exc x e s => rw [q] at h2; exact h2
      | bad => rw [q] at h2; exact h2
end
end Sh

set_option Elab.async false
set_option linter.all false
set_option maxRecDepth 100000
set_option maxHeartbeats 4000000
set_option autoImplicit false
/-! enumerate of a tuple -/
namespace PySem
open Sem (wp)
open AutoSeq1 (wpAny_loadPart')
theorem sh_enumerate_newT (l : Addr) (items : Array Value) :
    Meets (Builtin.«enumerate.__new__» ⟨[.type "enumerate", .ref l], []⟩) (fun _ R s => s.heap.IsTuple l items ∧
      R (.ok (.ret (.ref (s.heap.push { cls := .type "tuple_iterator", data := .fields #[.ref l, .int 0 0] }).objs.size)))
        { s with heap := (s.heap.push { cls := .type "tuple_iterator", data := .fields #[.ref l, .int 0 0] }).push { cls := .type "enumerate", data := .fields #[.none, .bool false, .ref s.heap.objs.size, rawInt 0, .none, .none] } }) :=
  .of_wp fun prog w A R s h => by
    obtain ⟨hp, g, d, tk, os⟩ := s; obtain ⟨hl, h⟩ := h
    have hsub := sub_enumerate
    have q1 : ∀ {A' : Around} {E : Value → Shared → Prop} {Q : Value → Shared → Prop}, Q (.ref hp.objs.size) ⟨hp.push { cls := .type "tuple_iterator", data := .fields #[.ref l, .int 0 0] }, g, d, tk, os⟩ → wpAny (model prog w) A' (pyIter (.ref l)) Q E ⟨hp, g, d, tk, os⟩ :=
      fun q => (begins_tuple l items).iter prog w _ _ ⟨hp, g, d, tk, os⟩ _ hl q
    wp_walk using q1
    refine wpAny_stack_any fun st => wpAny_pure ?_
    split
    · rename_i c _ _ _ _ _
      cases (c == Value.type "enumerate")
      · wp_walk using q1
        exact ⟨_, rfl, h⟩
      · wp_walk using q1
        exact ⟨_, rfl, h⟩
    · wp_walk using q1
      exact ⟨_, rfl, h⟩
section
variable {prog : Program} {w : World} {A : Around} {E : Value → Shared → Prop} {s : Shared}
theorem sh_call_enumerate_tuple {l : Addr} {items : Array Value} {Q : Value → Shared → Prop} (hL : s.heap.IsTuple l items)
    (h : ∀ h', IsEnum h' (s.heap.objs.size + 1) s.heap.objs.size 0 .none → h'.IsTupleIter s.heap.objs.size l 0 → h'.objs.size = s.heap.objs.size + 2 →
      (∀ b o, s.heap.get? b = some o → h'.get? b = some o) → Q (.ref (s.heap.objs.size + 1)) { s with heap := h' }) :
    wpAny (model prog w) A (call (.type "enumerate") [.ref l]) Q E s := by
  refine callType_new F.called_enumerate (by decide) (F.typeCall_enumerate_1 _) (F.newCall_enumerate_1 _) (fun obj => F.args_object_init_2 obj _) F.entry_enumerate_new
    (sh_enumerate_newT l items) ⟨hL, ?_⟩
  have hz : (s.heap.push { cls := .type "tuple_iterator", data := .fields #[.ref l, .int 0 0] }).objs.size = s.heap.objs.size + 1 := Heap.size_push ..
  show _ ∧ _
  rw [hz]
  have he : IsEnum ((s.heap.push { cls := .type "tuple_iterator", data := .fields #[.ref l, .int 0 0] }).push
      { cls := .type "enumerate", data := .fields #[.none, .bool false, .ref s.heap.objs.size, rawInt 0, .none, .none] }) (s.heap.objs.size + 1) s.heap.objs.size 0 .none := by
    have := Heap.get?_push_size (s.heap.push { cls := .type "tuple_iterator", data := .fields #[.ref l, .int 0 0] })
      (o := { cls := .type "enumerate", data := .fields #[.none, .bool false, .ref s.heap.objs.size, rawInt 0, .none, .none] }) rfl
    rw [hz] at this; exact this
  refine ⟨⟨_, he, rfl⟩, h _ he ⟨_, Heap.get?_push_of_some _ (Heap.get?_push_size _ rfl), rfl, rfl⟩ (by rw [Heap.size_push, hz]) fun b o x => Heap.get?_push_of_some _ (Heap.get?_push_of_some _ x)⟩
theorem sh_enum_endT {e it l : Addr} {i : Nat} {items : Array Value} {old : Value} {Q : Option Value → Shared → Prop} (hh : A.handled = none)
    (he : IsEnum s.heap e it i old) (hit : s.heap.IsTupleIter it l i) (hl : s.heap.IsTuple l items) (hx : items[i]? = none)
    (hQ : ∀ h', Heap.ExtBut it s.heap h' → Q none { s with heap := h' }) : wpAny (model prog w) A (pyNext (.ref e)) Q E s := by
  have hT : s.TypeIs (.ref e) "enumerate" := ⟨_, he, rfl⟩
  unfold pyNext
  refine wpAny_bind (wpAny_attempt (wpAny_callSpecial?_slot (name := Str.ofString "__next__") hT F.slot_enumerate_next
    (wpAny_call_entry F.slot_enumerate_next hT F.entry_enumerate_next ?_ (F.args_enumerate_next_1 _))))
  show wpAny _ _ (field (.ref e) 2 >>= _) _ _ _
  refine wpAny_bind (wpAny_field he rfl (x := .ref it) rfl ?_)
  refine wpAny_bind (wpAny_nextOf_tuple_end hh hit hl hx fun h' x he' hx' => ?_)
  obtain ⟨o, ho, hc⟩ := hx'
  refine wpAny_bind (wpAny_isInstance (T := "StopIteration") (b := true) ⟨o, ho, hc⟩ isSubtype_stop ?_)
  exact wpAny_pure (hQ _ he')
end
end PySem
namespace Sh
open PySem PySem.Spec PyProof.Rows L2
/-- the tuple at a, each item in a new pair -/
def IteT (K : PySem.W.Frag) (a : Addr) : It :=
  ⟨fun i H => ∃ (xs : List V) (x : V), SqT K H a xs ∧ xs[i]? = some x, fun i H v H' => ∃ T x, v = .ref T ∧ H T = none ∧ H' = upd H T (.tup [.int (i : Nat), x]) ∧ ∀ xs, SqT K H a xs → xs[i]? = some x, fun i H => ∃ xs : List V, SqT K H a xs ∧ xs.length ≤ i⟩
theorem turn_enumT {P : Program} {w : World} {K : PySem.W.Frag} {elts : List Expr} {kk : Nat} {tpos : Pos} (a e it : Addr) (hai : a ≠ it) :
    Turn P w K (.Tuple elts kk tpos) (IteT K a) [e, it] e (fun i h => (∃ old, IsEnum h e it ((i : Nat) : Int) old) ∧ h.IsTupleIter it a i ∧ e ≠ it ∧ a ≠ e) where
  mem := by simp
  obj := fun i h st b hb => by
    obtain ⟨⟨old, he⟩, ⟨o, ho, hc, hd⟩, _⟩ := st
    have e' : b = e ∨ b = it := by simpa using hb
    rcases e' with z | z
    · rw [z]; exact ⟨_, he, fun v q => nomatch q⟩
    · rw [z]; exact ⟨o, ho, fun v q => by rw [hd] at q; cases q⟩
  keep := fun i h h' st k => let ⟨⟨old, he⟩, hi, hne⟩ := st; ⟨⟨old, k e (by simp) _ he⟩, hi.at fun o q => k it (by simp) o q, hne⟩
  item := by
    intro X hP hw hK hc i pins s σ H E I hf st hg
    subst hP hw hK
    obtain ⟨⟨old, he⟩, hit, hne, hae⟩ := st
    obtain ⟨xs, x, hq, hx⟩ := hg
    obtain ⟨its, rv, p, hz⟩ := I.tuple hq
    obtain ⟨u, hu, ru⟩ := rv.get hx
    have hel : e < s.heap.objs.size := Heap.lt_size he
    have hil : it < s.heap.objs.size := by obtain ⟨_, q, _⟩ := hit; exact Heap.lt_size q
    have hlt : i < its.toArray.size := by
      have := (List.getElem?_eq_some_iff.mp hu).1
      simpa using this
    have hh : X.A.in1.handled = none := I.ok.hd hc
    refine wpAny_pyNext_enum_itemD (Draws.tuple hh it a hai its.toArray) he ⟨hit, show s.heap.IsTuple a its.toArray from p⟩ hlt hne (fun hm => ?_) fun y h' tk hy ho hst hT hsz hk => ?_
    · have e' : e = it ∨ e = a := by simpa using hm
      rcases e' with z | z
      · exact hne z
      · exact hae z.symm
    · obtain rfl : y = u := by
        have h1 : its.toArray[i]? = some u := by simpa using hu
        have h2 : its.toArray[i]? = some y := hy
        rw [h1] at h2; exact (Option.some.inj h2).symm
      obtain ⟨hit', _⟩ := hst
      refine ⟨_, rfl, wpAny_letOwnedTupleGo_enum (s := { s with heap := h', toks := tk + 1 }) ho fun h'' he' sb => ?_⟩
      have hT2 : h''.get? s.heap.objs.size = some { cls := .type "tuple", data := .seq #[.int i tk, y] } := (sb.2 _ (Nat.ne_of_gt hel)).trans hT
      have new : ObjOk X.prog X.w (upd H s.heap.objs.size (.tup [.int (i : Nat), x])) h'' s.heap.objs.size (.tup [.int (i : Nat), x]) :=
        ⟨by show 2 ≤ sizeLine; decide, [.int i tk, y], .cons ⟨_, rfl⟩ (.cons ru .nil), ⟨_, hT2, rfl, _, rfl⟩⟩
      have I1 : Inv X pins σ (upd H s.heap.objs.size (.tup [.int (i : Nat), x])) { s with heap := h'', toks := tk + 1 } :=
        I.turnedNew (ch := [e, it]) (fun b ob hb q => (sb.2 b (fun z => hb (by simp [z]))).trans (hk b ob (fun z => hb (by simp [z])) (fun z => hb (by simp [z])) q)) hf (Nat.le_refl _) new
      refine ⟨.ref s.heap.objs.size, _, I1, rfl, ⟨_, x, rfl, I.hok.fresh (Nat.le_refl _), rfl, fun ys hy => by rw [I.tuple_inj hy hq]; exact hx⟩, ⟨⟨y, ?_⟩, hit'.at fun o q => (sb.2 it (Ne.symm hne)).trans q, hne, hae⟩, fun b hb => ?_⟩
      · have e1 : ((i + 1 : Nat) : Int) = (i : Int) + 1 := by omega
        rw [e1]; exact he'
      · have hb' : b < s.heap.objs.size := by
          have e' : b = e ∨ b = it := by simpa using hb
          rcases e' with z | z
          · rw [z]; exact hel
          · rw [z]; exact hil
        rw [upd_ne (Nat.ne_of_lt hb')]
        exact (hf b hb).1
  done := by
    intro X hP hw hK hc i pins s σ H E I hf st hg
    subst hP hw hK
    obtain ⟨⟨old, he⟩, hit, hne, hae⟩ := st
    obtain ⟨xs, hq, hx⟩ := hg
    obtain ⟨its, rv, p, hz⟩ := I.tuple hq
    obtain ⟨f0, f1, f2, f3, f4, f5⟩ := hf it (by simp)
    have hl := rv.length
    have hh : X.A.in1.handled = none := I.ok.hd hc
    exact sh_enum_endT hh he hit p (by simp; omega) fun h' eb => ⟨rfl, I.turned (t' := s.toks) (fun b o hb q => eb b o hb q) f0 f1 f3 f4 f5⟩
  self := fun A i s Q E st h => let ⟨⟨_, he⟩, _⟩ := st; wpAny_pyIter_enum he h
def iEnumA (K : PySem.W.Frag) (ta : TA) : TI := fun σ H R => ta σ H fun vs H1 => ∃ a, vs = [.ref a] ∧ (((∃ xs, SqL K H1 a xs) ∧ R (Ite K a) H1) ∨ ((∃ xs, SqT K H1 a xs) ∧ R (IteT K a) H1))
theorem pi_enumA {X : Cx} {e : Expr} {ta : TA} {p pos tpos : Pos} {elts : List Expr} {kk : Nat} (hg : Gl X "enumerate") (hm : X.mg "enumerate" = none) (ha : PA X [e] ta) (hs : starEach [e] X.env = [(false, eval e X.env)] := by rfl) :
    PI X (.Tuple elts kk tpos) (.Call (.Name "enumerate" p) [e] [] pos) (iEnumA X.K ta) := by
  refine ⟨fun pins s σ H R I h => ?_⟩
  refine Call_ (ld_blt I hg hm boot_enumerate (PyProof.Rows.callWith_type1 (thn (ha.run pos pins s σ H _ I h) fun us s1 ⟨vs, H1, I1, r1, q1⟩ => ?_) hs rfl))
  obtain ⟨a, ex, q1⟩ := q1
  subst ex
  have fin : ∀ b, (b = s1.heap.objs.size + 1 ∨ b = s1.heap.objs.size) → FpOk X pins H1 b := fun b e' => by
    have hle : s1.heap.objs.size ≤ b := by
      rcases e' with z | z
      · rw [z]; exact Nat.le_add_right _ _
      · rw [z]; exact Nat.le_refl _
    exact I1.fpOk hle (I1.hok.fresh hle)
  cases r1 with
  | cons r rr =>
    cases rr
    cases r
    rcases q1 with ⟨⟨xs, hq⟩, q⟩ | ⟨⟨xs, hq⟩, q⟩
    · obtain ⟨its, rv, p', hz⟩ := I1.list hq
      refine call_enumerate_list p'.isList fun h' he hit hsz hk => wpAny_pyIter_enum he ?_
      have I2 : Inv X pins σ H1 { s1 with heap := h' } := I1.kept (t' := s1.toks) hk
      exact ⟨s1.heap.objs.size + 1, [s1.heap.objs.size + 1, s1.heap.objs.size], _, _, H1, rfl, I2, turn_enum a (s1.heap.objs.size + 1) s1.heap.objs.size, ⟨⟨.none, he⟩, hit, Nat.succ_ne_self _⟩, fun b hb => fin b (by simpa using hb), q⟩
    · obtain ⟨its, rv, p', hz⟩ := I1.tuple hq
      have hal : a < s1.heap.objs.size := by obtain ⟨o, ho, _⟩ := p'; exact Heap.lt_size ho
      refine sh_call_enumerate_tuple (show s1.heap.IsTuple a its.toArray from p') fun h' he hit hsz hk => wpAny_pyIter_enum he ?_
      have I2 : Inv X pins σ H1 { s1 with heap := h' } := I1.kept (t' := s1.toks) hk
      exact ⟨s1.heap.objs.size + 1, [s1.heap.objs.size + 1, s1.heap.objs.size], _, _, H1, rfl, I2, turn_enumT a (s1.heap.objs.size + 1) s1.heap.objs.size (Nat.ne_of_lt hal), ⟨⟨.none, he⟩, hit, Nat.succ_ne_self _, Nat.ne_of_lt (Nat.lt_succ_of_lt hal)⟩, fun b hb => fin b (by simpa using hb), q⟩
def enumD (xs : List D) : List D := (xs.zipIdx).map fun p => .tup [.int (p.2 : Nat), p.1]
def iEnum_ (m : EM) : IM := fun env S => (m env S).bind fun d S1 => match d with
  | .tup xs => .val ⟨enumD xs, none⟩ S1
  | .loc n => match lstAt S1 n with
    | some xs => .val ⟨enumD xs, some (n, xs)⟩ S1
    | none => .bad
  | _ => .bad
theorem enumD_get {xs : List D} {i : Nat} {d : D} (h : (enumD xs)[i]? = some d) : ∃ x, xs[i]? = some x ∧ d = .tup [.int (i : Nat), x] := by
  unfold enumD at h
  rw [List.getElem?_map, List.getElem?_zipIdx] at h
  cases q : xs[i]? with
  | none => rw [q] at h; cases h
  | some x =>
    rw [q] at h
    cases h
    exact ⟨x, rfl, by simp⟩
theorem enumD_len (xs : List D) : (enumD xs).length = xs.length := by simp [enumD]
section
variable {K : PySem.W.Frag} {H : Hp} {rs : List Addr}
theorem pair_ok {H1 : Hp} {rs1 : List Addr} {S1 : Sto} {T : Addr} {i : Nat} {x : V} {d : D} (hT : H1 T = none) (r : RelS K rs1 H1 S1) (p : Rep K H1 rs1 d x) :
    Ext H1 rs1 (upd H1 T (.tup [.int (i : Nat), x])) rs1 ∧ RelS K rs1 (upd H1 T (.tup [.int (i : Nat), x])) S1 ∧ Rep K (upd H1 T (.tup [.int (i : Nat), x])) rs1 (.tup [.int (i : Nat), d]) (.ref T) :=
  ⟨Ext.new hT, r.new hT, rep_tup.mpr ⟨T, _, rfl, SqT.of upd_same, Reps.cons (rep_int.mpr rfl) (Reps.one (Rep.mono (Ext.new hT) _ _ p))⟩⟩
theorem real_enumL {a : Addr} {n : Nat} {xs : List D} (hr : rs[n]? = some a) : Real K (Ite K a) ⟨enumD xs, some (n, xs)⟩ H rs := by
  have at_ : ∀ H1 rs1 S1, Ext H rs H1 rs1 → RelS K rs1 H1 S1 → lstAt S1 n = some xs → ∃ ws, SqL K H1 a ws ∧ Reps K H1 rs1 xs ws := fun H1 rs1 S1 e r ok => by
    obtain ⟨b, ws, h1, h2, h3⟩ := r.lst ok
    rw [pre_get e.pre hr] at h1
    cases h1
    exact ⟨ws, h2, h3⟩
  refine ⟨fun i H1 rs1 S1 hi e r ok => ?_, fun H1 rs1 S1 e r ok => ?_, fun i H1 rs1 S1 x H2 d hd e r ok y => ?_⟩
  · obtain ⟨ws, h1, h2⟩ := at_ H1 rs1 S1 e r ok
    obtain ⟨v, h3, _⟩ := h2.get (List.getElem?_eq_getElem (show i < xs.length by rw [← enumD_len]; exact hi))
    exact ⟨ws, v, h1, h3⟩
  · obtain ⟨ws, h1, h2⟩ := at_ H1 rs1 S1 e r ok
    refine ⟨ws, h1, ?_⟩
    show ws.length ≤ (enumD xs).length
    rw [enumD_len]; exact Nat.le_of_eq h2.length
  · obtain ⟨ws, h1, h2⟩ := at_ H1 rs1 S1 e r ok
    obtain ⟨T, x', rfl, hT, rfl, hy⟩ := y
    obtain ⟨d', h3, rfl⟩ := enumD_get hd
    obtain ⟨v, h4, h5⟩ := h2.get h3
    have := hy ws h1
    rw [h4] at this
    cases this
    exact pair_ok hT r h5
theorem real_enumT {a : Addr} {xs : List D} {vs : List V} (h : SqT K H a vs) (p : Reps K H rs xs vs) : Real K (IteT K a) ⟨enumD xs, none⟩ H rs := by
  refine ⟨fun i H1 rs1 S1 hi e r ok => ?_, fun H1 rs1 S1 e r ok => ?_, fun i H1 rs1 S1 x H2 d hd e r ok y => ?_⟩
  · obtain ⟨v, h3, _⟩ := p.get (List.getElem?_eq_getElem (show i < xs.length by rw [← enumD_len]; exact hi))
    exact ⟨vs, v, e.tz.sqT h, h3⟩
  · refine ⟨vs, e.tz.sqT h, ?_⟩
    show vs.length ≤ (enumD xs).length
    rw [enumD_len]; exact Nat.le_of_eq p.length
  · obtain ⟨T, x', rfl, hT, rfl, hy⟩ := y
    obtain ⟨d', h3, rfl⟩ := enumD_get hd
    obtain ⟨v, h4, h5⟩ := p.get h3
    have := hy vs (e.tz.sqT h)
    rw [h4] at this
    cases this
    exact pair_ok hT r (Rep.mono e _ _ h5)
end
theorem i_enum {X : Cx} {W : WX} {e : Expr} {m : EM} {p pos tpos : Pos} {elts : List Expr} {kk : Nat} (hm : X.mg "enumerate" = none) (ha : SimE X W e m) (hg : Gl X "enumerate" := by rfl) (hs : starEach [e] X.env = [(false, eval e X.env)] := by rfl) (hs2 : starEach [e] X.env = (false, eval e X.env) :: starEach [] X.env := by rfl) :
    SimI X W (.Tuple elts kk tpos) (.Call (.Name "enumerate" p) [e] [] pos) (iEnum_ m) := by
  refine PI.weaken (pi_enumA hg hm (a_cons ha a_nil hs2) hs) fun σ H R ⟨rs, env, S, st, h⟩ => ?_
  refine ⟨rs, env, S, st, ?_⟩
  unfold iEnum_ at h
  show OkA X.K W σ H rs ((m env S).bind fun a S1 => (aNil env S1).bind fun as S2 => .val (a :: as) S2) _
  cases q : m env S with
  | bad => rw [q] at h; exact h
  | exc x S1 => rw [q] at h; exact h
  | val d S1 =>
    rw [q] at h
    intro vs H1 rs1 e1 r1 p1
    obtain ⟨v, rfl, hv⟩ := p1.inv1
    cases d with
    | tup xs =>
      obtain ⟨a, ws, rfl, h2, h3⟩ := rep_tup.mp hv
      exact ⟨a, rfl, .inr ⟨⟨ws, h2⟩, h _ H1 rs1 e1 r1 (real_enumT h2 h3)⟩⟩
    | loc n =>
      have h : OkI X.K W σ H rs (match lstAt S1 n with
        | some xs => .val ⟨enumD xs, some (n, xs)⟩ S1
        | none => .bad) R := h
      cases q2 : lstAt S1 n with
      | none => rw [q2] at h; exact h.elim
      | some xs =>
        rw [q2] at h
        obtain ⟨a', rfl, ea⟩ := rep_loc.mp hv
        obtain ⟨a, ws, h2, h3, h4⟩ := r1.lst q2
        rw [h2] at ea; cases ea
        exact ⟨_, rfl, .inl ⟨⟨ws, h3⟩, h _ H1 rs1 e1 r1 (real_enumL h2)⟩⟩
    | _ => exact h.elim
end Sh

set_option Elab.async false
set_option linter.all false
set_option maxRecDepth 100000
set_option maxHeartbeats 4000000
set_option autoImplicit false
namespace Sh
open PySem PySem.Spec PyProof.Rows L2

/-! ### comprehensions -/
def wipeE (env : En) : List Nat → En
  | [] => env
  | v :: vs => (wipeE env vs).set v none
/-- the result list stands at n -/
noncomputable def compGo (it : Iter) (n : Nat) (g : GM) (tt : TM) (te : EM) (env0 : En) : List D → Sto → Out Unit
  | [], S => open Classical in if it.ok S then .val () S else .bad
  | d :: ds, S => open Classical in if it.ok S then (match g d env0 S with
      | .nx env1 S1 => (match tt env1 S1 with
        | .val true S2 => (match te env1 S2 with
          | .val y S3 => (match S3[n]? with
            | some (.lst acc) => if acc.length < big then compGo it n g tt te env0 ds (S3.set n (.lst (acc ++ [y]))) else .bad
            | _ => .bad)
          | _ => .bad)
        | .val false S2 => compGo it n g tt te env0 ds S2
        | _ => .bad)
      | _ => .bad) else .bad
noncomputable def dLc (im : IM) (g : GM) (tt : TM) (te : EM) (vs : List Nat) : EM := fun env S => (im env S).bind fun it S1 =>
  match compGo it S1.length g tt te (wipeE env vs) it.items (S1 ++ [.lst []]) with
  | .val _ S2 => .val (.loc S1.length) S2
  | _ => .bad
def tYesD : TM := fun _ S => .val true S
abbrev W0 : WX := fun _ _ _ _ => False
/-- a comprehension's target: its own names alone, the store as it was -/
def CompTg (K : PySem.W.Frag) (vs : List Nat) (g : TG) (gd : GM) : Prop :=
  ∀ (x : V) (σ : L2.St) (H : Hp) (rs : List Addr) (env : En) (S : Sto) (d : D) (Q : L2.St → Hp → Prop), Stt K σ H rs env S → Rep K H rs d x →
    (match gd d env S with
      | .nx env' S' => S' = S → ∀ σ', wipe σ' vs = wipe σ vs → Stt K σ' H rs env' S → Q σ' H
      | _ => False) → g x σ H Q
section
variable {K : PySem.W.Frag} {σ : L2.St} {H : Hp} {rs : List Addr} {env : En} {S : Sto}
theorem Stt.wipe (st : Stt K σ H rs env S) : ∀ vs : List Nat, Stt K (L2.wipe σ vs) H rs (wipeE env vs) S
  | [] => st
  | v :: vs => (Stt.wipe st vs).unset
theorem wipe_set {j : Nat} {x : Option V} : ∀ {vs : List Nat}, j ∈ vs → ∀ σ : L2.St, L2.wipe (σ.set j x) vs = L2.wipe σ vs
  | [], h, σ => by cases h
  | v :: vs, h, σ => by
    show (L2.wipe (σ.set j x) vs).set v none = (L2.wipe σ vs).set v none
    by_cases hj : j ∈ vs
    · rw [wipe_set hj σ]
    · have e : j = v := by
        rcases List.mem_cons.mp h with e | e
        · exact e
        · exact absurd e hj
      subst e
      have : ∀ (vs : List Nat), j ∉ vs → L2.wipe (σ.set j x) vs = (L2.wipe σ vs).set j x := by
        intro vs
        induction vs with
        | nil => intro _; rfl
        | cons w ws ih =>
          intro hw
          have h1 : j ≠ w := fun e => hw (by rw [e]; exact List.mem_cons_self)
          have h2 : j ∉ ws := fun e => hw (List.mem_cons_of_mem _ e)
          show (L2.wipe (σ.set j x) ws).set w none = ((L2.wipe σ ws).set w none).set j x
          rw [ih h2, List.set_comm _ _ h1]
      rw [this vs hj, List.set_set]
theorem wipe_wipe : ∀ (vs : List Nat) (σ : L2.St), L2.wipe (L2.wipe σ vs) vs = L2.wipe σ vs := by
  have sub : ∀ (ws vs : List Nat) (σ : L2.St), (∀ v ∈ ws, v ∈ vs) → L2.wipe (L2.wipe σ ws) vs = L2.wipe σ vs := by
    intro ws
    induction ws with
    | nil => intro vs σ _; rfl
    | cons w ws ih =>
      intro vs σ h
      show L2.wipe ((L2.wipe σ ws).set w none) vs = _
      rw [wipe_set (h w List.mem_cons_self), ih vs σ fun v hv => h v (List.mem_cons_of_mem _ hv)]
  exact fun vs σ => sub vs vs σ fun v h => h
theorem ctg_name {j : Nat} {vs : List Nat} (hj : j ∈ vs) : CompTg K vs (gName j) (gN j) := by
  intro x σ H rs env S d Q st p h
  exact h rfl _ (wipe_set hj σ) (st.set p)
/-- a tuple of names -/
def gNames : List Nat → TGs
  | [] => L2.gNil
  | j :: js => gCons (gName j) (gNames js)
def gNsD : List Nat → GsM
  | [] => gNil_
  | j :: js => gCons_ (gN j) (gNsD js)
theorem gNames_ok {vs : List Nat} : ∀ {js : List Nat} (_ : ∀ j ∈ js, j ∈ vs) {xs : List V} {ds : List D} {σ : L2.St} {env : En} {Q : L2.St → Hp → Prop}, Stt K σ H rs env S → Reps K H rs ds xs →
    (match gNsD js ds env S with
      | .nx env' S' => S' = S → ∀ σ', L2.wipe σ' vs = L2.wipe σ vs → Stt K σ' H rs env' S → Q σ' H
      | _ => False) → gNames js xs σ H Q
  | [], _, xs, ds, σ, env, Q, st, p, h => by
    cases ds with
    | nil => exact ⟨by unfold Reps at p; exact p, h rfl σ rfl st⟩
    | cons _ _ => exact h.elim
  | j :: js, hj, xs, ds, σ, env, Q, st, p, h => by
    cases ds with
    | nil => exact h.elim
    | cons d ds =>
      unfold Reps at p
      obtain ⟨v, r, rfl, p1, p2⟩ := p
      refine ⟨v, r, rfl, ?_⟩
      refine gNames_ok (fun k hk => hj k (List.mem_cons_of_mem _ hk)) (st.set p1) p2 ?_
      have h : (match (match gNsD js ds (env.set j (some d)) S with
        | .nx env' S' => Fl.nx env' S'
        | o => o) with
      | .nx env' S' => S' = S → ∀ σ', L2.wipe σ' vs = L2.wipe σ vs → Stt K σ' H rs env' S → Q σ' H
      | _ => False) := by
        have h0 := h
        simp only [gNsD, gCons_, gN] at h0
        cases q : gNsD js ds (env.set j (some d)) S <;> rw [q] at h0 <;> exact h0
      cases q : gNsD js ds (env.set j (some d)) S with
      | nx env' S' =>
        rw [q] at h
        exact fun eS σ' hw st' => h eS σ' (hw.trans (wipe_set (hj j List.mem_cons_self) σ)) st'
      | _ => rw [q] at h; exact h
theorem ctg_names {js vs : List Nat} (hj : ∀ j ∈ js, j ∈ vs) : CompTg K vs (gTup K js.length (gNames js)) (gT (gNsD js) js.length) := by
  intro x σ H rs env S d Q st p h
  cases d with
  | tup ds =>
    simp only [gT] at h
    by_cases hl : ds.length = js.length
    · rw [if_pos hl] at h
      obtain ⟨a, ws, rfl, h1, h2⟩ := rep_tup.mp p
      exact ⟨a, ws, rfl, h1, h2.length.trans hl, gNames_ok hj st h2 h⟩
    · rw [if_neg hl] at h; exact h.elim
  | _ => exact h.elim
end
def SimTs (X : Cx) (ifs : List Expr) (m : TM) : Prop := PTs X ifs (rdT X.K W0 m)
theorem PTs.weaken {X : Cx} {e : List Expr} {t t' : TT} (h : PTs X e t) (w : ∀ σ H Q, t' σ H Q → t σ H Q) : PTs X e t' := ⟨fun pins s σ H Q I q => h.run pins s σ H Q I (w σ H Q q)⟩
theorem ts_nil {X : Cx} : SimTs X [] tYesD := PTs.weaken pts_nil fun σ H Q ⟨rs, env, S, st, h⟩ => h H rs (Ext.refl _ _) st.sto
theorem ts_one {X : Cx} {c : Expr} {m : TM} (h : SimT X W0 c m) : SimTs X [c] m := pts_one h
section
variable {K : PySem.W.Frag} {H : Hp} {rs : List Addr} {S : Sto} {it : Iter} {g : GM} {tt : TM} {te : EM} {env0 : En} {n : Nat}
def OkU (K : PySem.W.Frag) (H : Hp) (rs : List Addr) (o : Out Unit) (Q : Hp → Prop) : Prop := match o with
  | .val _ S' => ∀ H' rs', Ext H rs H' rs' → RelS K rs' H' S' → Q H'
  | _ => False
theorem OkU.from {H1 : Hp} {rs1 : List Addr} {o : Out Unit} {Q : Hp → Prop} (e : Ext H rs H1 rs1) (h : OkU K H rs o Q) : OkU K H1 rs1 o Q := by
  cases o with
  | val d S => exact fun H' rs' e' => h H' rs' (e.trans e')
  | exc x S => exact h
  | bad => exact h
theorem compGo_ok {ds : List D} {Q : Hp → Prop} (h : OkU K H rs (compGo it n g tt te env0 ds S) Q) : it.ok S := by
  cases ds with
  | nil =>
    unfold compGo at h
    split at h
    · assumption
    · exact h.elim
  | cons d ds =>
    unfold compGo at h
    split at h
    · assumption
    · exact h.elim
theorem comp_real {J : It} {σ : L2.St} {gt : TG} {vs : List Nat} {Dl : Addr} {H0 : Hp} {rs0 : List Addr} {Qd : Hp → Prop} (hg : CompTg K vs gt g) (real : Real K J it H0 rs0) (e0 : Ext H0 rs0 H rs) (hD : rs[n]? = some Dl) (st : Stt K (L2.wipe σ vs) H rs env0 S)
    (h : OkU K H rs (compGo it n g tt te env0 it.items S) Qd) :
    ∃ Wf : Nat → Nat → Hp → Prop, (∃ m, Wf 0 m H) ∧ ∀ i m H, Wf i m H →
      (J.stop i H ∧ Qd H) ∨ (J.go i H ∧ ∃ Nx : Hp → Prop, (∀ H', Nx H' → ∃ m', m' < m ∧ Wf (i + 1) m' H') ∧ ∀ x H', J.yld i H x H' → gt x (L2.wipe σ vs) H' fun σ2 H2 => L2.wipe σ2 vs = L2.wipe σ vs ∧ rdT K W0 tt σ2 H2 fun b H3 =>
        if b = true then rdE K W0 te σ2 H3 fun y H4 => ∃ acc, H4 Dl = some (.lst acc) ∧ acc.length < sizeLine ∧ Nx (upd H4 Dl (.lst (acc ++ [y]))) else Nx H3) := by
  refine ⟨fun i m H1 => m = it.items.length - i ∧ i ≤ it.items.length ∧ ∃ rs1 S1, Ext H rs H1 rs1 ∧ Stt K (L2.wipe σ vs) H1 rs1 env0 S1 ∧ OkU K H1 rs1 (compGo it n g tt te env0 (it.items.drop i) S1) Qd, ⟨it.items.length, by simp, Nat.zero_le _, rs, S, Ext.refl _ _, st, h⟩, ?_⟩
  rintro i m H1 ⟨rfl, hi, rs1, S1, e1, st1, h1⟩
  have ok := compGo_ok h1
  by_cases hlt : i < it.items.length
  · have ed : it.items.drop i = it.items[i] :: it.items.drop (i + 1) := List.drop_eq_getElem_cons hlt
    rw [ed] at h1
    unfold compGo at h1
    rw [if_pos ok] at h1
    refine .inr ⟨real.goes i H1 rs1 S1 hlt (e0.trans e1) st1.sto ok, fun H' => ∃ rs2 S2, Ext H rs H' rs2 ∧ Stt K (L2.wipe σ vs) H' rs2 env0 S2 ∧ OkU K H' rs2 (compGo it n g tt te env0 (it.items.drop (i + 1)) S2) Qd, fun H' nn => ⟨it.items.length - (i + 1), by omega, rfl, hlt, nn⟩, fun x H2 y => ?_⟩
    obtain ⟨e2, r2, p2⟩ := real.yields i H1 rs1 S1 x H2 _ (List.getElem?_eq_getElem hlt) (e0.trans e1) st1.sto ok y
    have h2 := OkU.from e2 h1
    refine hg x (L2.wipe σ vs) H2 rs1 env0 S1 it.items[i] _ (st1.to e2 r2) p2 ?_
    cases q : g it.items[i] env0 S1 with
    | nx env1 S1' =>
      rw [q] at h2
      simp only at h2
      have key : S1' = S1 → ∀ σ', L2.wipe σ' vs = L2.wipe (L2.wipe σ vs) vs → Stt K σ' H2 rs1 env1 S1 → (L2.wipe σ' vs = L2.wipe σ vs ∧ rdT K W0 tt σ' H2 fun b H3 =>
        if b = true then rdE K W0 te σ' H3 fun y H4 => ∃ acc, H4 Dl = some (.lst acc) ∧ acc.length < sizeLine ∧ (fun H' => ∃ rs2 S2, Ext H rs H' rs2 ∧ Stt K (L2.wipe σ vs) H' rs2 env0 S2 ∧ OkU K H' rs2 (compGo it n g tt te env0 (it.items.drop (i + 1)) S2) Qd) (upd H4 Dl (.lst (acc ++ [y]))) else (fun H' => ∃ rs2 S2, Ext H rs H' rs2 ∧ Stt K (L2.wipe σ vs) H' rs2 env0 S2 ∧ OkU K H' rs2 (compGo it n g tt te env0 (it.items.drop (i + 1)) S2) Qd) H3) := by
        intro eS σ' hw st'
        rw [eS] at h2
        refine ⟨hw.trans (wipe_wipe vs σ), rs1, env1, S1, st', ?_⟩
        cases q2 : tt env1 S1 with
        | bad => rw [q2] at h2; exact h2.elim
        | exc x S2 => rw [q2] at h2; exact h2.elim
        | val b S2 =>
          rw [q2] at h2
          intro H3 rs3 e3 r3
          have h3 := OkU.from e3 h2
          cases b with
          | false =>
            rw [if_neg Bool.false_ne_true]
            exact ⟨rs3, S2, (e1.trans e2).trans e3, (st1.to e2 r2).to e3 r3, h3⟩
          | true =>
            rw [if_pos rfl]
            refine ⟨rs3, env1, S2, st'.to e3 r3, ?_⟩
            simp only at h3
            cases q3 : te env1 S2 with
            | bad => rw [q3] at h3; exact h3.elim
            | exc x S3 => rw [q3] at h3; exact h3.elim
            | val yd S3 =>
              rw [q3] at h3
              intro y H4 rs4 e4 r4 p4
              have h4 := OkU.from e4 h3
              simp only at h4
              split at h4
              · rename_i acc ea
                split at h4
                · rename_i hz
                  obtain ⟨a, ws, ha, hb, pb⟩ := r4.mlst ea
                  have hDl : rs4[n]? = some Dl := pre_get e4.pre (pre_get e3.pre (pre_get e2.pre (pre_get e1.pre hD)))
                  rw [hDl] at ha
                  cases ha
                  have mu : Mut (H4 Dl) := by rw [hb]; exact True.intro
                  have r5 : RelS K rs4 (upd H4 Dl (.lst (ws ++ [y]))) (S3.set n (.lst (acc ++ [yd]))) := r4.set hDl mu ⟨_, upd_same, (Reps.mono (Ext.mut mu) _ _ pb).append (Reps.one (Rep.mono (Ext.mut mu) _ _ p4))⟩
                  have e5 : Ext H4 rs4 (upd H4 Dl (.lst (ws ++ [y]))) rs4 := Ext.mut mu
                  exact ⟨ws, hb, by rw [pb.length]; exact big_lt hz, rs4, _, (((e1.trans e2).trans e3).trans e4).trans e5, ((((st1.to e2 r2).to e3 r3).to e4 r4).to e5 r5), OkU.from e5 h4⟩
                · exact h4.elim
              · exact h4.elim
      exact key
    | exc x e s => rw [q] at h2; exact h2.elim
    | rt d S' => rw [q] at h2; exact h2.elim
    | bk env' S' => rw [q] at h2; exact h2.elim
    | ct env' S' => rw [q] at h2; exact h2.elim
    | bad => rw [q] at h2; exact h2.elim
  · have e : i = it.items.length := by omega
    subst e
    have ed : it.items.drop it.items.length = [] := List.drop_length
    rw [ed] at h1
    unfold compGo at h1
    rw [if_pos ok] at h1
    exact .inl ⟨real.stops H1 rs1 S1 (e0.trans e1) st1.sto ok, h1 H1 rs1 (Ext.refl _ _) st1.sto⟩
end
end Sh

set_option Elab.async false
set_option linter.all false
set_option maxRecDepth 100000
set_option maxHeartbeats 4000000
set_option autoImplicit false
namespace Sh
open PySem PySem.Spec PyProof.Rows L2

/-! ### comprehensions as expressions -/
section
variable {X : Cx} {W : WX} {elt tg iter : Expr} {ifs : List Expr} {scope : Scope} {own : List (Str × Nat)} {pos : Pos} {im : IM} {gd : GM} {gt : TG} {tt : TM} {te : EM}
theorem Good.blk (G : Good X W) (s : Shared) (H : Hp) (C : Addr) (cl : List (Str × Addr)) (fp : List Addr) : Good (X.blk s H scope (compEnvC scope cl C X.env) fp) W0 := ⟨G.calm, G.nd, PassesOwn.never, takes0⟩
theorem rd_lc {K : PySem.W.Frag} {vs : List Nat} (hct : CompTg K vs gt gd) : ∀ σ H Q, rdE K W (dLc im gd tt te vs) σ H Q → tLc (rdI K W im) gt (rdT K W0 tt) (rdE K W0 te) vs σ H Q := by
  rintro σ H Q ⟨rs, env, S, st, h⟩
  refine ⟨rs, env, S, st, ?_⟩
  unfold dLc at h
  cases q : im env S with
  | bad => rw [q] at h; exact h
  | exc x S1 => rw [q] at h; exact h
  | val it S1 =>
    rw [q] at h
    intro J H1 rs1 e1 r1 real D hD
    have hDn : (rs1 ++ [D])[S1.length]? = some D := by rw [← r1.len, List.getElem?_append_right (Nat.le_refl _)]; simp
    have e2 : Ext H1 rs1 (upd H1 D (.lst [])) (rs1 ++ [D]) := Ext.push hD
    have r2 : RelS K (rs1 ++ [D]) (upd H1 D (.lst [])) (S1 ++ [.lst []]) := r1.push hD ⟨[], upd_same, Reps.nil⟩
    refine comp_real (n := S1.length) (S := S1 ++ [.lst []]) (rs := rs1 ++ [D]) (it := it) hct real e2 hDn (((st.to e1 r1).to e2 r2).wipe vs) (Qd := fun H' => Q (.ref D) H') (g := gd) (tt := tt) (te := te) ?_
    simp only [Out.bind] at h
    cases q2 : compGo it S1.length gd tt te (wipeE env vs) it.items (S1 ++ [.lst []]) with
    | bad => rw [q2] at h; exact h.elim
    | exc x S2 => rw [q2] at h; exact h.elim
    | val u S2 =>
      rw [q2] at h
      exact fun H' rs' e' r' => h (.ref D) H' rs' ((e1.trans e2).trans e') r' (rep_loc.mpr ⟨D, rfl, pre_get e'.pre hDn⟩)
theorem e_lc (G : Good X W) (hi : SimI X W tg iter im) (ok : BlkOk X.N X.env.scope scope own) (hct : CompTg X.K (own.map (·.2)) gt gd)
    (hg : ∀ (s : Shared) (H : Hp) (C : Addr) (cl : List (Str × Addr)) (fp : List Addr), PG (X.blk s H scope (compEnvC scope cl C X.env) fp) tg gt)
    (ht : ∀ (s : Shared) (H : Hp) (C : Addr) (cl : List (Str × Addr)) (fp : List Addr), SimTs (X.blk s H scope (compEnvC scope cl C X.env) fp) ifs tt)
    (he : ∀ (s : Shared) (H : Hp) (C : Addr) (cl : List (Str × Addr)) (fp : List Addr), SimE (X.blk s H scope (compEnvC scope cl C X.env) fp) W0 elt te) (hs : ∀ x, foldedSetIterable iter X.env x = pure x := by intro _; rfl) :
    SimE X W (.ListComp elt [⟨tg, iter, ifs, 0⟩] scope pos) (dLc im gd tt te (own.map (·.2))) := PE.weaken (pe_lc (tt := rdT X.K W0 tt) (te := rdE X.K W0 te) G.calm G.nd hi ok hg ht he hs) (rd_lc hct)
theorem s_setLc {y : Str} {py spos : Pos} (i : Nat) (G : Good X W) (hi : SimI X W tg iter im) (ok : BlkOk X.N X.env.scope scope own) (hct : CompTg X.K (own.map (·.2)) gt gd)
    (hg : ∀ (s : Shared) (H : Hp) (C : Addr) (cl : List (Str × Addr)) (fp : List Addr), PG (X.blk s H scope (compEnvC scope cl C X.env) fp) tg gt)
    (ht : ∀ (s : Shared) (H : Hp) (C : Addr) (cl : List (Str × Addr)) (fp : List Addr), SimTs (X.blk s H scope (compEnvC scope cl C X.env) fp) ifs tt)
    (he : ∀ (s : Shared) (H : Hp) (C : Addr) (cl : List (Str × Addr)) (fp : List Addr), SimE (X.blk s H scope (compEnvC scope cl C X.env) fp) W0 elt te)
    (hy : X.N[i]? = some y := by rfl) (hyl : X.env.scope.names.lookup y = some .local := by rfl)
    (hsw : swapsWith (.ListComp elt [⟨tg, iter, ifs, 0⟩] scope pos) (some (.Name y py)) spos.line X.env = pure true := by exact sw_true rfl rfl rfl (by decide +kernel)) (hs : ∀ x, foldedSetIterable iter X.env x = pure x := by intro _; rfl) :
    SimS X W (.Assign [.Name y py] (.ListComp elt [⟨tg, iter, ifs, 0⟩] scope pos) spos) (dAsg (dLc im gd tt te (own.map (·.2))) (gN i)) := by
  refine PS.weaken (ps_setLc (tt := rdT X.K W0 tt) (te := rdE X.K W0 te) G.calm G.nd hy hyl hsw hi ok hg ht he hs) fun D σ H ⟨rs, env, S, st, h⟩ => ?_
  refine rd_lc hct σ H (fun x H1 => gName i x σ H1 D.nx) ⟨rs, env, S, st, bindES st h fun d S1 v H1 rs1 e1 r1 p1 h1 => ?_⟩
  exact h1 _ H1 rs1 (Ext.refl _ _) ((st.to e1 r1).set p1)
end

/-! ### for k in d: the dict is locked meanwhile -/
noncomputable def unlock (n : Nat) (kvs : List (Key × D)) (o : Fl) : Fl :=
  let un (S : Sto) (f : Sto → Fl) : Fl := open Classical in if S[n]? = some (.rod kvs) then f (S.set n (.dct kvs)) else .bad
  match o with
  | .nx e S => un S (.nx e)
  | .rt d S => un S (.rt d)
  | .bk e S => un S (.bk e)
  | .ct e S => un S (.ct e)
  | .exc x e S => .exc x e S
  | .bad => .bad
noncomputable def dForD (i : Nat) (g : GM) (body : SM) : SM := fun env S => match env[i]? with
  | some (some (.loc n)) => (match S[n]? with
    | some (.dct kvs) => unlock n kvs (forGo ⟨kvs.map fun kv => keyD kv.1, none⟩ g body (kvs.map fun kv => keyD kv.1) env (S.set n (.rod kvs)))
    | _ => .bad)
  | _ => .bad
section
variable {X : Cx} {W : WX} {tg : Expr} {body : List Stmt} {pos px : Pos} {g : GM} {ms : SM}
theorem s_forD {x : Str} (i : Nat) (G : Good X W) (hg : SimG X W tg g) (hb : SimSs X W body ms) (hN : X.N[i]? = some x := by rfl) (hv : Vis X.env.scope x := by first | exact Or.inl rfl | exact Or.inr (Or.inl rfl) | exact Or.inr (Or.inr rfl)) (hd : (x == ("__debug__" : Str)) = false := by decide)
    (hcd : (x == ("__classdict__" : Str)) = false := by decide) (hs : ∀ v, foldedSetIterable (.Name x px) X.env v = pure v := by intro _; rfl) : SimS X W (.For tg (.Name x px) body [] pos) (dForD i g ms) := by
  refine PS.weaken (ps_lock (ps_for G.pass G.calm (pi_keys (pe_var hN hv hd hcd)) hg hb hs)) fun D σ H ⟨rs, env, S, st, h⟩ => ?_
  unfold dForD at h
  split at h
  · rename_i n en
    split at h
    · rename_i kvs es
      obtain ⟨v, hv1, hv2⟩ := st.env i _ en
      obtain ⟨a, rfl, ha⟩ := rep_loc.mp hv2
      obtain ⟨a', ha', kw, h2, h3⟩ := st.sto.get es
      rw [ha] at ha'; cases ha'
      have mu : Mut (H a) := by rw [h2]; exact True.intro
      refine ⟨a, .dK kw, h2, True.intro, fun od => ?_⟩
      have e1 : Ext H rs (upd H a (.frz od (.dK kw))) rs := Ext.mut mu
      have r1 : RelS X.K rs (upd H a (.frz od (.dK kw))) (S.set n (.rod kvs)) := st.sto.set ha mu ⟨od, kw, upd_same, h3.mono e1⟩
      refine ⟨.ref a, hv1, a, od, rfl, .inl ⟨kw, upd_same, ?_⟩⟩
      refine for_real (real_keys (n := 0) upd_same (h3.mono e1)) (st.to e1 r1) ?_
      -- the ends
      have fin : ∀ (H' : Hp) (rs' : List Addr) (S' : Sto), Ext (upd H a (.frz od (.dK kw))) rs H' rs' → RelS X.K rs' H' S' → S'[n]? = some (.rod kvs) →
          H' a = some (.frz od (.dK kw)) ∧ Ext H rs (upd H' a (.dK kw)) rs' ∧ RelS X.K rs' (upd H' a (.dK kw)) (S'.set n (.dct kvs)) ∧ (∀ d w, Rep X.K H' rs' d w → Rep X.K (upd H' a (.dK kw)) rs' d w) := by
        intro H' rs' S' e' r' hS'
        have hf : H' a = some (.frz od (.dK kw)) := e'.tz.frz _ _ _ upd_same
        have hq : ∀ b xs, SqT X.K H' b xs → SqT X.K (upd H' a (.dK kw)) b xs := fun b xs z => by
          rcases z with (z | ⟨o, z⟩) | z
          · have : b ≠ a := fun q => by subst q; rw [hf] at z; cases z
            exact .inl (.inl (by rw [upd_ne this]; exact z))
          · have : b ≠ a := fun q => by subst q; rw [hf] at z; cases z
            exact .inl (.inr ⟨o, by rw [upd_ne this]; exact z⟩)
          · exact .inr z
        have ha2 : rs'[n]? = some a := pre_get e'.pre ha
        obtain ⟨b, hb2, o, kw', h4, h5⟩ := r'.get hS'
        rw [ha2] at hb2; cases hb2
        rw [hf] at h4; cases h4
        refine ⟨hf, ⟨⟨fun b xs z => ?_, fun b o xs z => ?_⟩, e'.pre⟩, r'.setG ha2 hq ⟨kw, upd_same, h5.monoG hq (List.prefix_refl _)⟩, fun d w z => Rep.monoG hq (List.prefix_refl _) d w z⟩
        · have hba : b ≠ a := fun q => by subst q; rw [h2] at z; cases z
          rw [upd_ne hba]
          exact e'.tz.tup b xs (by rw [upd_ne hba]; exact z)
        · have hba : b ≠ a := fun q => by subst q; rw [h2] at z; cases z
          rw [upd_ne hba]
          exact e'.tz.frz b o xs (by rw [upd_ne hba]; exact z)
      have stt : ∀ {σ' : L2.St} {H' : Hp} {rs' : List Addr} {env' : En} {S' : Sto}, Stt X.K σ' H' rs' env' S' → ∀ {H2 : Hp} {S2 : Sto}, RelS X.K rs' H2 S2 → (∀ d w, Rep X.K H' rs' d w → Rep X.K H2 rs' d w) → Stt X.K σ' H2 rs' env' S2 := fun {σ' H' rs' env' S'} s {H2 S2} r m => ⟨s.len, fun i d e => let ⟨v, h1, h2⟩ := s.env i d e; ⟨v, h1, m d v h2⟩, r⟩
      have h := h
      unfold unlock at h
      cases q : forGo ⟨kvs.map fun kv => keyD kv.1, none⟩ g ms (kvs.map fun kv => keyD kv.1) env (S.set n (.rod kvs)) with
      | nx e S' =>
        rw [q] at h
        simp only at h
        split at h
        · rename_i hS'
          intro σ' H' rs' e' st'
          obtain ⟨f1, f2, f3, f4⟩ := fin H' rs' S' e' st'.sto hS'
          exact ⟨f1, h σ' _ rs' f2 (stt st' f3 f4)⟩
        · exact h.elim
      | bk e S' =>
        rw [q] at h
        simp only at h
        split at h
        · rename_i hS'
          intro σ' H' rs' e' st'
          obtain ⟨f1, f2, f3, f4⟩ := fin H' rs' S' e' st'.sto hS'
          exact ⟨f1, h σ' _ rs' f2 (stt st' f3 f4)⟩
        · exact h.elim
      | ct e S' =>
        rw [q] at h
        simp only at h
        split at h
        · rename_i hS'
          intro σ' H' rs' e' st'
          obtain ⟨f1, f2, f3, f4⟩ := fin H' rs' S' e' st'.sto hS'
          exact ⟨f1, h σ' _ rs' f2 (stt st' f3 f4)⟩
        · exact h.elim
      | rt d S' =>
        rw [q] at h
        simp only at h
        split at h
        · rename_i hS'
          intro v H' rs' e' r' p'
          obtain ⟨f1, f2, f3, f4⟩ := fin H' rs' S' e' r' hS'
          exact ⟨f1, h v _ rs' f2 f3 (f4 _ _ p')⟩
        · exact h.elim
      | exc x e S' =>
        rw [q] at h
        exact fun c d σ' H' rs' e' => h c d σ' H' rs' (e1.trans e')
      | bad => rw [q] at h; exact h.elim
    · exact h.elim
  · exact h.elim
end

/-! ### a def: what it computes, what it leaves behind dropped -/
mutual
def D.lo (n : Nat) : D → Prop
  | .loc m => m < n
  | .tup ds => loAll n ds
  | _ => True
def loAll (n : Nat) : List D → Prop
  | [] => True
  | d :: ds => D.lo n d ∧ loAll n ds
end
def loK {κ : Type} (n : Nat) : List (κ × D) → Prop
  | [] => True
  | p :: ps => p.2.lo n ∧ loK n ps
def Ob.lo (n : Nat) : Ob → Prop
  | .lst xs => loAll n xs
  | .ro xs => loAll n xs
  | .dct kvs => loK n kvs
  | .dctT kvs => loK n kvs
  | .ins _ fs => loK n fs
  | .rod kvs => loK n kvs
/-- no object below n was given what is made later -/
def Tidy (n : Nat) (S0 S1 : Sto) : Prop := ∀ i, i < n → S1[i]? = S0[i]? ∨ ∀ o, S1[i]? = some o → o.lo n
open Classical in
noncomputable def gc (S0 : Sto) (d : D) (S1 : Sto) : D × Sto :=
  if Tidy S0.length S0 S1 then (if d.lo S0.length then (d, S1.take S0.length) else match d with
    | .loc l => (match S1[l]? with
      | some o => if o.lo S0.length then (.loc S0.length, S1.take S0.length ++ [o]) else (d, S1)
      | none => (d, S1))
    | _ => (d, S1)) else (d, S1)
section
variable {K : PySem.W.Frag} {H H1 : Hp} {rs rs1 : List Addr} {S S1 : Sto}
mutual
theorem Rep.lo : ∀ (d : D) (v : V), Rep K H rs d v → d.lo rs.length
  | .non, v, h => by unfold D.lo; exact True.intro
  | .bl b, v, h => by unfold D.lo; exact True.intro
  | .int i, v, h => by unfold D.lo; exact True.intro
  | .str x, v, h => by unfold D.lo; exact True.intro
  | .ty n, v, h => by unfold D.lo; exact True.intro
  | .adr a, v, h => by unfold D.lo; exact True.intro
  | .loc n, v, h => by
    unfold Rep at h
    unfold D.lo
    obtain ⟨a, h1, h2⟩ := h
    exact (List.getElem?_eq_some_iff.mp h2).1
  | .tup ds, v, h => by
    unfold Rep at h
    unfold D.lo
    obtain ⟨a, vs, h1, h2, h3⟩ := h
    exact Reps.lo ds vs h3
theorem Reps.lo : ∀ (ds : List D) (vs : List V), Reps K H rs ds vs → loAll rs.length ds
  | [], vs, h => by unfold loAll; exact True.intro
  | d :: ds, vs, h => by
    unfold Reps at h
    unfold loAll
    obtain ⟨v, r, h1, h2, h3⟩ := h
    exact ⟨Rep.lo d v h2, Reps.lo ds r h3⟩
end
theorem RepF.lo : ∀ {fs : List (Str × D)} {fv : List (Str × V)}, RepF K H rs fs fv → loK rs.length fs
  | [], _, _ => True.intro
  | p :: ps, fv, ⟨q, r, h1, h2, h3, h4⟩ => ⟨Rep.lo _ _ h3, RepF.lo h4⟩
theorem RepK.lo {κ : Type} : ∀ {fs : List (κ × D)} {fv : List (κ × V)}, RepK K H rs fs fv → loK rs.length fs
  | [], _, _ => True.intro
  | p :: ps, fv, ⟨q, r, h1, h2, h3, h4⟩ => ⟨Rep.lo _ _ h3, RepK.lo h4⟩
theorem RepO.lo {o : Ob} {a : Addr} (h : RepO K H rs o a) : o.lo rs.length := by
  cases o with
  | lst ds => obtain ⟨vs, h1, h2⟩ := h; exact Reps.lo _ _ h2
  | ro ds => obtain ⟨o, vs, h1, h2⟩ := h; exact Reps.lo _ _ h2
  | dct kvs => obtain ⟨vs, h1, h2⟩ := h; exact RepK.lo h2
  | dctT kvs => obtain ⟨vs, h1, h2⟩ := h; exact RepK.lo h2
  | ins C fs => obtain ⟨dx, vs, h1, h2⟩ := h; exact RepF.lo h2
  | rod kvs => obtain ⟨o, vs, h1, h2⟩ := h; exact RepK.lo h2
theorem get_pre {α : Type} {l l' : List α} (p : l <+: l') {n : Nat} {a : α} (hn : n < l.length) (h : l'[n]? = some a) : l[n]? = some a := by
  obtain ⟨t, rfl⟩ := p
  rw [List.getElem?_append_left hn] at h; exact h
mutual
theorem Rep.back (p : rs <+: rs1) : ∀ (d : D) (v : V), d.lo rs.length → Rep K H rs1 d v → Rep K H rs d v
  | .non, v, _, h => by unfold Rep at h ⊢; exact h
  | .bl b, v, _, h => by unfold Rep at h ⊢; exact h
  | .int i, v, _, h => by unfold Rep at h ⊢; exact h
  | .str x, v, _, h => by unfold Rep at h ⊢; exact h
  | .ty n, v, _, h => by unfold Rep at h ⊢; exact h
  | .adr a, v, _, h => by unfold Rep at h ⊢; exact h
  | .loc n, v, b, h => by
    unfold Rep at h ⊢
    unfold D.lo at b
    obtain ⟨a, h1, h2⟩ := h
    exact ⟨a, h1, get_pre p b h2⟩
  | .tup ds, v, b, h => by
    unfold Rep at h ⊢
    unfold D.lo at b
    obtain ⟨a, vs, h1, h2, h3⟩ := h
    exact ⟨a, vs, h1, h2, Reps.back p ds vs b h3⟩
theorem Reps.back (p : rs <+: rs1) : ∀ (ds : List D) (vs : List V), loAll rs.length ds → Reps K H rs1 ds vs → Reps K H rs ds vs
  | [], vs, _, h => by unfold Reps at h ⊢; exact h
  | d :: ds, vs, b, h => by
    unfold Reps at h ⊢
    unfold loAll at b
    obtain ⟨v, r, h1, h2, h3⟩ := h
    exact ⟨v, r, h1, Rep.back p d v b.1 h2, Reps.back p ds r b.2 h3⟩
end
theorem RepF.back (p : rs <+: rs1) : ∀ {fs : List (Str × D)} {fv : List (Str × V)}, loK rs.length fs → RepF K H rs1 fs fv → RepF K H rs fs fv
  | [], _, _, h => h
  | _ :: _, fv, b, ⟨q, r, h1, h2, h3, h4⟩ => ⟨q, r, h1, h2, Rep.back p _ _ b.1 h3, RepF.back p b.2 h4⟩
theorem RepK.back {κ : Type} (p : rs <+: rs1) : ∀ {fs : List (κ × D)} {fv : List (κ × V)}, loK rs.length fs → RepK K H rs1 fs fv → RepK K H rs fs fv
  | [], _, _, h => h
  | _ :: _, fv, b, ⟨q, r, h1, h2, h3, h4⟩ => ⟨q, r, h1, h2, Rep.back p _ _ b.1 h3, RepK.back p b.2 h4⟩
theorem RepO.back (p : rs <+: rs1) {o : Ob} {a : Addr} (b : o.lo rs.length) (h : RepO K H rs1 o a) : RepO K H rs o a := by
  cases o with
  | lst ds => obtain ⟨vs, h1, h2⟩ := h; exact ⟨vs, h1, Reps.back p _ _ b h2⟩
  | ro ds => obtain ⟨o, vs, h1, h2⟩ := h; exact ⟨o, vs, h1, Reps.back p _ _ b h2⟩
  | dct kvs => obtain ⟨vs, h1, h2⟩ := h; exact ⟨vs, h1, h2.back p b⟩
  | dctT kvs => obtain ⟨vs, h1, h2⟩ := h; exact ⟨vs, h1, h2.back p b⟩
  | ins C fs => obtain ⟨dx, vs, h1, h2⟩ := h; exact ⟨dx, vs, h1, h2.back p b⟩
  | rod kvs => obtain ⟨o, vs, h1, h2⟩ := h; exact ⟨o, vs, h1, h2.back p b⟩
/-- what was made meanwhile is forgotten -/
theorem RelS.cut (r : RelS K rs H S) (p : rs <+: rs1) (r1 : RelS K rs1 H1 S1) (t : Tidy S.length S S1) : RelS K rs H1 (S1.take S.length) := by
  have hl : rs.length ≤ rs1.length := p.length_le
  refine ⟨r.nd, ?_, fun n o a hS ha => ?_⟩
  · rw [List.length_take, ← r1.len, ← r.len]; omega
  · have hn : n < S.length := by
      have := (List.getElem?_eq_some_iff.mp ha).1
      rw [r.len] at this; exact this
    rw [List.getElem?_take_of_lt hn] at hS
    have h1 := r1.ob n o a hS (pre_get p ha)
    refine RepO.back p ?_ h1
    rcases t n hn with e | e
    · rw [hS] at e
      exact (r.ob n o a e.symm ha).lo
    · rw [r.len]; exact e o hS
theorem gc_ok {d : D} {v : V} {Q : VK} (r : RelS K rs H S) (e : Ext H rs H1 rs1) (r1 : RelS K rs1 H1 S1) (p : Rep K H1 rs1 d v)
    (q : ∀ rs2, Ext H rs H1 rs2 → RelS K rs2 H1 (gc S d S1).2 → Rep K H1 rs2 (gc S d S1).1 v → Q v H1) : Q v H1 := by
  by_cases t : Tidy S.length S S1
  · by_cases b : d.lo S.length
    · have eg : gc S d S1 = (d, S1.take S.length) := by unfold gc; rw [if_pos t, if_pos b]
      rw [eg] at q
      exact q rs ⟨e.tz, List.prefix_refl _⟩ (r.cut e.pre r1 t) (Rep.back e.pre _ _ (by rw [r.len]; exact b) p)
    · cases d with
      | loc l =>
        cases ho : S1[l]? with
        | none =>
          have eg : gc S (.loc l) S1 = (.loc l, S1) := by unfold gc; rw [if_pos t, if_neg b]; simp only [ho]
          rw [eg] at q
          exact q rs1 e r1 p
        | some o =>
          by_cases bo : o.lo S.length
          · have eg : gc S (.loc l) S1 = (.loc S.length, S1.take S.length ++ [o]) := by unfold gc; rw [if_pos t, if_neg b]; simp only [ho]; rw [if_pos bo]
            rw [eg] at q
            obtain ⟨a, rfl, ha⟩ := rep_loc.mp p
            have hout : a ∉ rs := fun hm => by
              obtain ⟨n, hn, en⟩ := List.getElem_of_mem hm
              have h1 : rs1[n]? = some a := pre_get e.pre (by rw [List.getElem?_eq_getElem hn, en])
              have : n = l := nd_ix r1.nd h1 ha
              subst this
              exact b (by unfold D.lo; rw [← r.len]; exact hn)
            have hc := r.cut e.pre r1 t
            have ho1 := r1.ob l o a ho ha
            have nd2 : (rs ++ [a]).Nodup := by
              rw [List.nodup_append]
              exact ⟨r.nd, by simp, fun x hx y hy exy => by simp at hy; subst hy; subst exy; exact hout hx⟩
            have hob : RepO K H1 rs o a := RepO.back e.pre (by rw [r.len]; exact bo) ho1
            have pre2 : rs <+: rs ++ [a] := List.prefix_append _ _
            refine q (rs ++ [a]) ⟨e.tz, pre2⟩ ⟨nd2, by rw [List.length_append, List.length_append, hc.len]; rfl, fun n o' a' hS ha' => ?_⟩ (rep_loc.mpr ⟨a, rfl, by rw [← r.len, List.getElem?_append_right (Nat.le_refl _)]; simp⟩)
            by_cases hn : n < rs.length
            · rw [List.getElem?_append_left hn] at ha'
              rw [List.getElem?_append_left (by rw [← hc.len]; exact hn)] at hS
              exact (hc.ob n o' a' hS ha').monoG (fun _ _ z => z) pre2 fun _ z => z
            · have hl := (List.getElem?_eq_some_iff.mp ha').1
              have en : n = rs.length := by simp at hl; omega
              subst en
              rw [List.getElem?_append_right (Nat.le_refl _)] at ha'
              rw [hc.len, List.getElem?_append_right (Nat.le_refl _)] at hS
              simp at ha' hS
              subst ha' hS
              exact hob.monoG (fun _ _ z => z) pre2 fun _ z => z
          · have eg : gc S (.loc l) S1 = (.loc l, S1) := by unfold gc; rw [if_pos t, if_neg b]; simp only [ho]; rw [if_neg bo]
            rw [eg] at q
            exact q rs1 e r1 p
      | tup ds =>
        have eg : gc S (.tup ds) S1 = (.tup ds, S1) := by unfold gc; rw [if_pos t, if_neg b]
        rw [eg] at q
        exact q rs1 e r1 p
      | _ => exact absurd (by unfold D.lo; exact True.intro) b
  · have eg : gc S d S1 = (d, S1) := by unfold gc; rw [if_neg t]
    rw [eg] at q
    exact q rs1 e r1 p
end
end Sh

set_option Elab.async false
set_option linter.all false
set_option maxRecDepth 100000
set_option maxHeartbeats 4000000
set_option autoImplicit false
namespace Sh
open PySem PySem.Spec PyProof.Rows L2

/-! ### defs -/
noncomputable def ends (S : Sto) (o : Fl) : Out D := match o with
  | .nx _ S' => .val (gc S .non S').1 (gc S .non S').2
  | .rt d S' => .val (gc S d S').1 (gc S d S').2
  | .exc x _ S' => .exc x S'
  | _ => .bad
noncomputable def dFn (N n : Nat) (body : SM) : List D → Sto → Out D := fun args S =>
  if args.length = n then ends S (body (args.map some ++ List.replicate (N - n) none) S) else .bad
def spOf (K : PySem.W.Frag) (n : Nat) (g : List D → Sto → Out D) : Sp := fun vs H Q E => vs.length = n ∧ ∃ rs S ds, RelS K rs H S ∧ Reps K H rs ds vs ∧ OkE K (fun c a _ H' => E c a H') [] H rs (g ds S) Q
theorem Reps.begins {K : PySem.W.Frag} {H : Hp} {rs : List Addr} {S : Sto} {ds : List D} {vs : List V} (r : RelS K rs H S) (p : Reps K H rs ds vs) (N : List Str) (n : Nat) (hn : vs.length = n) : Stt K (L2.start N vs) H rs (ds.map some ++ List.replicate (N.length - n) none) S := by
  have hl := p.length
  refine ⟨by unfold L2.start; subst hn; simp [hl], fun i d h => ?_, r⟩
  by_cases hi : i < ds.length
  · rw [List.getElem?_append_left (by simpa using hi), List.getElem?_map] at h
    cases q : ds[i]? with
    | none => rw [q] at h; cases h
    | some d' =>
      rw [q] at h
      cases h
      obtain ⟨v, h1, h2⟩ := p.get q
      refine ⟨v, ?_, h2⟩
      unfold L2.start
      rw [List.getElem?_append_left (by rw [List.length_map, hl]; exact hi), List.getElem?_map, h1]
      rfl
  · rw [List.getElem?_append_right (by simpa using hi)] at h
    rw [List.getElem?_replicate] at h
    split at h <;> cases h
section
variable {P : Program} {w : World} {K : PySem.W.Frag} {mg : Str → Option Value} {base : Heap} {x qual : Str} {params : Arguments} {body : List Stmt} {scope : Scope} {dvs : List V} {kws : List (Str × V)} {f : Addr} {fd : FuncData} {N ps : List Str} {k : Nat} {m : SM}
theorem fn_sim (F : FunD K x qual params body scope dvs kws f fd) (S : FnScope N ps scope)
    (h : ∀ (cdv : Value) (A : Around) (outer : List PySem.Env) (s : Shared) (H : Hp) (E : XK), Room k (A.deeper (envOfC qual scope s.heap.objs.size f cdv)) →
      Good (cxOf (L2.CX P w) P w K mg base N qual scope f cdv A outer s H E) (fun c a _ H => E c a H) → SimSs (cxOf (L2.CX P w) P w K mg base N qual scope f cdv A outer s H E) (fun c a _ H => E c a H) body m) :
    FnOk P w K mg base (L2.CX P w) (k + 1) f fd ps (spOf K ps.length (dFn N.length ps.length m)) := by
  refine F.ok S (fun vs H Q E h => h.1) fun cdv A outer s H vs Q E hr hsp => ?_
  obtain ⟨hl, rs, S0, ds, r, p, ok⟩ := hsp
  refine ⟨_, h cdv A outer s H E hr ⟨rfl, S.nd, passes_of rfl, takes_of rfl rfl rfl rfl⟩, rs, _, S0, Reps.begins r p N ps.length hl, ?_⟩
  unfold dFn at ok
  rw [if_pos (p.length.symm.trans hl)] at ok
  unfold ends at ok
  cases q : m (ds.map some ++ List.replicate (N.length - ps.length) none) S0 with
  | nx env' S' =>
    rw [q] at ok
    intro σ' H' rs' e st'
    exact gc_ok (d := .non) (v := .non) (Q := fun v H' => Q .non H') r e st'.sto (rep_non.mpr rfl) fun rs2 e2 r2 p2 => ok _ H' rs2 e2 r2 (by
      have e3 : (gc S0 .non S').1 = .non := by
        unfold gc
        by_cases t : Tidy S0.length S0 S'
        · rw [if_pos t, if_pos (by unfold D.lo; exact True.intro)]
        · rw [if_neg t]
      rw [e3]
      exact rep_non.mpr rfl)
  | rt d S' =>
    rw [q] at ok
    intro v H' rs' e r' p'
    exact gc_ok r e r' p' fun rs2 e2 r2 p2 => ok v H' rs2 e2 r2 p2
  | bk env' S' => rw [q] at ok; exact ok.elim
  | ct env' S' => rw [q] at ok; exact ok.elim
  | exc y env' S' =>
    rw [q] at ok
    exact fun c a σ' H' rs' e st' px => ok c a H' rs' e st'.sto px
  | bad => rw [q] at ok; exact ok.elim
end
/-! ### calls -/
def dApp (g : List D → Sto → Out D) (m : AM) : EM := fun env S => (m env S).bind g
section
variable {X : Cx} {W : WX} {e : Expr} {es : List Expr} {p pos : Pos} {m : AM} {k n : Nat} {f : Addr} {fd : FuncData} {ps : List Str} {g : List D → Sto → Out D} {x : Str}
theorem spOf_ok {K : PySem.W.Frag} {σ : L2.St} {H : Hp} {rs : List Addr} {S : Sto} {ds : List D} {vs : List V} {Q : VK} (hn : ds.length = n) (r : RelS K rs H S) (p : Reps K H rs ds vs) (h : OkE K W σ H rs (g ds S) Q) : spOf K n g vs H Q (WE W σ) := by
  refine ⟨p.length.trans hn, rs, S, ds, r, p, ?_⟩
  cases q : g ds S with
  | val d S' => rw [q] at h; exact h
  | exc x S' => rw [q] at h; exact h
  | bad => rw [q] at h; exact h
/-- g speaks of n arguments alone -/
def Ar (n : Nat) (g : List D → Sto → Out D) : Prop := ∀ ds S, ds.length ≠ n → g ds S = .bad
theorem ar_fn {N n : Nat} {body : SM} : Ar n (dFn N n body) := fun ds S h => by unfold dFn; rw [if_neg h]
theorem e_call (G : Good X W) (F : FnOk X.prog X.w X.K X.mg X.base (L2.CX X.prog X.w) k f fd ps (spOf X.K n g)) (ar : Ar n g) (hr : Room k X.A) (hm : X.mg x = some (.ref f)) (hk : PySem.W.keepIn X.K (.ref f) = true) (hb : Binds X.K fd ps [])
    (ha : SimA X W (e :: es) m) (hg : Gl X x := by rfl) (hdb : (x == ("__debug__" : Str)) = false := by decide) (he : starEach (e :: es) X.env = (false, eval e X.env) :: starEach es X.env := by rfl) (hpl : (backTo pos (starEach es X.env)).any (·.1) = false := by rfl) :
    SimE X W (.Call (.Name x p) (e :: es) [] pos) (dApp g m) := by
  refine PE.weaken (pe_callS (E := WE W) F hr hg hm hk hb (fun σ => passAt G.tk σ) ha hdb he hpl) fun σ H Q ⟨rs, env, S, st, h⟩ => ?_
  refine ⟨rs, env, S, st, bindAE h fun ds S1 vs H1 rs1 e1 r1 p1 h1 => ?_⟩
  by_cases hn : ds.length = n
  · exact spOf_ok hn r1 p1 h1
  · rw [ar ds S1 hn] at h1; exact h1.elim
/-! ### f(k = e, ..) -/
def SimK (X : Cx) (W : WX) (kws : List Keyword) (m : AM) : Prop := PK X kws (rdA X.K W m)
theorem PK.weaken {X : Cx} {e : List Keyword} {t t' : TA} (h : PK X e t) (w : ∀ σ H Q, t' σ H Q → t σ H Q) : PK X e t' := ⟨fun pos pins s σ H Q I q => h.run pos pins s σ H Q I (w σ H Q q)⟩
theorem k_nil : SimK X W [] aNil := PK.weaken pk_nil fun σ H Q ⟨rs, env, S, st, h⟩ => h [] H rs (Ext.refl _ _) st.sto Reps.nil
theorem k_cons {nm : Option Str} {kpos : Pos} {kws : List Keyword} {ma : EM} (ha : SimE X W e ma) (hr : SimK X W kws m) : SimK X W (⟨nm, e, kpos⟩ :: kws) (aCons ma m) := by
  refine PK.weaken (pk_cons ha hr) fun σ H Q ⟨rs, env, S, st, h⟩ => ?_
  refine ⟨rs, env, S, st, bindEA h fun d S1 v H1 rs1 e1 r1 p1 h1 => ?_⟩
  refine ⟨rs1, env, S1, st.to e1 r1, bindAA h1 fun ds S2 vs H2 rs2 e2 r2 p2 h2 => ?_⟩
  exact h2 (v :: vs) H2 rs2 (Ext.refl _ _) r2 (Reps.cons (Rep.mono e2 _ _ p1) p2)
/-- the places pm of a list -/
def pickL {α : Type} (pm : List Nat) (l : List α) : List α := pm.filterMap fun i => l[i]?
theorem vals_pick {pm : List Nat} {vs : List V} {us : List Value} (h : Vals vs us) : Vals (pickL pm vs) (pickL pm us) := by
  induction pm with
  | nil => exact .nil
  | cons i pm ih =>
    unfold pickL at ih ⊢
    rw [List.filterMap_cons, List.filterMap_cons]
    cases q : vs[i]? with
    | none => rw [Vals.none_of h q]; exact ih
    | some v =>
      obtain ⟨u, h1, h2⟩ := Vals.get h q
      rw [h1]
      exact .cons h2 ih
theorem Reps.pick {K : PySem.W.Frag} {H : Hp} {rs : List Addr} {pm : List Nat} {ds : List D} {vs : List V} (h : Reps K H rs ds vs) : Reps K H rs (pickL pm ds) (pickL pm vs) := by
  induction pm with
  | nil => exact Reps.nil
  | cons i pm ih =>
    unfold pickL at ih ⊢
    rw [List.filterMap_cons, List.filterMap_cons]
    cases q : ds[i]? with
    | none =>
      have hv : vs[i]? = none := List.getElem?_eq_none_iff.mpr (by rw [h.length]; exact List.getElem?_eq_none_iff.mp q)
      rw [hv]; exact ih
    | some d =>
      obtain ⟨v, h1, h2⟩ := h.get q
      rw [h1]
      exact Reps.cons h2 ih
/-- f(k = e, ..) without positional arguments: the keywords ks at the places pm are the parameters -/
structure KB0 (K : PySem.W.Frag) (fd : FuncData) (ps ks : List Str) (pm : List Nat) : Prop where
  to : ∀ (s : Shared) (ws : List Value), ws.length = ks.length → BindsTo s fd ⟨[], ks.zip ws⟩ (ps.zip (pickL pm ws))
theorem run_k0 {pins : List (Addr × Obj)} {σ : L2.St} {H : Hp} {s : Shared} {Q : VK} {ws : List Value} {zs : List V} {ks : List Str} {pm : List Nat} {sp : Sp} {CX : CXT} {E : XK} (F : FnOk X.prog X.w X.K X.mg X.base CX k f fd ps sp) (hr : Room k X.A) (hb : KB0 X.K fd ps ks pm) (hx : PassesAt CX X σ E)
    (I : Inv X pins σ H s) (rz : Vals zs ws) (l2 : zs.length = ks.length) (h : sp (pickL pm zs) H Q E) : wpAny (model X.prog X.w) X.A (call (.ref f) [] (ks.zip ws)) (EP X pins σ Q) X.xe s := by
  refine wpAny_call (codeAny_mono (F.run X.A X.stack s H ⟨[], ks.zip ws⟩ (pickL pm ws) (pickL pm zs) Q E hr I.env0 (hb.to s ws (rz.length.symm.trans l2)) (vals_pick rz) h) fun r s' hq => ?_)
  cases r with
  | error e => exact hx pins H s e s' I hq
  | ok fl =>
    cases fl with
    | ret u => exact I.after hq
    | next => exact False.elim hq
    | brk => exact False.elim hq
    | cont => exact False.elim hq
theorem e_callK0 {kws : List Keyword} {ks : List Str} {pm : List Nat} (G : Good X W) (F : FnOk X.prog X.w X.K X.mg X.base (L2.CX X.prog X.w) k f fd ps (spOf X.K n g)) (ar : Ar n g) (hr : Room k X.A) (hm : X.mg x = some (.ref f)) (hk : PySem.W.keepIn X.K (.ref f) = true) (hb : KB0 X.K fd ps ks pm)
    (hkw : SimK X W kws m) (hlen : ∀ env S ds S', m env S = .val ds S' → ds.length = ks.length) (hg : Gl X x := by rfl) (hdb : (x == ("__debug__" : Str)) = false := by decide)
    (hall : (backToKw pos (keywordEach kws X.env)).all (·.1.isSome) = true := by rfl) (hks : (backToKw pos (keywordEach kws X.env)).filterMap (·.1) = ks := by rfl)
    (hpl : ((backTo pos (starEach [] X.env)).any (·.1) || (backToKw pos (keywordEach kws X.env)).any (·.1.isNone)) = false := by rfl) :
    SimE X W (.Call (.Name x p) [] kws pos) (dApp (fun ds S => g (pickL pm ds) S) m) := by
  refine ⟨fun pins s σ H Q I ⟨rs, env, S, st, h⟩ => ?_⟩
  refine wpAny_Call_Name_kw (ld_glob I hg hm ?_ hdb)
  have hA : rdA X.K W m σ H (fun zs H2 => zs.length = ks.length ∧ spOf X.K n g (pickL pm zs) H2 Q (WE W σ)) := by
    refine ⟨rs, env, S, st, ?_⟩
    unfold dApp at h
    cases q : m env S with
    | bad => rw [q] at h; exact h
    | exc x S1 => rw [q] at h; exact h
    | val ds S1 =>
      rw [q] at h
      intro vs H1 rs1 e1 r1 p1
      have h1 : OkE X.K W σ H1 rs1 (g (pickL pm ds) S1) Q := OkE.from e1 h
      refine ⟨p1.length.trans (hlen env S ds S1 q), ?_⟩
      by_cases hn : (pickL pm ds).length = n
      · exact spOf_ok hn r1 p1.pick h1
      · rw [ar _ S1 hn] at h1; exact h1.elim
  refine PySem.W.callWith_KW0 (h₀ := X.base) I.ok.mod.kin hk hall (thn (hkw.run pos pins s σ H _ I hA) fun ws s2 ⟨zs, H2, I2, rz, l2, q2⟩ => ⟨I2.kIn, ?_⟩) hpl
  rw [hks]
  exact run_k0 F hr hb (passAt G.tk σ) I2 rz l2 q2
end
section
variable {K : PySem.W.Frag} {x qual : Str} {params : Arguments} {body : List Stmt} {scope : Scope} {kws : List (Str × V)} {f : Addr} {fd : FuncData} {ps ks : List Str} {pm : List Nat}
theorem kb0_of (F : FunD K x qual params body scope [] kws f fd)
    (h : ∀ (kV doc pm' : Value) (an : Option Addr) (cdv ct : Value) (ws : List Value), ws.length = ks.length → bindArgs (PySem.W.fnOf x qual params body scope .none kV doc pm' an cdv ct) ⟨[], ks.zip ws⟩ = pure (ps.zip (pickL pm ws))) : KB0 K fd ps ks pm := by
  obtain ⟨oc, od, dV, kV, doc, pm', an, cdv, ct, osl, rfl, lk, hcd, hD, hK⟩ := F.ex
  rcases hD with ⟨_, rfl⟩ | ⟨e, _⟩
  · exact ⟨fun s ws hl => .of_eq (h kV doc pm' an cdv ct ws hl)⟩
  · exact absurd rfl e
end
end Sh

set_option Elab.async false
set_option linter.all false
set_option maxRecDepth 100000
set_option maxHeartbeats 4000000
set_option autoImplicit false
namespace Sh
open PySem PySem.Spec PyProof.Rows L2

/-! ### truth -/
def fTru (d : D) (S : Sto) : Option Bool := match d with
  | .non => some false
  | .bl b => some b
  | .int i => some (i != 0)
  | .str z => if z.length ≤ big then some ((z.length : Int) != 0) else none
  | .tup xs => some (!xs.isEmpty)
  | .loc n => match S[n]? with
    | some (.lst xs) => some (!xs.isEmpty)
    | some (.ro xs) => some (!xs.isEmpty)
    | some (.dct kvs) => some (!kvs.isEmpty)
    | _ => none
  | _ => none
def dTru (m : EM) : TM := fun env S => (m env S).bind fun d S1 => match fTru d S1 with
  | some b => .val b S1
  | none => .bad
section
variable {X : Cx} {W : WX} {e : Expr} {m : EM}
theorem Reps.empty {K : PySem.W.Frag} {H : Hp} {rs : List Addr} {ds : List D} {vs : List V} (h : Reps K H rs ds vs) : vs.isEmpty = ds.isEmpty := by
  have := h.length
  cases ds <;> cases vs <;> first | rfl | (simp at this)
theorem fTru_ok {K : PySem.W.Frag} {H : Hp} {rs : List Addr} {S : Sto} {d : D} {v : V} {b : Bool} (r : RelS K rs H S) (p : Rep K H rs d v) (h : fTru d S = some b) : TruV K v H b := by
  cases d with
  | non => cases h; rw [rep_non.mp p]; rfl
  | bl b => cases h; rw [rep_bl.mp p]; rfl
  | int i => cases h; rw [rep_int.mp p]; rfl
  | str z =>
    simp only [fTru] at h
    split at h
    · rename_i hz
      cases h
      rw [rep_str.mp p]
      exact ⟨big_le hz, rfl⟩
    · cases h
  | tup xs =>
    cases h
    obtain ⟨a, vs, rfl, h1, h2⟩ := rep_tup.mp p
    exact .inr (.inl ⟨vs, h1, by rw [h2.empty]⟩)
  | loc n =>
    obtain ⟨a', rfl, ea⟩ := rep_loc.mp p
    have ll : ∀ ys, lstAt S n = some ys → (!ys.isEmpty) = b → TruV K (.ref a') H b := fun ys e eb => by
      obtain ⟨a, vs, h1, h2, h3⟩ := r.lst e
      rw [h1] at ea; cases ea
      exact .inl ⟨vs, h2, by rw [h3.empty, eb]⟩
    simp only [fTru] at h
    split at h
    · rename_i ys e
      exact ll ys (by unfold lstAt; rw [e]) (Option.some.inj h)
    · rename_i ys e
      exact ll ys (by unfold lstAt; rw [e]) (Option.some.inj h)
    · rename_i kvs e
      obtain ⟨a, h1, kw, h2, h3⟩ := r.get e
      rw [h1] at ea; cases ea
      refine .inr (.inr ⟨kw, h2, ?_⟩)
      have := h3.len
      cases h
      cases kvs <;> cases kw <;> first | rfl | (simp at this)
    · cases h
  | _ => cases h
theorem t_tru (h : SimE X W e m) (he : ∀ whole, isTrue e X.env whole = (do let v ← whole; standAt e.pos; holding [v] (truthy v)) := by intro _; rfl) : SimT X W e (dTru m) := by
  refine PT.weaken (pt_truth h he) fun σ H Q ⟨rs, env, S, st, h⟩ => ?_
  refine ⟨rs, env, S, st, bindET h fun d S1 v H1 rs1 e1 r1 p1 h1 => ?_⟩
  cases q : fTru d S1 with
  | none => rw [q] at h1; exact h1.elim
  | some b => rw [q] at h1; exact ⟨b, fTru_ok r1 p1 q, h1 H1 rs1 (Ext.refl _ _) r1⟩
end

/-! ### a op b op c -/
def dChain (f f' : D → D → Sto → Option (D × Sto)) (ma mb mc : EM) : EM := fun env S => (ma env S).bind fun a S1 => (mb env S1).bind fun b S2 => match f a b S2 with
  | some (.bl true, S3) => (mc env S3).bind fun c S4 => .ofO (f' b c S4)
  | some (.bl false, S3) => .val (.bl false) S3
  | _ => .bad
section
variable {X : Cx} {W : WX} {a b c : Expr} {ma mb mc : EM} {op op' : CmpOp} {pos : Pos} {f f' : D → D → Sto → Option (D × Sto)} {r r' : R2}
theorem rd_chain {K : PySem.W.Frag} (hf : Fits2 K f r) (hf' : Fits2 K f' r') : ∀ σ H Q, rdE K W (dChain f f' ma mb mc) σ H Q → tChain r r' (rdE K W ma) (rdE K W mb) (rdE K W mc) σ H Q := by
  rintro σ H Q ⟨rs, env, S, st, h⟩
  refine ⟨rs, env, S, st, bindEE h fun d S1 v H1 rs1 e1 r1 p1 h1 => ?_⟩
  refine ⟨rs1, env, S1, st.to e1 r1, bindEE h1 fun d2 S2 v2 H2 rs2 e2 r2 p2 h2 => ?_⟩
  cases q : f d d2 S2 with
  | none => rw [q] at h2; exact h2.elim
  | some z =>
    obtain ⟨z, S3⟩ := z
    rw [q] at h2
    cases z with
    | bl k =>
      refine hf W σ rs2 H2 S2 d d2 v v2 _ r2 (Rep.mono e2 _ _ p1) p2 ?_
      rw [q]
      intro u H3 rs3 e3 r3 p3
      refine ⟨k, Rep.flat p3, ?_⟩
      cases k with
      | false =>
        rw [if_neg Bool.false_ne_true]
        exact h2 _ H3 rs3 e3 r3 (rep_bl.mpr rfl)
      | true =>
        rw [if_pos rfl]
        have h3 := OkE.from e3 h2
        refine ⟨rs3, env, S3, ((st.to e1 r1).to e2 r2).to e3 r3, bindEE h3 fun d4 S4 v4 H4 rs4 e4 r4 p4 h4 => ?_⟩
        exact hf' W σ rs4 H4 S4 d2 d4 v2 v4 Q r4 (Rep.mono (e3.trans e4) _ _ p2) p4 h4
    | _ => exact h2.elim
theorem e_chain (ho : OpR X (compareOp op) r) (ho' : OpR X (compareOp op') r') (hf : Fits2 X.K f r) (hf' : Fits2 X.K f' r') (ha : SimE X W a ma) (hb : SimE X W b mb) (hc : SimE X W c mc) (hm : lastMarks [op, op'] [b, c] = false := by with_unfolding_all rfl) :
    SimE X W (.Compare a [op, op'] [b, c] pos) (dChain f f' ma mb mc) := PE.weaken (pe_chain ho ho' ha hb hc hm) (rd_chain hf hf')
theorem t_chain (ho : OpR X (compareOp op) r) (ho' : OpR X (compareOp op') r') (hf : Fits2 X.K f r) (hf' : Fits2 X.K f' r') (ha : SimE X W a ma) (hb : SimE X W b mb) (hc : SimE X W c mc) (hm : lastMarks [op, op'] [b, c] = false := by with_unfolding_all rfl) :
    SimT X W (.Compare a [op, op'] [b, c] pos) (dB (dChain f f' ma mb mc)) := by
  refine PT.weaken (pt_chain ho ho' ha hb hc hm) fun σ H Q ⟨rs, env, S, st, h⟩ => ?_
  have h2 : rdE X.K W (dChain f f' ma mb mc) σ H (fun x H' => ∃ k, x = .bl k ∧ Q k H') := by
    refine ⟨rs, env, S, st, bindET h fun d S1 v H1 rs1 e1 r1 p1 h1 => ?_⟩
    cases d with
    | bl b => exact ⟨b, Rep.flat p1, h1 H1 rs1 (Ext.refl _ _) r1⟩
    | _ => exact h1.elim
  exact rd_chain hf hf' σ H _ h2
end

/-! ### methods of lists -/
def isL (d : D) (S : Sto) : Bool := match d with
  | .loc n => (lstAt S n).isSome
  | _ => false
def dMeth (f : D → List D → Sto → Option (D × Sto)) (mo : EM) (ma : AM) : EM := fun env S => (mo env S).bind fun o S1 => if isL o S1 = true then (ma env S1).bind fun as S2 => .ofO (f o as S2) else .bad
def FitsM (K : PySem.W.Frag) (f : D → List D → Sto → Option (D × Sto)) (r : V → List V → Hp → VK → Prop) : Prop :=
  ∀ (W : WX) (σ : L2.St) (rs : List Addr) (H : Hp) (S : Sto) (o : D) (ds : List D) (x : V) (xs : List V) (Q : VK), RelS K rs H S → Rep K H rs o x → Reps K H rs ds xs → OkE K W σ H rs (.ofO (f o ds S)) Q → r x xs H Q
section
variable {X : Cx} {W : WX} {o e : Expr} {es : List Expr} {mo : EM} {m : AM} {name : Str} {apos cpos : Pos} {id : String} {f : D → List D → Sto → Option (D × Sto)} {r : V → List V → Hp → VK → Prop}
theorem isL_ok {K : PySem.W.Frag} {H : Hp} {rs : List Addr} {S : Sto} {d : D} {v : V} (r : RelS K rs H S) (p : Rep K H rs d v) (h : isL d S = true) : tyV K "list" v H := by
  cases d with
  | loc n =>
    obtain ⟨a', rfl, ea⟩ := rep_loc.mp p
    simp only [isL] at h
    cases q : lstAt S n with
    | none => rw [q] at h; cases h
    | some xs =>
      obtain ⟨a, vs, h1, h2, h3⟩ := r.lst q
      rw [h1] at ea; cases ea
      exact .inl ⟨rfl, vs, h2⟩
  | _ => cases h
theorem e_meth (slot : Slot "list" name id) (hty : typeOf (.builtin id) = pure (.type "method_descriptor")) (hm : MtR X id r) (hf : FitsM X.K f r) (ho : SimE X W o mo) (ha : SimA X W (e :: es) m)
    (hbase : attributeBase o name X.env (eval o X.env) = eval o X.env := by rfl)
    (hfew : ((backTo cpos (starEach (e :: es) X.env)).all (fun x => !x.1) && (backToKw cpos (keywordEach [] X.env)).all (fun x => x.1.isSome)
      && decide ((e :: es).length + ([] : List Keyword).length + (if ([] : List Keyword).isEmpty then 0 else 1) < 30)) = true := by rfl)
    (hline : (apos.endLine == cpos.line) = true := by rfl) (hs : starEach (e :: es) X.env = (false, eval e X.env) :: starEach es X.env := by rfl) (hplain : (backTo cpos (starEach es X.env)).any (·.1) = false := by rfl) :
    SimE X W (.Call (.Attribute o name apos) (e :: es) [] cpos) (dMeth f mo m) := by
  refine PE.weaken (pe_bm PySem.F.plainAttrs_list slot hty hm ho ha hbase hfew hline hs hplain) fun σ H Q ⟨rs, env, S, st, h⟩ => ?_
  refine ⟨rs, env, S, st, bindEE h fun d S1 v H1 rs1 e1 r1 p1 h1 => ?_⟩
  split at h1
  · rename_i hl
    refine ⟨isL_ok r1 p1 hl, rs1, env, S1, st.to e1 r1, bindAE h1 fun ds S2 vs H2 rs2 e2 r2 p2 h2 => ?_⟩
    exact hf W σ rs2 H2 S2 d ds v vs Q r2 (Rep.mono e2 _ _ p1) p2 h2
  · exact h1.elim
def fAppend : D → List D → Sto → Option (D × Sto)
  | .loc n, [d], S => match S[n]? with
    | some (.lst xs) => if xs.length < big then some (.non, S.set n (.lst (xs ++ [d]))) else none
    | _ => none
  | _, _, _ => none
theorem fits_append {K : PySem.W.Frag} : FitsM K fAppend rAppend := by
  intro W σ rs H S o ds x xs Q r po pd q
  cases o with
  | loc n =>
    match ds with
    | [d] =>
      obtain ⟨v, rfl, hv⟩ := pd.inv1
      obtain ⟨a', rfl, ea⟩ := rep_loc.mp po
      simp only [fAppend] at q
      split at q
      · rename_i ys e
        split at q
        · rename_i hz
          obtain ⟨a, vs, h1, h2, h3⟩ := r.mlst e
          rw [h1] at ea; cases ea
          have mu : Mut (H a') := by rw [h2]; exact True.intro
          refine ⟨_, vs, v, rfl, rfl, h2, by rw [h3.length]; exact big_lt hz, ?_⟩
          exact q _ _ rs (Ext.mut mu) (r.set h1 mu ⟨_, upd_same, (Reps.mono (Ext.mut mu) _ _ h3).append (Reps.one (Rep.mono (Ext.mut mu) _ _ hv))⟩) (rep_non.mpr rfl)
        · exact q.elim
      · exact q.elim
    | [] => exact q.elim
    | _ :: _ :: _ => exact q.elim
  | _ => exact q.elim
theorem e_append (ho : SimE X W o mo) (ha : SimA X W [e] m)
    (hbase : attributeBase o "append" X.env (eval o X.env) = eval o X.env := by rfl)
    (hfew : ((backTo cpos (starEach [e] X.env)).all (fun x => !x.1) && (backToKw cpos (keywordEach [] X.env)).all (fun x => x.1.isSome)
      && decide ([e].length + ([] : List Keyword).length + (if ([] : List Keyword).isEmpty then 0 else 1) < 30)) = true := by rfl)
    (hline : (apos.endLine == cpos.line) = true := by rfl) (hs : starEach [e] X.env = (false, eval e X.env) :: starEach [] X.env := by rfl) : SimE X W (.Call (.Attribute o "append" apos) [e] [] cpos) (dMeth fAppend mo m) :=
  e_meth PySem.F.slot_list_append PySem.F.type_list_append mt_append fits_append ho ha hbase hfew hline hs rfl
end

/-! ### data as a whole -/
mutual
def pyD : D → Option PyData
  | .non => some .none
  | .bl b => some (.bool b)
  | .int i => some (.int i)
  | .str x => some (.str x)
  | .tup ds => (pyDs ds).map .tuple
  | _ => none
def pyDs : List D → Option (List PyData)
  | [] => some []
  | d :: ds => match pyD d, pyDs ds with
    | some p, some ps => some (p :: ps)
    | _, _ => none
end
section
variable {K : PySem.W.Frag} {H : Hp} {rs : List Addr}
mutual
theorem pyD_ok : ∀ (d : D) (v : V) (p : PyData), Rep K H rs d v → pyD d = some p → Dp K H v p
  | .non, v, p, h, e => by unfold pyD at e; cases e; rw [rep_non.mp h]; exact .non
  | .bl b, v, p, h, e => by unfold pyD at e; cases e; rw [rep_bl.mp h]; exact .bl b
  | .int i, v, p, h, e => by unfold pyD at e; cases e; rw [rep_int.mp h]; exact .int i
  | .str x, v, p, h, e => by unfold pyD at e; cases e; rw [rep_str.mp h]; exact .str x
  | .ty n, v, p, h, e => by unfold pyD at e; cases e
  | .adr n, v, p, h, e => by unfold pyD at e; cases e
  | .loc n, v, p, h, e => by unfold pyD at e; cases e
  | .tup ds, v, p, h, e => by
    unfold pyD at e
    obtain ⟨a, vs, rfl, h1, h2⟩ := rep_tup.mp h
    cases q : pyDs ds with
    | none => rw [q] at e; cases e
    | some ps => rw [q] at e; cases e; exact .tup h1 (pyDs_ok ds vs ps h2 q)
theorem pyDs_ok : ∀ (ds : List D) (vs : List V) (ps : List PyData), Reps K H rs ds vs → pyDs ds = some ps → DpAll K H vs ps
  | [], vs, ps, h, e => by
    unfold pyDs at e
    unfold Reps at h
    cases e
    rw [h]
    exact .nil
  | d :: ds, vs, ps, h, e => by
    unfold pyDs at e
    unfold Reps at h
    obtain ⟨v, r, rfl, h1, h2⟩ := h
    cases q1 : pyD d with
    | none => rw [q1] at e; cases e
    | some p =>
      rw [q1] at e
      cases q2 : pyDs ds with
      | none => rw [q2] at e; cases e
      | some ps' =>
        rw [q2] at e
        cases e
        exact .cons (pyD_ok d v p h1 q1) (pyDs_ok ds r ps' h2 q2)
end
/-- lists too, one level -/
def pyL (d : D) (S : Sto) : Option PyData := match d with
  | .loc n => match lstAt S n with
    | some xs => (pyDs xs).map .list
    | none => none
  | d => pyD d
theorem pyL_ok {S : Sto} {d : D} {v : V} {p : PyData} (r : RelS K rs H S) (h : Rep K H rs d v) (e : pyL d S = some p) : Dp K H v p := by
  cases d with
  | loc n =>
    simp only [pyL] at e
    cases q : lstAt S n with
    | none => rw [q] at e; cases e
    | some xs =>
      rw [q] at e
      cases q2 : pyDs xs with
      | none =>
        have e2 : (pyDs xs).map PyData.list = some p := e
        rw [q2] at e2; cases e2
      | some ps =>
        have e2 : (pyDs xs).map PyData.list = some p := e
        rw [q2] at e2
        cases e2
        obtain ⟨a', rfl, ea⟩ := rep_loc.mp h
        obtain ⟨a, vs, h1, h2, h3⟩ := r.lst q
        rw [h1] at ea; cases ea
        exact .lst h2 (pyDs_ok _ _ _ h3 q2)
  | _ => exact pyD_ok _ v p h e
end
/-- the first place of y in the list -/
def fIndex : D → List D → Sto → Option (D × Sto)
  | .loc n, [y], S => match lstAt S n with
    | some xs => match pyDs xs, pyD y with
      | some ds, some d => if SeqAt.shaped (.list ds) = true ∧ SeqAt.shaped d = true then (ds.findIdx? fun z => PyData.eqv z d).map fun j => (.int (j : Nat), S) else none
      | _, _ => none
    | none => none
  | _, _, _ => none
theorem fits_index {K : PySem.W.Frag} : FitsM K fIndex (rIndexD K) := by
  intro W σ rs H S o ds x xs Q r po pd q
  cases o with
  | loc n =>
    match ds with
    | [y] =>
      obtain ⟨v, rfl, hv⟩ := pd.inv1
      obtain ⟨a', rfl, ea⟩ := rep_loc.mp po
      simp only [fIndex] at q
      split at q
      · rename_i ys e
        split at q
        · rename_i ps p e1 e2
          split at q
          · rename_i hs
            obtain ⟨a, vs, h1, h2, h3⟩ := r.lst e
            rw [h1] at ea; cases ea
            cases ej : ps.findIdx? fun z => PyData.eqv z p with
            | none => rw [ej] at q; exact q.elim
            | some j =>
              rw [ej] at q
              have q : OkE K W σ H rs (.ofO (some (.int (j : Nat), S))) Q := q
              rw [List.findIdx?_eq_some_iff_getElem] at ej
              obtain ⟨hj, ej1, ej2⟩ := ej
              refine ⟨_, v, p, ps, j, ps[j], rfl, rfl, .lst h2 (pyDs_ok _ _ _ h3 e1), pyD_ok _ _ _ hv e2, hs.1, hs.2, List.getElem?_eq_getElem hj, ej1, fun m z hm hz => ?_, okv q r (rep_int.mpr rfl)⟩
              have hml : m < ps.length := by omega
              rw [List.getElem?_eq_getElem hml] at hz
              cases hz
              have := ej2 m hm
              simpa using this
          · exact q.elim
        · exact q.elim
      · exact q.elim
    | [] => exact q.elim
    | _ :: _ :: _ => exact q.elim
  | _ => exact q.elim
section
variable {X : Cx} {W : WX} {o e : Expr} {mo : EM} {m : AM} {apos cpos : Pos}
theorem e_index (hu : X.A.units + 65 < cLine) (ho : SimE X W o mo) (ha : SimA X W [e] m)
    (hbase : attributeBase o "index" X.env (eval o X.env) = eval o X.env := by rfl)
    (hfew : ((backTo cpos (starEach [e] X.env)).all (fun x => !x.1) && (backToKw cpos (keywordEach [] X.env)).all (fun x => x.1.isSome)
      && decide ([e].length + ([] : List Keyword).length + (if ([] : List Keyword).isEmpty then 0 else 1) < 30)) = true := by rfl)
    (hline : (apos.endLine == cpos.line) = true := by rfl) (hs : starEach [e] X.env = (false, eval e X.env) :: starEach [] X.env := by rfl) : SimE X W (.Call (.Attribute o "index" apos) [e] [] cpos) (dMeth fIndex mo m) :=
  e_meth PySem.F.slot_list_index PySem.F.type_list_index (mt_indexD hu) fits_index ho ha hbase hfew hline hs rfl
end

/-! ### a def as its callers see it -/
structure Fn1 (P : Program) (w : World) (K : PySem.W.Frag) (mg : Str → Option Value) (base : Heap) (x : Str) (k : Nat) (ps : List Str) (g : List D → Sto → Out D) : Prop where
  ex : ∃ (f : Addr) (fd : FuncData), FnOk P w K mg base (L2.CX P w) k f fd ps (spOf K ps.length g) ∧ mg x = some (.ref f) ∧ PySem.W.keepIn K (.ref f) = true ∧ Binds K fd ps []
section
variable {X : Cx} {W : WX} {e : Expr} {es : List Expr} {p pos : Pos} {m : AM} {k : Nat} {ps : List Str} {g : List D → Sto → Out D} {x : Str}
theorem e_fn (G : Good X W) (F : Fn1 X.prog X.w X.K X.mg X.base x k ps g) (ar : Ar ps.length g) (hr : Room k X.A)
    (ha : SimA X W (e :: es) m) (hg : Gl X x := by rfl) (hdb : (x == ("__debug__" : Str)) = false := by decide) (he : starEach (e :: es) X.env = (false, eval e X.env) :: starEach es X.env := by rfl) (hpl : (backTo pos (starEach es X.env)).any (·.1) = false := by rfl) :
    SimE X W (.Call (.Name x p) (e :: es) [] pos) (dApp g m) := by
  obtain ⟨f, fd, h1, h2, h3, h4⟩ := F.ex
  exact e_call G h1 ar hr h2 h3 h4 ha hg hdb he hpl
end
end Sh

set_option Elab.async false
set_option linter.all false
set_option maxRecDepth 100000
set_option maxHeartbeats 2000000
set_option autoImplicit false
namespace Sh
open PySem PySem.Spec PyProof.Rows L2

theorem hu65 {k : Nat} {A : Around} (hr : Room k A) : A.units + 65 < cLine := by
  have := hr.un
  omega

/-! ### f(k = e, ..) by a def as its callers see it -/
def ALen (n : Nat) (m : AM) : Prop := ∀ env S ds S', m env S = .val ds S' → ds.length = n
theorem aLen_nil : ALen 0 aNil := fun _ _ _ _ e => by cases e; rfl
theorem aLen_cons {n : Nat} {e : EM} {m : AM} (h : ALen n m) : ALen (n + 1) (aCons e m) := fun env S ds S' q => by
  unfold aCons at q
  cases q1 : e env S with
  | bad => rw [q1] at q; cases q
  | exc x S1 => rw [q1] at q; cases q
  | val d S1 =>
    rw [q1] at q
    have q : (m env S1).bind (fun as S2 => Out.val (d :: as) S2) = .val ds S' := q
    cases q2 : m env S1 with
    | bad => rw [q2] at q; cases q
    | exc x S1 => rw [q2] at q; cases q
    | val es S2 =>
      rw [q2] at q
      cases q
      rw [List.length_cons, h env S1 es _ q2]
structure FnK (P : Program) (w : World) (K : PySem.W.Frag) (mg : Str → Option Value) (base : Heap) (x : Str) (k : Nat) (ps ks : List Str) (pm : List Nat) (g : List D → Sto → Out D) : Prop where
  ex : ∃ (f : Addr) (fd : FuncData), FnOk P w K mg base (L2.CX P w) k f fd ps (spOf K ps.length g) ∧ mg x = some (.ref f) ∧ PySem.W.keepIn K (.ref f) = true ∧ KB0 K fd ps ks pm
section
variable {X : Cx} {W : WX} {p pos : Pos} {m : AM} {k : Nat} {ps ks : List Str} {pm : List Nat} {g : List D → Sto → Out D} {x : Str} {kws : List Keyword}
theorem e_fnK (G : Good X W) (F : FnK X.prog X.w X.K X.mg X.base x k ps ks pm g) (ar : Ar ps.length g) (hr : Room k X.A)
    (hkw : SimK X W kws m) (hlen : ALen ks.length m) (hg : Gl X x := by rfl) (hdb : (x == ("__debug__" : Str)) = false := by decide)
    (hall : (backToKw pos (keywordEach kws X.env)).all (·.1.isSome) = true := by rfl) (hks : (backToKw pos (keywordEach kws X.env)).filterMap (·.1) = ks := by rfl)
    (hpl : ((backTo pos (starEach [] X.env)).any (·.1) || (backToKw pos (keywordEach kws X.env)).any (·.1.isNone)) = false := by rfl) :
    SimE X W (.Call (.Name x p) [] kws pos) (dApp (fun ds S => g (pickL pm ds) S) m) := by
  obtain ⟨f, fd, h1, h2, h3, h4⟩ := F.ex
  exact e_callK0 G h1 ar hr h2 h3 h4 hkw hlen hg hdb hall hks hpl
end

/-! ### the head: the written part without its lists -/
def nlO (o : Obj) : Bool := match o.cls with
  | .type c => !(decide (c = "list"))
  | _ => true
def nl (K : PySem.W.Frag) : PySem.W.Frag := K.filter fun p => nlO p.2
theorem lookup_mem {a : Addr} {o : Obj} : ∀ {K : PySem.W.Frag}, K.lookup a = some o → (a, o) ∈ K
  | [], e => nomatch (show (none : Option Obj) = some o from e)
  | (b, ob) :: r, e => by
    have e2 : (match a == b with | true => some ob | false => r.lookup a) = some o := e
    cases q : (a == b) with
    | true =>
      rw [q] at e2
      have eo : ob = o := Option.some.inj e2
      rw [beq_iff_eq.mp q, eo]
      exact List.mem_cons_self
    | false =>
      rw [q] at e2
      exact List.mem_cons_of_mem _ (lookup_mem e2)
theorem frG_mem {g : Addr → Option Obj} {a : Addr} {o : Obj} {as : List Addr} (h : (a, o) ∈ He.frG g as) : g a = some o := by
  unfold He.frG at h
  obtain ⟨b, hb, e⟩ := List.mem_filterMap.mp h
  cases q : g b with
  | none => rw [q] at e; cases e
  | some u => rw [q] at e; cases e; exact q
theorem nl_in {h : Heap} {as : List Addr} : (nl (He.frG h.get? as)).In h := fun a o e => frG_mem ((List.mem_filter.mp (lookup_mem e)).1)
def NoL (K : PySem.W.Frag) : Prop := ∀ a o, K.lookup a = some o → o.cls ≠ .type "list"
theorem nl_no {K : PySem.W.Frag} : NoL (nl K) := fun a o e z => by
  have h := (List.mem_filter.mp (lookup_mem e)).2
  unfold nlO at h
  rw [z] at h
  simp at h
theorem NoL.sq {K : PySem.W.Frag} (n : NoL K) {H : Hp} {a : Addr} {xs : List V} (h : SqL K H a xs) (hO : Only H) : ∃ o, H a = some (.frz o (.lst xs)) := by
  rcases h with (h | ⟨o, h⟩) | ⟨o, its, m, h, e, _⟩
  · rcases hO a with z | ⟨o, ys, z⟩ <;> rw [z] at h <;> cases h
  · exact ⟨o, h⟩
  · exact absurd e (n a o h)
def obsN (n : Nat) (fa : List He.Fa) (fn : List He.DefD) (g : Addr → Option Obj) : He.AlD := He.obsD fa fn (nl (He.frG g (He.asD g n)))
def hookN (n : Nat) (fa : List He.Fa) (fn : List He.DefD) : PySem.W.Hook where
  α := He.AlD
  obs := fun s => obsN n fa fn s.heap.get?
  val := fun _ => He.valD fn
  says := fun _ h => ∃ K : PySem.W.Frag, K.In h ∧ He.SaysD fa fn K ∧ NoL K
  of := fun _ _ e => ⟨_, nl_in, e, nl_no⟩
  keeps := fun _ _ _ ⟨K, hK, c⟩ k => ⟨K, PySem.W.Frag.In.keeps hK k, c⟩
theorem obsN_eq {n : Nat} {fa : List He.Fa} {fn : List He.DefD} {g : Addr → Option Obj} {s : Shared} (h : ∀ a, g a = s.heap.get? a) : obsN n fa fn g = (hookN n fa fn).obs s := by
  have e : g = s.heap.get? := funext h
  rw [e] <;> rfl

/-! ### the end: a law's def may let out what the world's context tells -/
theorem cx_no {P : Program} {w : World} {H : Hp} {s s' : Shared} {e : Value} (h : L2.CX P w [] H s (fun _ _ _ => False) e s') : False := by
  obtain ⟨_, _, _, _, _, _, _, _, _, _, _, _, z⟩ := h
  exact z
theorem walk_ofW {l : PySem.W.OpenLaw} {n k : Nat} {q : Program} {loose : List Str} {XP : (Str → Option Value) → Heap → Prop} {YP : World → Heap → Prop} {d : DefRec} {P : Program} {x : Str}
    (hn : l.most = some n) (hn2 : n ≤ sizeLine) (hdf : d.params.defaults = []) (hr : Room k callerA)
    (F : ∀ (w : World) (mg : Str → Option Value) (fa : Addr) (h : Heap), YP w h → h.Ns mainGlobals mg → mg d.name = some (.ref fa) →
      ∃ (K : PySem.W.Frag) (fd : FuncData) (sp : Sp), K.In h ∧ (∀ (s : Shared) (u : Value), BindsTo s fd ⟨[u], []⟩ [(x, u)]) ∧
        (∀ (H : Hp) (a : Addr) (ns : List Int), ns.length ≤ n → Only H → SqL K H a (ns.map V.int) → sp [.ref a] H (fun v _ => v = .bl true) fun _ _ _ => False) ∧
        ∀ base : Heap, K.In base → base.Ns mainGlobals mg → FnOk l.prog w K mg base (L2.CX P w) k fa fd [x] sp) :
    PySem.W.WalkO q loose XP YP l.row.toRowW d [] (fun f vs => PySem.call f vs) := by
  refine Att.attach_call hn hdf fun w s₀ s₁ mg mb fa o pm cd doc a vs ns G Y ho hd hcd hmg hobj hints hlen hg => ?_
  obtain ⟨K, fd, sp, KX, hb, hsp, hF⟩ := F w mg fa _ Y G.T.g hmg
  exact law_call KX G.T.g G.T.b G.T.builtins G.T.nolimit hg hobj hints (Nat.le_trans hlen hn2) hr hF hb (fun H hO hS => hsp H a ns hlen hO hS) fun H e s' => cx_no

/-! ### the law's promise from its denotation -/
theorem reps_ints {K : PySem.W.Frag} {H : Hp} {rs : List Addr} : ∀ ns : List Int, Reps K H rs (ns.map D.int) (ns.map V.int)
  | [] => Reps.nil
  | n :: ns => Reps.cons (rep_int.mpr rfl) (reps_ints ns)
theorem sp_law {K : PySem.W.Frag} {g : List D → Sto → Out D} (nK : NoL K) {H : Hp} {a : Addr} {ns : List Int} (hO : Only H) (hS : SqL K H a (ns.map V.int))
    (h : ∃ S', g [.loc 0] [.ro (ns.map D.int)] = .val (.bl true) S') : spOf K 1 g [.ref a] H (fun v _ => v = .bl true) fun _ _ _ => False := by
  obtain ⟨o, ho⟩ := nK.sq hS hO
  obtain ⟨S', e⟩ := h
  refine ⟨rfl, [a], [.ro (ns.map D.int)], [.loc 0], ⟨by simp, rfl, fun n ob b hS hb => ?_⟩, Reps.one (rep_loc.mpr ⟨a, rfl, rfl⟩), ?_⟩
  · cases n with
    | zero =>
      cases hS
      cases hb
      exact ⟨o, _, ho, reps_ints ns⟩
    | succ n => cases hS
  · rw [e]
    intro v H' rs' _ _ p
    exact rep_bl.mp p
end Sh

set_option Elab.async false
set_option linter.all false
set_option maxRecDepth 100000
set_option maxHeartbeats 2000000
set_option autoImplicit false
/-! ShWp: weakest preconditions of denotations. -/
namespace Sh
open PySem PySem.Spec PyProof.Rows L2

@[irreducible] def Out.ok {α : Type} (o : Out α) (Q : α → Sto → Prop) (X : Ex → Sto → Prop) : Prop := match o with
  | .val a S => Q a S
  | .exc x S => X x S
  | .bad => False
structure Po where
  rt : D → Sto → Prop
  bk : En → Sto → Prop
  ct : En → Sto → Prop
  exc : Ex → En → Sto → Prop
@[irreducible] def Fl.ok (o : Fl) (N : En → Sto → Prop) (P : Po) : Prop := match o with
  | .nx e s => N e s
  | .rt d s => P.rt d s
  | .bk e s => P.bk e s
  | .ct e s => P.ct e s
  | .exc x e s => P.exc x e s
  | .bad => False
abbrev NoX : Ex → Sto → Prop := fun _ _ => False
def okO (o : Option (D × Sto)) (Q : D → Sto → Prop) : Prop := match o with
  | some (d, S) => Q d S
  | none => False
def okS (o : Option Sto) (Q : Sto → Prop) : Prop := match o with
  | some S => Q S
  | none => False
def okV (o : Option (Option D)) (Q : D → Prop) : Prop := match o with
  | some (some d) => Q d
  | _ => False
def okB (o : D) (Q : Bool → Prop) : Prop := match o with
  | .bl b => Q b
  | _ => False
def okI (o : D) (Q : Int → Prop) : Prop := match o with
  | .int b => Q b
  | _ => False
def okT (o : D) (Q : List D → Prop) : Prop := match o with
  | .tup b => Q b
  | _ => False
def ok2 (ds : List D) (Q : D → D → Prop) : Prop := match ds with
  | [x, y] => Q x y
  | _ => False
def ok3 (ds : List D) (Q : D → D → D → Prop) : Prop := match ds with
  | [x, y, z] => Q x y z
  | _ => False
theorem ok2_two {x y : D} {Q : D → D → Prop} : ok2 [x, y] Q = Q x y := by with_unfolding_all exact propext Iff.rfl
theorem ok3_three {x y z : D} {Q : D → D → D → Prop} : ok3 [x, y, z] Q = Q x y z := by with_unfolding_all exact propext Iff.rfl
def okC (o : Option Bool) (Q : Bool → Prop) : Prop := match o with
  | some b => Q b
  | none => False
/-- (condition) branches -/
def br (b : Bool) (p q : Prop) : Prop := (b = true → p) ∧ (b = false → q)
theorem br_true {p q : Prop} : br true p q = p := by unfold br; simp
theorem br_false {p q : Prop} : br false p q = q := by unfold br; simp
theorem br_dec {c : Prop} [Decidable c] {p q : Prop} : br (decide c) p q = ((c → p) ∧ (¬ c → q)) := by unfold br; simp
theorem br_not {b : Bool} {p q : Prop} : br (!b) p q = br b q p := by with_unfolding_all cases b <;> simp [br]
section
variable {α β : Type} {o : Out α} {Q Q' : α → Sto → Prop} {X X' : Ex → Sto → Prop} {S : Sto}
theorem ok_val {a : α} : (Out.val a S).ok Q X = Q a S := by with_unfolding_all exact propext Iff.rfl
theorem ok_exc {x : Ex} : (Out.exc x S : Out α).ok Q X = X x S := by with_unfolding_all exact propext Iff.rfl
theorem ok_bad : (Out.bad : Out α).ok Q X = False := by with_unfolding_all exact propext Iff.rfl
theorem ok_if {c : Prop} [Decidable c] {a : α} : (if c then Out.val a S else Out.bad).ok Q X = (c ∧ Q a S) := by with_unfolding_all
  by_cases h : c
  · rw [if_pos h]; simp [h, Out.ok]
  · rw [if_neg h]; simp [h, Out.ok]
theorem ok_bind {f : α → Sto → Out β} {Q : β → Sto → Prop} : (o.bind f).ok Q X = o.ok (fun a S => (f a S).ok Q X) X := by with_unfolding_all cases o <;> rfl
theorem ok_mono (h : o.ok Q X) (m : ∀ a S, Q a S → Q' a S) (x : ∀ a S, X a S → X' a S := by intro _ _ h; exact h) : o.ok Q' X' := by with_unfolding_all
  cases o with
  | val a S => exact m a S h
  | exc y S => exact x y S h
  | bad => exact h
theorem ok_ofO {o : Option (D × Sto)} {Q : D → Sto → Prop} : (Out.ofO o).ok Q X = okO o Q := by with_unfolding_all
  cases o with
  | none => rfl
  | some p => rfl
theorem okO_some {d : D} {Q : D → Sto → Prop} : okO (some (d, S)) Q = Q d S := by with_unfolding_all exact propext Iff.rfl
theorem okO_none {Q : D → Sto → Prop} : okO none Q = False := by with_unfolding_all exact propext Iff.rfl
theorem okS_some {Q : Sto → Prop} : okS (some S) Q = Q S := by with_unfolding_all exact propext Iff.rfl
theorem okV_some {d : D} {Q : D → Prop} : okV (some (some d)) Q = Q d := by with_unfolding_all exact propext Iff.rfl
theorem okB_bl {b : Bool} {Q : Bool → Prop} : okB (.bl b) Q = Q b := by with_unfolding_all exact propext Iff.rfl
theorem okI_int {b : Int} {Q : Int → Prop} : okI (.int b) Q = Q b := by with_unfolding_all exact propext Iff.rfl
theorem okT_tup {b : List D} {Q : List D → Prop} : okT (.tup b) Q = Q b := by with_unfolding_all exact propext Iff.rfl
theorem okC_some {b : Bool} {Q : Bool → Prop} : okC (some b) Q = Q b := by with_unfolding_all exact propext Iff.rfl
theorem okO_if {c : Prop} [Decidable c] {d : D} {Q : D → Sto → Prop} : okO (if c then some (d, S) else none) Q = (c ∧ Q d S) := by with_unfolding_all
  by_cases h : c
  · rw [if_pos h]; simp [h, okO]
  · rw [if_neg h]; simp [h, okO]
theorem okS_if {c : Prop} [Decidable c] {S : Sto} {Q : Sto → Prop} : okS (if c then some S else none) Q = (c ∧ Q S) := by with_unfolding_all
  by_cases h : c
  · rw [if_pos h]; simp [h, okS]
  · rw [if_neg h]; simp [h, okS]
theorem okO_ifL {c : Prop} [Decidable c] {xs : List D} {Q : D → Sto → Prop} : okO (if c then newL xs S else none) Q = (c ∧ Q (.loc S.length) (S ++ [.lst xs])) := by unfold newL; exact okO_if
theorem okO_newL {xs : List D} {Q : D → Sto → Prop} : okO (newL xs S) Q = Q (.loc S.length) (S ++ [.lst xs]) := by with_unfolding_all exact propext Iff.rfl
theorem okO_map {γ : Type} {o : Option γ} {f : γ → D × Sto} {Q : D → Sto → Prop} : okO (o.map f) Q = ∃ d, o = some d ∧ Q (f d).1 (f d).2 := by with_unfolding_all
  cases o with
  | none => simp [okO]
  | some d => simp [okO]
end
section
variable {env : En} {S : Sto} {Q : D → Sto → Prop} {X : Ex → Sto → Prop} {ma mb mc : EM} {m n : TM} {ms : AM}
theorem w_var {i : Nat} : (dVar i env S).ok Q X = okV env[i]? fun d => Q d S := by with_unfolding_all
  unfold dVar okV
  cases env[i]? with
  | none => rfl
  | some o => cases o <;> rfl
theorem w_c {d : D} : (dC d env S).ok Q X = Q d S := by with_unfolding_all exact propext Iff.rfl
theorem w_bin {f : D → D → Sto → Option (D × Sto)} : (dBin f ma mb env S).ok Q X = (ma env S).ok (fun a S1 => (mb env S1).ok (fun b S2 => okO (f a b S2) Q) X) X := by with_unfolding_all
  unfold dBin
  simp only [ok_bind, ok_ofO]
theorem w_un {f : D → Sto → Option (D × Sto)} : (dUn f ma env S).ok Q X = (ma env S).ok (fun a S1 => okO (f a S1) Q) X := by with_unfolding_all
  unfold dUn
  simp only [ok_bind, ok_ofO]
theorem w_dB {Q : Bool → Sto → Prop} : (dB ma env S).ok Q X = (ma env S).ok (fun a S1 => okB a fun b => Q b S1) X := by with_unfolding_all
  unfold dB
  rw [ok_bind]
  congr
  funext a S1
  cases a <;> rfl
theorem wt_and {Q : Bool → Sto → Prop} : (dAnd m n env S).ok Q X = (m env S).ok (fun a S1 => br a ((n env S1).ok Q X) (Q false S1)) X := by with_unfolding_all
  unfold dAnd
  rw [ok_bind]
  congr
  funext a S1
  cases a
  · rw [br_false]; rfl
  · rw [br_true]; rfl
theorem wt_or {Q : Bool → Sto → Prop} : (dOr m n env S).ok Q X = (m env S).ok (fun a S1 => br a (Q true S1) ((n env S1).ok Q X)) X := by with_unfolding_all
  unfold dOr
  rw [ok_bind]
  congr
  funext a S1
  cases a
  · rw [br_false]; rfl
  · rw [br_true]; rfl
theorem wt_not {Q : Bool → Sto → Prop} : (dNot m env S).ok Q X = (m env S).ok (fun a S1 => Q (!a) S1) X := by with_unfolding_all
  unfold dNot
  rw [ok_bind]
  rfl
theorem w_if : (dIf m ma mb env S).ok Q X = (m env S).ok (fun a S1 => br a ((ma env S1).ok Q X) ((mb env S1).ok Q X)) X := by with_unfolding_all
  unfold dIf
  rw [ok_bind]
  congr
  funext a S1
  cases a
  · rw [br_false]; rfl
  · rw [br_true]; rfl
theorem w_andV : (dAndV ma mb env S).ok Q X = (ma env S).ok (fun a S1 => okB a fun b => br b ((mb env S1).ok Q X) (Q (.bl false) S1)) X := by with_unfolding_all
  unfold dAndV
  rw [ok_bind]
  congr
  funext a S1
  cases a with
  | bl b => cases b <;> simp [okB, br, Out.ok]
  | _ => rfl
theorem w_orV : (dOrV ma mb env S).ok Q X = (ma env S).ok (fun a S1 => okB a fun b => br b (Q (.bl true) S1) ((mb env S1).ok Q X)) X := by with_unfolding_all
  unfold dOrV
  rw [ok_bind]
  congr
  funext a S1
  cases a with
  | bl b => cases b <;> simp [okB, br, Out.ok]
  | _ => rfl
theorem w_notV : (dNotV ma env S).ok Q X = (ma env S).ok (fun a S1 => okB a fun b => Q (.bl !b) S1) X := by with_unfolding_all
  unfold dNotV
  rw [ok_bind]
  congr
  funext a S1
  cases a <;> rfl
theorem w_anil {Q : List D → Sto → Prop} : (aNil env S).ok Q X = Q [] S := by with_unfolding_all exact propext Iff.rfl
theorem w_acons {Q : List D → Sto → Prop} : (aCons ma ms env S).ok Q X = (ma env S).ok (fun a S1 => (ms env S1).ok (fun as S2 => Q (a :: as) S2) X) X := by with_unfolding_all
  unfold aCons
  simp only [ok_bind, ok_val]
theorem w_call {f : List D → Sto → Option (D × Sto)} : (dCall f ms env S).ok Q X = (ms env S).ok (fun as S1 => okO (f as S1) Q) X := by with_unfolding_all
  unfold dCall
  simp only [ok_bind, ok_ofO]
theorem w_app {g : List D → Sto → Out D} : (dApp g ms env S).ok Q X = (ms env S).ok (fun as S1 => (g as S1).ok Q X) X := by with_unfolding_all
  unfold dApp
  rw [ok_bind]
theorem w_tup : (dTup ms env S).ok Q X = (ms env S).ok (fun ds S1 => ds.length ≤ big ∧ Q (.tup ds) S1) X := by with_unfolding_all
  unfold dTup
  rw [ok_bind]
  congr
  funext a S1
  rw [ok_if]
theorem w_lst : (dLst ms env S).ok Q X = (ms env S).ok (fun ds S1 => ds.length ≤ big ∧ Q (.loc S1.length) (S1 ++ [.lst ds])) X := by with_unfolding_all
  unfold dLst
  rw [ok_bind]
  congr
  funext a S1
  rw [ok_if]
theorem w_dict : (dDict env S).ok Q X = Q (.loc S.length) (S ++ [.dct []]) := by with_unfolding_all exact propext Iff.rfl
theorem w_onone {Q : Option Int → Sto → Prop} : (oNone env S).ok Q X = Q none S := by with_unfolding_all exact propext Iff.rfl
theorem w_osome {Q : Option Int → Sto → Prop} : (oSome ma env S).ok Q X = (ma env S).ok (fun d S1 => okI d fun i => Q (some i) S1) X := by with_unfolding_all
  unfold oSome
  rw [ok_bind]
  congr
  funext a S1
  cases a <;> rfl
theorem w_sl {lo hi : OM} : (dSl ma lo hi env S).ok Q X = (ma env S).ok (fun d S1 => (lo env S1).ok (fun l S2 => (hi env S2).ok (fun u S3 => okO (fSl l u d S3) Q) X) X) X := by with_unfolding_all
  unfold dSl
  simp only [ok_bind, ok_ofO]
theorem w_tru {Q : Bool → Sto → Prop} : (dTru ma env S).ok Q X = (ma env S).ok (fun d S1 => okC (fTru d S1) fun b => Q b S1) X := by with_unfolding_all
  unfold dTru
  rw [ok_bind]
  congr
  funext a S1
  cases fTru a S1 <;> rfl
theorem w_chain {f f' : D → D → Sto → Option (D × Sto)} : (dChain f f' ma mb mc env S).ok Q X = (ma env S).ok (fun a S1 => (mb env S1).ok (fun b S2 => okO (f a b S2) fun d S3 => okB d fun k => br k ((mc env S3).ok (fun c S4 => okO (f' b c S4) Q) X) (Q (.bl false) S3)) X) X := by with_unfolding_all
  unfold dChain
  simp only [ok_bind]
  congr
  funext a S1
  congr
  funext b S2
  cases q : f a b S2 with
  | none => rfl
  | some z =>
    obtain ⟨z, S3⟩ := z
    cases z with
    | bl k =>
      cases k with
      | true => simp only [okO_some, okB_bl, br_true, ok_bind, ok_ofO]
      | false => simp only [okO_some, okB_bl, br_false, ok_val]
    | _ => rfl
theorem w_meth {f : D → List D → Sto → Option (D × Sto)} : (dMeth f ma ms env S).ok Q X = (ma env S).ok (fun o S1 => isL o S1 = true ∧ (ms env S1).ok (fun as S2 => okO (f o as S2) Q) X) X := by with_unfolding_all
  unfold dMeth
  rw [ok_bind]
  congr
  funext a S1
  split
  · rename_i h
    simp only [ok_bind, ok_ofO, h, true_and]
  · rename_i h
    have h2 : isL a S1 = false := by simpa using h
    simp [Out.ok, h2]
end

/-! ### comprehensions -/
section
variable {env env0 : En} {S : Sto} {Q : D → Sto → Prop} {X : Ex → Sto → Prop} {it : Iter} {n : Nat} {g : GM} {tt : TM} {te : EM} {im : IM}
theorem w_lc {vs : List Nat} : (dLc im g tt te vs env S).ok Q X = (im env S).ok (fun it S1 => (compGo it S1.length g tt te (wipeE env vs) it.items (S1 ++ [.lst []])).ok (fun _ S2 => Q (.loc S1.length) S2) NoX) X := by with_unfolding_all
  unfold dLc
  rw [ok_bind]
  congr
  funext it S1
  cases compGo it S1.length g tt te (wipeE env vs) it.items (S1 ++ [.lst []]) <;> rfl
abbrev PF (X : Ex → En → Sto → Prop) : Po := ⟨fun _ _ => False, fun _ _ => False, fun _ _ => False, X⟩
theorem comp_ix {items : List D} (Inv : Nat → Sto → Prop) (hok : ∀ i s, Inv i s → it.ok s) (h0 : Inv 0 S)
    (step : ∀ i d s, items[i]? = some d → Inv i s → (g d env0 s).ok (fun e1 s1 => (tt e1 s1).ok (fun b s2 => br b ((te e1 s2).ok (fun y s3 => ∃ acc, s3[n]? = some (.lst acc) ∧ acc.length < big ∧ Inv (i + 1) (s3.set n (.lst (acc ++ [y])))) NoX) (Inv (i + 1) s2)) NoX) (PF fun _ _ _ => False)) :
    (compGo it n g tt te env0 items S).ok (fun _ S2 => Inv items.length S2) NoX := by with_unfolding_all
  have gen : ∀ (k : Nat) (s : Sto), k ≤ items.length → Inv k s → (compGo it n g tt te env0 (items.drop k) s).ok (fun _ S2 => Inv items.length S2) NoX := by with_unfolding_all
    intro k
    induction h : items.length - k generalizing k with
    | zero =>
      intro s hk hi
      have e : k = items.length := by omega
      subst e
      rw [List.drop_length]
      unfold compGo
      rw [if_pos (hok _ _ hi)]
      exact hi
    | succ r ih =>
      intro s hk hi
      have hlt : k < items.length := by omega
      rw [List.drop_eq_getElem_cons hlt]
      unfold compGo
      rw [if_pos (hok _ _ hi)]
      have st := step k _ s (List.getElem?_eq_getElem hlt) hi
      cases q : g items[k] env0 s with
      | nx e1 s1 =>
        rw [q] at st
        have st : (tt e1 s1).ok _ NoX := st
        simp only
        cases q2 : tt e1 s1 with
        | val b s2 =>
          rw [q2] at st
          cases b with
          | true =>
            rw [ok_val, br_true] at st
            simp only
            cases q3 : te e1 s2 with
            | val y s3 =>
              rw [q3, ok_val] at st
              obtain ⟨acc, a1, a2, a3⟩ := st
              simp only [a1]
              rw [if_pos a2]
              exact ih (k + 1) (by omega) _ (by omega) a3
            | exc x s => rw [q3] at st; exact st.elim
            | bad => rw [q3] at st; exact st.elim
          | false =>
            have st : Inv (k + 1) s2 := by rw [ok_val, br_false] at st; exact st
            simp only
            exact ih (k + 1) (by omega) _ (by omega) st
        | exc x s => rw [q2] at st; exact st.elim
        | bad => rw [q2] at st; exact st.elim
      | rt d s => rw [q] at st; exact st.elim
      | bk e s => rw [q] at st; exact st.elim
      | ct e s => rw [q] at st; exact st.elim
      | exc x e s => rw [q] at st; exact st.elim
      | bad => rw [q] at st; exact st.elim
  exact gen 0 S (Nat.zero_le _) h0
end

/-! ### statements -/
section
variable {env : En} {S : Sto} {N N' : En → Sto → Prop} {P P' : Po} {ma mb : EM} {m : TM} {ms : AM} {a b : SM} {o : Fl}
theorem f_nx : (Fl.nx env S).ok N P = N env S := by with_unfolding_all exact propext Iff.rfl
theorem f_ct : (Fl.ct env S).ok N P = P.ct env S := by with_unfolding_all exact propext Iff.rfl
theorem f_rt {d : D} : (Fl.rt d S).ok N P = P.rt d S := by with_unfolding_all exact propext Iff.rfl
theorem Fl.mono (h : o.ok N P) (n : ∀ e s, N e s → N' e s) (r : ∀ d s, P.rt d s → P'.rt d s := by intro _ _ h; exact h) (bk : ∀ e s, P.bk e s → P'.bk e s := by intro _ _ h; exact h) (ct : ∀ e s, P.ct e s → P'.ct e s := by intro _ _ h; exact h)
    (x : ∀ y e s, P.exc y e s → P'.exc y e s := by intro _ _ _ h; exact h) : o.ok N' P' := by with_unfolding_all
  cases o with
  | nx e s => exact n e s h
  | rt d s => exact r d s h
  | bk e s => exact bk e s h
  | ct e s => exact ct e s h
  | exc y e s => exact x y e s h
  | bad => exact h
theorem f_bindS {α : Type} {o : Out α} {k : α → Sto → Fl} : (bindS o env k).ok N P = o.ok (fun a S1 => (k a S1).ok N P) (fun x S1 => P.exc x env S1) := by with_unfolding_all cases o <;> rfl
theorem w_nop : (dNop env S).ok N P = N env S := by with_unfolding_all exact propext Iff.rfl
theorem w_brk : (dBrk env S).ok N P = P.bk env S := by with_unfolding_all exact propext Iff.rfl
theorem w_cnt : (dCnt env S).ok N P = P.ct env S := by with_unfolding_all exact propext Iff.rfl
theorem w_seq : (dSeq a b env S).ok N P = (a env S).ok (fun e s => (b e s).ok N P) P := by with_unfolding_all
  unfold dSeq
  cases a env S <;> rfl
theorem w_ret : (dRet ma env S).ok N P = (ma env S).ok (fun d S1 => P.rt d S1) (fun x S1 => P.exc x env S1) := by with_unfolding_all
  unfold dRet
  rw [f_bindS]
  rfl
theorem w_retN : (dRetN env S).ok N P = P.rt .non S := by with_unfolding_all exact propext Iff.rfl
theorem w_drop : (dDrop ma env S).ok N P = (ma env S).ok (fun _ S1 => N env S1) (fun x S1 => P.exc x env S1) := by with_unfolding_all
  unfold dDrop
  rw [f_bindS]
  rfl
theorem w_ifS : (dIfS m a b env S).ok N P = (m env S).ok (fun k S1 => br k ((a env S1).ok N P) ((b env S1).ok N P)) (fun x S1 => P.exc x env S1) := by with_unfolding_all
  unfold dIfS
  rw [f_bindS]
  congr
  funext k S1
  cases k
  · rw [br_false]; rfl
  · rw [br_true]; rfl
theorem w_asg {g : GM} : (dAsg ma g env S).ok N P = (ma env S).ok (fun d S1 => (asT (g d env S1)).ok N P) (fun x S1 => P.exc x env S1) := by with_unfolding_all
  unfold dAsg
  rw [f_bindS]
theorem w_gN {i : Nat} {d : D} : (asT (gN i d env S)).ok N P = N (env.set i (some d)) S := by with_unfolding_all exact propext Iff.rfl
theorem w_gN0 {i : Nat} {d : D} : (gN i d env S).ok N P = N (env.set i (some d)) S := by with_unfolding_all exact propext Iff.rfl
theorem w_gT {gs : GsM} {n : Nat} {d : D} : (asT (gT gs n d env S)).ok N P = okT d fun ds => ds.length = n ∧ (asT (gs ds env S)).ok N P := by with_unfolding_all
  unfold gT
  cases d with
  | tup ds =>
    by_cases h : ds.length = n
    · simp [h, okT]
    · simp [h, okT, asT, Fl.ok]
  | _ => rfl
theorem w_gnil : (asT (gNil_ [] env S)).ok N P = N env S := by with_unfolding_all exact propext Iff.rfl
theorem w_gcons {g : GM} {gs : GsM} {d : D} {ds : List D} : (asT (gCons_ g gs (d :: ds) env S)).ok N P = (asT (g d env S)).ok (fun e s => (asT (gs ds e s)).ok N P) P := by with_unfolding_all
  unfold gCons_
  simp only
  cases g d env S <;> rfl
theorem w_gT0 {gs : GsM} {n : Nat} {d : D} : (gT gs n d env S).ok N P = okT d fun ds => ds.length = n ∧ (gs ds env S).ok N P := by with_unfolding_all
  unfold gT
  cases d with
  | tup ds =>
    by_cases h : ds.length = n
    · simp [h, okT]
    · simp [h, okT, asT, Fl.ok]
  | _ => rfl
theorem w_gnil0 : (gNil_ [] env S).ok N P = N env S := by with_unfolding_all exact propext Iff.rfl
theorem w_gnsnil0 : (gNsD [] [] env S).ok N P = N env S := by with_unfolding_all exact propext Iff.rfl
theorem w_gnscons0 {j : Nat} {js : List Nat} {d : D} {ds : List D} : (gNsD (j :: js) (d :: ds) env S).ok N P = (gNsD js ds (env.set j (some d)) S).ok N (PF P.exc) := by with_unfolding_all
  show (gCons_ (gN j) (gNsD js) (d :: ds) env S).ok N P = _
  unfold gCons_ gN
  simp only
  have : ∀ (js : List Nat) (ds : List D) (env : En), (gNsD js ds env S).ok N P = (gNsD js ds env S).ok N (PF P.exc) := by with_unfolding_all
    intro js
    induction js with
    | nil => intro ds env; cases ds <;> rfl
    | cons j js ih =>
      intro ds env
      cases ds with
      | nil => rfl
      | cons d ds => exact ih ds _
  exact this js ds _
theorem w_gsub {mo mi : EM} {d : D} : (asT (gSub_ mo mi d env S)).ok N P = (mo env S).ok (fun o S1 => (mi env S1).ok (fun i S2 => okS (fSet o i d S2) fun S3 => N env S3) (fun x S1 => P.exc x env S1)) (fun x S1 => P.exc x env S1) := by with_unfolding_all
  unfold gSub_
  cases mo env S with
  | bad => rfl
  | exc x S1 => rfl
  | val o S1 =>
    simp only [bindS, ok_val]
    cases mi env S1 with
    | bad => rfl
    | exc x S1 => rfl
    | val i S2 =>
      simp only [ok_val]
      cases fSet o i d S2 <;> rfl
theorem w_par {i j : Nat} : (dPar i j ms env S).ok N P = (ms env S).ok (fun ds S1 => ok2 ds fun x y => N ((env.set i (some x)).set j (some y)) S1) (fun x S1 => P.exc x env S1) := by with_unfolding_all
  unfold dPar
  rw [f_bindS]
  congr
  funext ds S1
  match ds with
  | [x, y] => rfl
  | [] => rfl
  | [_] => rfl
  | _ :: _ :: _ :: _ => rfl
theorem w_par3 {i j l : Nat} : (dPar3 i j l ms env S).ok N P = (ms env S).ok (fun ds S1 => ok3 ds fun x y z => N (((env.set i (some x)).set j (some y)).set l (some z)) S1) (fun x S1 => P.exc x env S1) := by with_unfolding_all
  unfold dPar3
  rw [f_bindS]
  congr
  funext ds S1
  match ds with
  | [x, y, z] => rfl
  | [] => rfl
  | [_] => rfl
  | [_, _] => rfl
  | _ :: _ :: _ :: _ :: _ => rfl
theorem w_aug {i : Nat} {f : D → D → Sto → Option (D × Sto)} : (dAug i f ma env S).ok N P = okV env[i]? fun x => (ma env S).ok (fun y S1 => okO (f x y S1) fun d S2 => N (env.set i (some d)) S2) (fun x S1 => P.exc x env S1) := by with_unfolding_all
  unfold dAug
  cases env[i]? with
  | none => rfl
  | some o =>
    cases o with
    | none => rfl
    | some x =>
      simp only [f_bindS, okV]
      congr
      funext y S1
      cases f x y S1 <;> rfl
theorem w_for {im : IM} {g : GM} : (dFor im g a env S).ok N P = (im env S).ok (fun it S1 => (forGo it g a it.items env S1).ok N P) (fun x S1 => P.exc x env S1) := by with_unfolding_all
  unfold dFor
  rw [f_bindS]
theorem w_fn {N n : Nat} {args : List D} {Q : D → Sto → Prop} {X : Ex → Sto → Prop} : (dFn N n a args S).ok Q X = (args.length = n ∧ (a (args.map some ++ List.replicate (N - n) none) S).ok (fun _ S' => Q .non (gc S .non S').2) ⟨fun d S' => Q (gc S d S').1 (gc S d S').2, fun _ _ => False, fun _ _ => False, fun x _ S' => X x S'⟩) := by with_unfolding_all
  unfold dFn
  by_cases h : args.length = n
  · rw [if_pos h]
    unfold ends
    have e : ∀ S', (gc S .non S').1 = .non := fun S' => by
      unfold gc
      by_cases t : Tidy S.length S S'
      · rw [if_pos t, if_pos (by unfold D.lo; exact True.intro)]
      · rw [if_neg t]
    cases a (args.map some ++ List.replicate (N - n) none) S <;> simp [Fl.ok, Out.ok, h, e]
  · rw [if_neg h]
    simp [Out.ok, h]
/-! ### walks -/
def rgOk (j : Int) : Prop := -(2 ^ 62) ≤ j ∧ j < 2 ^ 62
theorem rgOk_of {j : Int} (h1 : -1000000000 ≤ j) (h2 : j ≤ 1000000000) : rgOk j := by with_unfolding_all
  have e : (2 : Int) ^ 62 = 4611686018427387904 := by decide
  unfold rgOk
  rw [e]
  constructor <;> omega
theorem le_big {n : Nat} (h : n ≤ 10000) : n ≤ big := Nat.le_trans h (by decide)
theorem lt_big {n : Nat} (h : n ≤ 10000) : n < big := Nat.lt_of_le_of_lt h (by decide)
theorem rgOk_nat {j : Nat} (h2 : j ≤ 1000000000) : rgOk (j : Int) := rgOk_of (by omega) (by omega)
theorem w_range1 {Q : Iter → Sto → Prop} {X : Ex → Sto → Prop} : (iRange1 ma env S).ok Q X = (ma env S).ok (fun d S1 => okI d fun j => rgOk j ∧ Q ⟨(List.range j.toNat).map fun i => .int (0 + (i : Nat)), none⟩ S1) X := by with_unfolding_all
  unfold iRange1
  rw [ok_bind]
  congr
  funext d S1
  cases d with
  | int j =>
    simp only [okI_int]
    rw [ok_if]
    rfl
  | _ => rfl
theorem w_range2 {Q : Iter → Sto → Prop} {X : Ex → Sto → Prop} : (iRange2 ma mb env S).ok Q X = (ma env S).ok (fun d S1 => (mb env S1).ok (fun d' S2 => okI d fun i => okI d' fun j => (rgOk i ∧ rgOk j) ∧ Q ⟨(List.range (j - i).toNat).map fun k => .int (i + (k : Nat)), none⟩ S2) X) X := by with_unfolding_all
  unfold iRange2
  simp only [ok_bind]
  congr
  funext d S1
  congr
  funext d' S2
  cases d with
  | int i =>
    cases d' with
    | int j =>
      unfold rg2 rgOk
      simp only [okI_int, and_assoc]
      rw [ok_if]
      simp only [and_assoc]
    | _ => rfl
  | _ => cases d' <;> rfl
def okQ (d : D) (S : Sto) (Q : List D → Option (Nat × List D) → Prop) : Prop := match d with
  | .tup xs => Q xs none
  | .loc n => match lstAt S n with
    | some xs => Q xs (some (n, xs))
    | none => False
  | _ => False
theorem okQ_tup {xs : List D} {Q : List D → Option (Nat × List D) → Prop} : okQ (.tup xs) S Q = Q xs none := by with_unfolding_all exact propext Iff.rfl
theorem okQ_loc {n : Nat} {xs : List D} {Q : List D → Option (Nat × List D) → Prop} (h : lstAt S n = some xs) : okQ (.loc n) S Q = Q xs (some (n, xs)) := by unfold okQ; simp only [h]
theorem w_seqI {Q : Iter → Sto → Prop} {X : Ex → Sto → Prop} : (iSeq ma env S).ok Q X = (ma env S).ok (fun d S1 => okQ d S1 fun xs r => Q ⟨xs, r⟩ S1) X := by with_unfolding_all
  unfold iSeq
  rw [ok_bind]
  congr
  funext d S1
  cases d with
  | loc n =>
    simp only [okQ]
    cases lstAt S1 n <;> rfl
  | _ => rfl
theorem w_enum {Q : Iter → Sto → Prop} {X : Ex → Sto → Prop} : (iEnum_ ma env S).ok Q X = (ma env S).ok (fun d S1 => okQ d S1 fun xs r => Q ⟨enumD xs, r⟩ S1) X := by with_unfolding_all
  unfold iEnum_
  rw [ok_bind]
  congr
  funext d S1
  cases d with
  | loc n =>
    simp only [okQ]
    cases lstAt S1 n <;> rfl
  | _ => rfl
theorem for_ix {it : Iter} {g : GM} {body : SM} (Inv : Nat → En → Sto → Prop) (hok : ∀ i e s, Inv i e s → it.ok s) (h0 : Inv 0 env S) (hend : ∀ e s, Inv it.items.length e s → N e s)
    (step : ∀ i d e s, it.items[i]? = some d → Inv i e s → (asT (g d e s)).ok (fun e1 s1 => (body e1 s1).ok (Inv (i + 1)) ⟨P.rt, N, Inv (i + 1), P.exc⟩) P) : (forGo it g body it.items env S).ok N P := by with_unfolding_all
  have gen : ∀ (k : Nat) (e : En) (s : Sto), k ≤ it.items.length → Inv k e s → (forGo it g body (it.items.drop k) e s).ok N P := by with_unfolding_all
    intro k
    induction h : it.items.length - k generalizing k with
    | zero =>
      intro e s hk hi
      have e : k = it.items.length := by omega
      subst e
      rw [List.drop_length]
      unfold forGo
      rw [if_pos (hok _ _ _ hi)]
      exact hend _ _ hi
    | succ r ih =>
      intro e s hk hi
      have hlt : k < it.items.length := by omega
      rw [List.drop_eq_getElem_cons hlt]
      unfold forGo
      rw [if_pos (hok _ _ _ hi)]
      have st := step k _ e s (List.getElem?_eq_getElem hlt) hi
      cases q : asT (g it.items[k] e s) with
      | nx e1 s1 =>
        rw [q] at st
        have st : (body e1 s1).ok _ _ := st
        simp only
        cases q2 : body e1 s1 with
        | nx e2 s2 => rw [q2] at st; exact ih (k + 1) (by omega) _ _ (by omega) st
        | ct e2 s2 => rw [q2] at st; exact ih (k + 1) (by omega) _ _ (by omega) st
        | bk e2 s2 => rw [q2] at st; exact st
        | rt d s => rw [q2] at st; exact st
        | exc x e s => rw [q2] at st; exact st
        | bad => rw [q2] at st; exact st
      | rt d s => rw [q] at st; exact st
      | bk e s => rw [q] at st; exact st
      | ct e s => rw [q] at st; exact st
      | exc x e s => rw [q] at st; exact st
      | bad => rw [q] at st; exact st
  exact gen 0 env S (Nat.zero_le _) h0
/-- a walk of known items, step by step -/
theorem for_nil {it : Iter} {g : GM} {body : SM} (h : it.ok S ∧ N env S) : (forGo it g body [] env S).ok N P := by with_unfolding_all
  unfold forGo
  rw [if_pos h.1]
  exact h.2
theorem for_cons {it : Iter} {g : GM} {body : SM} {d : D} {ds : List D} (h : it.ok S ∧ (asT (g d env S)).ok (fun e1 s1 => (body e1 s1).ok (fun e2 s2 => (forGo it g body ds e2 s2).ok N P) ⟨P.rt, N, fun e2 s2 => (forGo it g body ds e2 s2).ok N P, P.exc⟩) P) : (forGo it g body (d :: ds) env S).ok N P := by with_unfolding_all
  unfold forGo
  rw [if_pos h.1]
  have st := h.2
  cases q : asT (g d env S) with
  | nx e1 s1 =>
    rw [q] at st
    have st : (body e1 s1).ok _ _ := st
    simp only
    cases q2 : body e1 s1 with
    | nx e2 s2 => rw [q2] at st; exact st
    | ct e2 s2 => rw [q2] at st; exact st
    | bk e2 s2 => rw [q2] at st; exact st
    | rt d s => rw [q2] at st; exact st
    | exc x e s => rw [q2] at st; exact st
    | bad => rw [q2] at st; exact st
  | rt d s => rw [q] at st; exact st
  | bk e s => rw [q] at st; exact st
  | ct e s => rw [q] at st; exact st
  | exc x e s => rw [q] at st; exact st
  | bad => rw [q] at st; exact st
theorem wh_ok {c : TM} {body : SM} (Inv : Nat → En → Sto → Prop) {n : Nat} (h0 : Inv n env S)
    (step : ∀ n e s, Inv n e s → (c e s).ok (fun k s1 => br k ((body e s1).ok (fun e2 s2 => ∃ m, m < n ∧ Inv m e2 s2) ⟨P.rt, N, fun e2 s2 => ∃ m, m < n ∧ Inv m e2 s2, P.exc⟩) (N e s1)) (fun x s1 => P.exc x e s1)) : (dWh c body env S).ok N P := by with_unfolding_all
  have gen : ∀ (n : Nat) (e : En) (s : Sto), Inv n e s → ∃ k, (whGo c body k e s).ok N P := by with_unfolding_all
    intro n
    induction n using Nat.strongRecOn with
    | ind n ih =>
      intro e s hi
      have st := step n e s hi
      cases q : c e s with
      | bad => rw [q] at st; exact st.elim
      | exc x s1 => exact ⟨1, by unfold whGo; rw [q]; rw [q] at st; exact st⟩
      | val k s1 =>
        rw [q] at st
        cases k with
        | false => exact ⟨1, by unfold whGo; rw [q]; rw [ok_val, br_false] at st; exact st⟩
        | true =>
          rw [ok_val, br_true] at st
          cases q2 : body e s1 with
          | nx e2 s2 =>
            rw [q2, f_nx] at st
            obtain ⟨m, hm, im⟩ := st
            obtain ⟨k, hk⟩ := ih m hm e2 s2 im
            exact ⟨k + 1, by unfold whGo; rw [q]; simp only [bindS, if_true]; rw [q2]; exact hk⟩
          | ct e2 s2 =>
            rw [q2, f_ct] at st
            obtain ⟨m, hm, im⟩ := st
            obtain ⟨k, hk⟩ := ih m hm e2 s2 im
            exact ⟨k + 1, by unfold whGo; rw [q]; simp only [bindS, if_true]; rw [q2]; exact hk⟩
          | bk e2 s2 => exact ⟨1, by unfold whGo; rw [q]; simp only [bindS, if_true]; rw [q2]; rw [q2] at st; exact st⟩
          | rt d s => exact ⟨1, by unfold whGo; rw [q]; simp only [bindS, if_true]; rw [q2]; rw [q2] at st; exact st⟩
          | exc x e s => exact ⟨1, by unfold whGo; rw [q]; simp only [bindS, if_true]; rw [q2]; rw [q2] at st; exact st⟩
          | bad => rw [q2] at st; exact st.elim
  obtain ⟨k, hk⟩ := gen n env S h0
  have nb : (whGo c body k env S).isBad = false := by
    cases q : whGo c body k env S with
    | bad => rw [q] at hk; exact hk.elim
    | _ => rfl
  rw [dWh_of nb]
  exact hk
end

section
variable {env : En} {S : Sto} {N : En → Sto → Prop} {P : Po}
theorem w_forD {i n : Nat} {kvs : List (Key × D)} {g : GM} {body : SM} (he : env[i]? = some (some (.loc n))) (hs : S[n]? = some (.dct kvs)) :
    (dForD i g body env S).ok N P = (forGo ⟨kvs.map fun kv => keyD kv.1, none⟩ g body (kvs.map fun kv => keyD kv.1) env (S.set n (.rod kvs))).ok (fun e s => s[n]? = some (.rod kvs) ∧ N e (s.set n (.dct kvs)))
      ⟨fun d s => s[n]? = some (.rod kvs) ∧ P.rt d (s.set n (.dct kvs)), fun e s => s[n]? = some (.rod kvs) ∧ P.bk e (s.set n (.dct kvs)), fun e s => s[n]? = some (.rod kvs) ∧ P.ct e (s.set n (.dct kvs)), P.exc⟩ := by with_unfolding_all
  unfold dForD
  rw [he]
  simp only
  rw [hs]
  simp only
  unfold unlock
  cases forGo ⟨kvs.map fun kv => keyD kv.1, none⟩ g body (kvs.map fun kv => keyD kv.1) env (S.set n (.rod kvs)) with
  | nx e s => simp only; by_cases h : s[n]? = some (.rod kvs) <;> simp [h, Fl.ok]
  | rt e s => simp only; by_cases h : s[n]? = some (.rod kvs) <;> simp [h, Fl.ok]
  | bk e s => simp only; by_cases h : s[n]? = some (.rod kvs) <;> simp [h, Fl.ok]
  | ct e s => simp only; by_cases h : s[n]? = some (.rod kvs) <;> simp [h, Fl.ok]
  | exc x e s => rfl
  | bad => rfl
end

/-! ### what is left behind at a def's end -/
theorem atI_nat {α : Type} {xs : List α} {i : Int} {j : Nat} {d : α} (h : i = (j : Int)) (hd : xs[j]? = some d) : atI xs i = some d := by
  subst h
  have hj := (List.getElem?_eq_some_iff.mp hd).1
  unfold atI ixN
  rw [if_pos (by omega), if_pos (by omega)]
  simpa using hd
theorem atI_neg {α : Type} {xs : List α} {i : Int} {j : Nat} {d : α} (h : i + xs.length = (j : Int)) (hi : i < 0) (hd : xs[j]? = some d) : atI xs i = some d := by
  unfold atI ixN
  rw [if_neg (by omega), if_pos (by omega), h]
  simpa using hd
theorem lo_mono {n m : Nat} (h : n ≤ m) : (∀ d : D, d.lo n → d.lo m) ∧ ∀ ds : List D, loAll n ds → loAll m ds := by
  have key : ∀ k : Nat, (∀ d : D, sizeOf d < k → d.lo n → d.lo m) ∧ ∀ ds : List D, sizeOf ds < k → loAll n ds → loAll m ds := by
    intro k
    induction k with
    | zero => exact ⟨fun d h => by omega, fun d h => by omega⟩
    | succ k ih =>
      refine ⟨fun d hd hl => ?_, fun ds hd hl => ?_⟩
      · cases d with
        | loc l => unfold D.lo at *; omega
        | tup ds => unfold D.lo at *; exact ih.2 ds (by simp at hd; omega) hl
        | _ => unfold D.lo; exact True.intro
      · cases ds with
        | nil => unfold loAll; exact True.intro
        | cons d ds =>
          have hl : d.lo n ∧ loAll n ds := by rw [loAll] at hl; exact hl
          rw [loAll]
          simp at hd
          exact ⟨ih.1 d (by omega) hl.1, ih.2 ds (by omega) hl.2⟩
  exact ⟨fun d => (key (sizeOf d + 1)).1 d (by omega), fun ds => (key (sizeOf ds + 1)).2 ds (by omega)⟩
theorem loAll_iff {n : Nat} : ∀ {ds : List D}, loAll n ds ↔ ∀ d ∈ ds, d.lo n
  | [] => by unfold loAll; simp
  | d :: ds => by unfold loAll; rw [loAll_iff]; simp
/-- S1 differs from S0 in nothing but what holds no later object -/
def Neat (S0 S1 : Sto) : Prop := S1.length = S0.length ∧ ∀ (i : Nat) (o : Ob), S1[i]? = some o → S0[i]? = some o ∨ o.lo S0.length
theorem Neat.refl (S : Sto) : Neat S S := ⟨rfl, fun _ _ h => .inl h⟩
theorem Neat.set {S0 S1 : Sto} (h : Neat S0 S1) {m : Nat} {o : Ob} (lo : o.lo S0.length) : Neat S0 (S1.set m o) := by
  refine ⟨by rw [List.length_set, h.1], fun i o' e => ?_⟩
  rw [List.getElem?_set] at e
  by_cases hm : m = i
  · rw [if_pos hm] at e
    split at e
    · cases e; exact .inr lo
    · cases e
  · rw [if_neg hm] at e
    exact h.2 i o' e
theorem Neat.tidy {S0 S1 G : Sto} (h : Neat S0 S1) : Tidy S0.length S0 (S1 ++ G) := fun i hi => by
  have hi1 : i < S1.length := by rw [h.1]; exact hi
  rw [List.getElem?_append_left hi1]
  rcases h.2 i _ (List.getElem?_eq_getElem hi1) with e | e
  · exact .inl (by rw [e, List.getElem?_eq_getElem hi1])
  · exact .inr fun o ho => by rw [List.getElem?_eq_getElem hi1] at ho; cases ho; exact e
theorem Neat.take {S0 S1 G : Sto} (h : Neat S0 S1) : (S1 ++ G).take S0.length = S1 := by rw [← h.1, List.take_left']; rfl
/-- a flat answer: all that was made is dropped -/
theorem gc_flat {S0 S1 G : Sto} {d : D} (h : Neat S0 S1) (lo : d.lo S0.length) : gc S0 d (S1 ++ G) = (d, S1) := by
  unfold gc
  rw [if_pos h.tidy, if_pos lo, h.take]
theorem gc_flat0 {S0 S1 : Sto} {d : D} (h : Neat S0 S1) (lo : d.lo S0.length) : gc S0 d S1 = (d, S1) := by
  have := gc_flat (G := []) h lo
  rwa [List.append_nil] at this
theorem gc_non {S0 : Sto} {d : D} (lo : d.lo S0.length) : gc S0 d S0 = (d, S0) := gc_flat0 (Neat.refl _) lo
/-- a fresh object: it alone is kept -/
theorem gc_new {S0 S1 G : Sto} {l : Nat} {o : Ob} (h : Neat S0 S1) (hl : S0.length ≤ l) (ho : (S1 ++ G)[l]? = some o) (lo : o.lo S0.length) : gc S0 (.loc l) (S1 ++ G) = (.loc S0.length, S1 ++ [o]) := by
  unfold gc
  rw [if_pos h.tidy, if_neg (by unfold D.lo; omega)]
  simp only [ho]
  rw [if_pos lo, h.take]

section
variable {n : Nat}
theorem lo_non : D.lo n .non = True := by unfold D.lo; rfl
theorem lo_bl {b : Bool} : D.lo n (.bl b) = True := by unfold D.lo; rfl
theorem lo_int {b : Int} : D.lo n (.int b) = True := by unfold D.lo; rfl
theorem lo_str {b : Str} : D.lo n (.str b) = True := by unfold D.lo; rfl
theorem lo_ty {b : String} : D.lo n (.ty b) = True := by unfold D.lo; rfl
theorem lo_loc {m : Nat} : D.lo n (.loc m) = (m < n) := by unfold D.lo; rfl
theorem lo_tup {ds : List D} : D.lo n (.tup ds) = loAll n ds := by rw [D.lo]
theorem la_nil : loAll n [] = True := by unfold loAll; rfl
theorem la_cons {d : D} {ds : List D} : loAll n (d :: ds) = (d.lo n ∧ loAll n ds) := by rw [loAll]
theorem la_map {α : Type} {f : α → D} {l : List α} (h : ∀ a ∈ l, (f a).lo n) : loAll n (l.map f) := loAll_iff.mpr fun d hd => by
  obtain ⟨a, ha, rfl⟩ := List.mem_map.mp hd
  exact h a ha
theorem lo_lst {ds : List D} : Ob.lo n (.lst ds) = loAll n ds := rfl
theorem lo_dct {ds : List (Key × D)} : Ob.lo n (.dct ds) = loK n ds := rfl
theorem loK_iff {κ : Type} : ∀ {ds : List (κ × D)}, loK n ds ↔ ∀ d ∈ ds, d.2.lo n
  | [] => by unfold loK; simp
  | d :: ds => by unfold loK; rw [loK_iff]; simp
end
section
variable {S : Sto} {m i : Nat} {o o' : Ob} {G : Sto}
theorem get_app (h : S[i]? = some o) : (S ++ G)[i]? = some o := by
  have := (List.getElem?_eq_some_iff.mp h).1
  rw [List.getElem?_append_left this]; exact h
theorem get_new : (S ++ [o])[S.length]? = some o := by rw [List.getElem?_append_right (Nat.le_refl _)]; simp
theorem lt_of_get (h : S[i]? = some o) : i < S.length := (List.getElem?_eq_some_iff.mp h).1
theorem get_set (h : i < S.length) : (S.set i o)[i]? = some o := by rw [List.getElem?_set]; simp [h]
theorem get_set_ne (h : m ≠ i) : (S.set m o)[i]? = S[i]? := by rw [List.getElem?_set]; simp [h]
theorem set_app (h : i < S.length) : (S ++ G).set i o = S.set i o ++ G := by rw [List.set_append]; simp [h]
theorem set_app_new : (S ++ o :: G).set S.length o' = S ++ o' :: G := by rw [List.set_append]; simp
theorem set_self (h : S[i]? = some o) : S.set i o = S := by
  apply List.ext_getElem?
  intro j
  rw [List.getElem?_set]
  by_cases e : i = j
  · subst e; rw [if_pos rfl, if_pos (lt_of_get h), h]
  · rw [if_neg e]
theorem Neat.set1 (S : Sto) {m : Nat} {o : Ob} (lo : o.lo S.length) : Neat S (S.set m o) := (Neat.refl S).set lo
end
section
variable {κ : Type} [DecidableEq κ]
theorem valD_put {kvs : List (κ × D)} {k k' : κ} {d : D} : valD (putD kvs k d) k' = if k = k' then some d else valD kvs k' := by
  have key : ∀ kvs : List (κ × D), valD (kvs ++ [(k, d)]) k' = match valD kvs k' with
      | some x => some x
      | none => if k = k' then some d else none := by
    intro kvs
    induction kvs with
    | nil => rw [List.nil_append, valD_cons]; rfl
    | cons p r ih =>
      rw [List.cons_append, valD_cons, valD_cons, ih]
      by_cases e : p.1 = k'
      · rw [if_pos e, if_pos e]
      · rw [if_neg e, if_neg e]
  have rep : ∀ kvs : List (κ × D), valD (kvs.map fun kv => if kv.1 = k then (kv.1, d) else kv) k' = if k = k' then (valD kvs k').map fun _ => d else valD kvs k' := by
    intro kvs
    induction kvs with
    | nil => unfold valD; simp
    | cons p r ih =>
      rw [List.map_cons, valD_cons, valD_cons, ih]
      by_cases e1 : p.1 = k
      · rw [if_pos e1]
        by_cases e2 : p.1 = k'
        · have : k = k' := e1.symm.trans e2
          simp [e2, this]
        · have : ¬ k = k' := fun z => e2 (e1.trans z)
          simp [e2, this]
      · rw [if_neg e1]
        by_cases e2 : p.1 = k'
        · have : ¬ k = k' := fun z => e1 (e2.trans z.symm)
          simp [e2, this]
        · simp [e2]
  have anyv : ∀ kvs : List (κ × D), (kvs.any fun kv => decide (kv.1 = k)) = (valD kvs k).isSome := by
    intro kvs
    induction kvs with
    | nil => rfl
    | cons p r ih =>
      rw [List.any_cons, valD_cons, ih]
      by_cases e : p.1 = k <;> simp [e]
  unfold putD
  rw [anyv]
  cases q : valD kvs k with
  | none =>
    simp only [Option.isSome_none, Bool.false_eq_true, if_false]
    rw [key]
    by_cases e : k = k'
    · subst e; rw [q]
    · rw [if_neg e]
      cases valD kvs k' <;> simp [e]
  | some x =>
    simp only [Option.isSome_some, if_true]
    rw [rep]
    by_cases e : k = k'
    · subst e; rw [if_pos rfl, if_pos rfl, q]; rfl
    · rw [if_neg e, if_neg e]
theorem put_keys {kvs : List (κ × D)} {k : κ} {d : D} {kv : κ × D} (h : kv ∈ putD kvs k d) : kv.1 = k ∧ kv.2 = d ∨ kv ∈ kvs := by
  unfold putD at h
  split at h
  · obtain ⟨kv0, h0, e⟩ := List.mem_map.mp h
    split at e
    · rename_i z; left; rw [← e]; exact ⟨z, rfl⟩
    · right; rw [← e]; exact h0
  · rcases List.mem_append.mp h with h | h
    · exact .inr h
    · left
      simp at h
      rw [h]; exact ⟨rfl, rfl⟩
theorem put_len {kvs : List (κ × D)} {k : κ} {d : D} : (putD kvs k d).length ≤ kvs.length + 1 := by
  unfold putD
  split <;> simp
theorem valD_some {kvs : List (κ × D)} {k : κ} {d : D} (h : valD kvs k = some d) : ∃ kv ∈ kvs, kv.1 = k := by
  unfold valD at h
  cases q : kvs.find? fun kv => decide (kv.1 = k) with
  | none => rw [q] at h; cases h
  | some kv =>
    refine ⟨kv, List.mem_of_find?_eq_some q, ?_⟩
    have := List.find?_some q
    simpa using this
end
theorem big0 : (0 ≤ big) = True := eq_true (by decide)
theorem big1 : (1 ≤ big) = True := eq_true (by decide)
theorem big2 : (2 ≤ big) = True := eq_true (by decide)
theorem big3 : (3 ≤ big) = True := eq_true (by decide)
theorem big4 : (4 ≤ big) = True := eq_true (by decide)
theorem big5 : (5 ≤ big) = True := eq_true (by decide)
theorem big6 : (6 ≤ big) = True := eq_true (by decide)
theorem big7 : (7 ≤ big) = True := eq_true (by decide)
theorem big8 : (8 ≤ big) = True := eq_true (by decide)
theorem big9 : (9 ≤ big) = True := eq_true (by decide)
theorem okQ_lst {S : Sto} {n : Nat} {xs : List D} {Q : List D → Option (Nat × List D) → Prop} (h : S[n]? = some (.lst xs)) : okQ (.loc n) S Q = Q xs (some (n, xs)) := okQ_loc (by unfold lstAt; rw [h])
theorem atI_0 {α : Type} {a : α} {l : List α} : atI (a :: l) 0 = some a := atI_nat (j := 0) rfl rfl
theorem atI_1 {α : Type} {a b : α} {l : List α} : atI (a :: b :: l) 1 = some b := atI_nat (j := 1) rfl rfl
theorem atI_2 {α : Type} {a b c : α} {l : List α} : atI (a :: b :: c :: l) 2 = some c := atI_nat (j := 2) rfl rfl
theorem atI_3 {α : Type} {a b c d : α} {l : List α} : atI (a :: b :: c :: d :: l) 3 = some d := atI_nat (j := 3) rfl rfl
theorem atI_4 {α : Type} {a b c d e : α} {l : List α} : atI (a :: b :: c :: d :: e :: l) 4 = some e := atI_nat (j := 4) rfl rfl
theorem get_off {S T : Sto} {k : Nat} : (S ++ T)[S.length + k]? = T[k]? := by rw [List.getElem?_append_right (by omega)]; congr 1; omega
theorem set_off {S T : Sto} {k : Nat} {o : Ob} : (S ++ T).set (S.length + k) o = S ++ T.set k o := by rw [List.set_append, if_neg (by omega), show S.length + k - S.length = k by omega]
/-- a comprehension that reads alone -/
theorem comp_pure {items : List D} {it : Iter} {g : GM} {tt : TM} {te : EM} {env0 : En} {S : Sto} (f : Nat → D) {Q : Sto → Prop} (hb : items.length ≤ big) (hok : ∀ acc, it.ok (S ++ [.lst acc]))
    (step : ∀ i d acc, items[i]? = some d → (g d env0 (S ++ [.lst acc])).ok (fun e1 s1 => (tt e1 s1).ok (fun b s2 => b = true ∧ (te e1 s2).ok (fun y s3 => y = f i ∧ s3 = S ++ [.lst acc]) NoX) NoX) (PF fun _ _ _ => False))
    (hQ : Q (S ++ [.lst ((List.range items.length).map f)])) : (compGo it S.length g tt te env0 items (S ++ [.lst []])).ok (fun _ S2 => Q S2) NoX := by
  refine ok_mono (comp_ix (fun i s => s = S ++ [.lst ((List.range i).map f)]) (fun i s e => by rw [e]; exact hok _) rfl fun i d s hd e => ?_) fun _ S2 e => by rw [e]; exact hQ
  subst e
  have hi := (List.getElem?_eq_some_iff.mp hd).1
  refine Fl.mono (step i d _ hd) (fun e1 s1 h => ok_mono h fun b s2 h => ?_)
  rw [h.1, br_true]
  refine ok_mono h.2 fun y s3 h => ?_
  obtain ⟨rfl, rfl⟩ := h
  refine ⟨_, get_new, by simp; omega, ?_⟩
  rw [set_app_new, List.range_succ]
  simp
end Sh

set_option Elab.async false
set_option linter.all false
set_option maxRecDepth 100000
set_option maxHeartbeats 4000000
set_option autoImplicit false
namespace K68
open PySem PySem.Spec PyProof.Rows L2 Sh
noncomputable def d_is_integer_b : SM :=
    dRet (dAndV (dCall (f2 fIsi) (aCons (dVar 0) (aCons (dC (.ty "int")) aNil))) (dNotV (dCall (f2 fIsi) (aCons (dVar 0) (aCons (dC (.ty "bool")) aNil)))))
noncomputable def d_is_integer : List D → Sto → Out D := dFn 1 1 d_is_integer_b
noncomputable def d_is_tuple_b : SM :=
    dRet (dAndV (dCall (f2 fIsi) (aCons (dVar 0) (aCons (dC (.ty "tuple")) aNil))) (dBin fEq (dCall (f1 fLen) (aCons (dVar 0) aNil)) (dVar 1)))
noncomputable def d_is_tuple : List D → Sto → Out D := dFn 2 2 d_is_tuple_b
noncomputable def d_settle_l1 : SM :=
    dSeq (dAsg (dVar 4) (gT (gCons_ (gN 5) (gCons_ (gN 6) (gCons_ (gN 7) (gNil_)))) 3))
    (dIfS (dAnd (dB (dBin fIsNotN (dBin fIx (dVar 0) (dVar 5)) (dC .non))) (dOr (dB (dBin fIsN (dBin fIx (dVar 0) (dVar 6)) (dC .non))) (dB (dBin fLt (dBin fAdd (dBin fIx (dVar 0) (dVar 5)) (dVar 7)) (dBin fIx (dVar 0) (dVar 6)))))) (dSeq (dAsg (dBin fAdd (dBin fIx (dVar 0) (dVar 5)) (dVar 7)) (gSub_ (dVar 0) (dVar 6)))
    (dAsg (dVar 3) (gSub_ (dVar 2) (dVar 6)))) (dNop))
noncomputable def d_settle_r2 : SM :=
    dSeq (dFor (iEnum_ (dVar 1)) (gT (gCons_ (gN 3) (gCons_ (gN 4) (gNil_))) 2) (d_settle_l1))
    (dRet (dVar 2))
noncomputable def d_settle_b : SM :=
    dSeq (dAsg (dDict) (gN 2))
    (d_settle_r2)
noncomputable def d_settle : List D → Sto → Out D := dFn 8 2 d_settle_b
noncomputable def d_round_through_l1 : SM :=
    dSeq (dDrop (dMeth fAppend (dVar 3) (aCons (dVar 2) (aNil))))
    (dAsg (dBin fIx (dBin fIx (dVar 0) (dBin fIx (dVar 1) (dVar 2))) (dC (.int 0))) (gN 2))
noncomputable def d_round_through_l2 : SM :=
    dSeq (dDrop (dMeth fAppend (dVar 5) (aCons (dBin fIx (dVar 1) (dVar 2)) (aNil))))
    (dAsg (dBin fIx (dBin fIx (dVar 0) (dBin fIx (dVar 1) (dVar 2))) (dC (.int 0))) (gN 2))
noncomputable def d_round_through_r3 : SM :=
    dSeq (dWh (dB (dBin fNe (dVar 2) (dVar 4))) (d_round_through_l2))
    (dRet (dUn fTupRev (dVar 5)))
noncomputable def d_round_through_r4 : SM :=
    dSeq (dAsg (dBin fIx (dBin fIx (dVar 0) (dBin fIx (dVar 1) (dVar 2))) (dC (.int 0))) (gN 2))
    (d_round_through_r3)
noncomputable def d_round_through_r5 : SM :=
    dSeq (dAsg (dLst (aCons (dBin fIx (dVar 1) (dVar 2)) (aNil))) (gN 5))
    (d_round_through_r4)
noncomputable def d_round_through_r6 : SM :=
    dSeq (dAsg (dVar 2) (gN 4))
    (d_round_through_r5)
noncomputable def d_round_through_r7 : SM :=
    dSeq (dWh (dB (dBin fNotIn (dVar 2) (dVar 3))) (d_round_through_l1))
    (d_round_through_r6)
noncomputable def d_round_through_b : SM :=
    dSeq (dAsg (dLst (aNil)) (gN 3))
    (d_round_through_r7)
noncomputable def d_round_through : List D → Sto → Out D := dFn 6 3 d_round_through_b
noncomputable def d_falling_round_l1 : SM :=
    dAsg (dBin fIx (dVar 4) (dVar 6)) (gSub_ (dVar 3) (dVar 6))
noncomputable def d_falling_round_l2 : SM :=
    dSeq (dAsg (dApp d_settle (aCons (dVar 2) (aCons (dVar 1) (aNil)))) (gN 4))
    (dForD 4 (gN 6) (d_falling_round_l1))
noncomputable def d_falling_round_l3 : SM :=
    dRet (dApp d_round_through (aCons (dVar 1) (aCons (dVar 3) (aCons (dVar 6) (aNil)))))
noncomputable def d_falling_round_r4 : SM :=
    dSeq (dForD 4 (gN 6) (d_falling_round_l3))
    (dRet (dC .non))
noncomputable def d_falling_round_r5 : SM :=
    dSeq (dFor (iRange1 (dBin fAdd (dVar 0) (dC (.int 1)))) (gN 5) (d_falling_round_l2))
    (d_falling_round_r4)
noncomputable def d_falling_round_r6 : SM :=
    dSeq (dAsg (dDict) (gN 4))
    (d_falling_round_r5)
noncomputable def d_falling_round_r7 : SM :=
    dSeq (dAsg (dDict) (gN 3))
    (d_falling_round_r6)
noncomputable def d_falling_round_b : SM :=
    dSeq (dAsg (dLc (iRange1 (dVar 0)) (gN 5) (tYesD) (dC (.int 0)) [5]) (gN 2))
    (d_falling_round_r7)
noncomputable def d_falling_round : List D → Sto → Out D := dFn 7 2 d_falling_round_b
noncomputable def d_least_ways_l1 : SM :=
    dAsg (dBin fGt (dCall (f1 fLen) (aCons (dApp d_settle (aCons (dVar 3) (aCons (dVar 1) (aNil)))) aNil)) (dC (.int 0))) (gN 4)
noncomputable def d_least_ways_r2 : SM :=
    dSeq (dWh (dTru (dVar 4)) (d_least_ways_l1))
    (dRet (dCall (f1 fTuple) (aCons (dVar 3) aNil)))
noncomputable def d_least_ways_r3 : SM :=
    dSeq (dAsg (dC (.bl true)) (gN 4))
    (d_least_ways_r2)
noncomputable def d_least_ways_r4 : SM :=
    dSeq (dAsg (dC (.int 0)) (gSub_ (dVar 3) (dVar 2)))
    (d_least_ways_r3)
noncomputable def d_least_ways_b : SM :=
    dSeq (dAsg (dLc (iRange1 (dVar 0)) (gN 5) (tYesD) (dC .non) [5]) (gN 3))
    (d_least_ways_r4)
noncomputable def d_least_ways : List D → Sto → Out D := dFn 6 3 d_least_ways_b
noncomputable def d_is_potentials_b : SM :=
    dSeq (dIfS (dOr (dNot (dTru (dApp d_is_tuple (aCons (dVar 2) (aCons (dVar 0) (aNil)))))) (dNot (dTru (dCall (f1 fAll) (aCons (dLc (iSeq (dVar 2)) (gN 3) (tYesD) (dApp d_is_integer (aCons (dVar 3) (aNil))) [3]) aNil))))) (dRet (dC (.bl false))) (dNop))
    (dRet (dCall (f1 fAll) (aCons (dLc (iSeq (dVar 1)) (gT (gNsD [4, 5, 6]) 3) (tYesD) (dBin fGe (dBin fAdd (dBin fIx (dVar 2) (dVar 4)) (dVar 6)) (dBin fIx (dVar 2) (dVar 5))) [4, 5, 6]) aNil)))
noncomputable def d_is_potentials : List D → Sto → Out D := dFn 7 3 d_is_potentials_b
noncomputable def d_law_mill_r1 : SM :=
    dSeq (dAsg (dBin fAdd (dLc (iSeq (dVar 0)) (gN 3) (tYesD) (dBin fMod (dCall (f1 fIntC) (aCons (dVar 3) aNil)) (dC (.int 2147483477))) [3]) (dLst (aCons (dC (.int 70249)) (aNil)))) (gN 2))
    (dRet (dLst (aCons (dVar 2) (aCons (dVar 1) (aCons (dC (.int 0)) (aCons (dC (.int 0)) (aCons (dC (.int 0)) (aNil))))))))
noncomputable def d_law_mill_b : SM :=
    dSeq (dAsg (dLc (iSeq (dVar 0)) (gN 3) (dOr (dB (dBin fGe (dVar 3) (dBin fPow (dC (.int 10)) (dC (.int 18))))) (dB (dBin fLe (dVar 3) (dUn fNeg (dBin fPow (dC (.int 10)) (dC (.int 18))))))) (dIf (dB (dBin fGe (dVar 3) (dC (.int 0)))) (dVar 3) (dUn fNeg (dVar 3))) [3]) (gN 1))
    (d_law_mill_r1)
noncomputable def d_law_mill : List D → Sto → Out D := dFn 4 1 d_law_mill_b
noncomputable def d_law_grind_r1 : SM :=
    dSeq (dAsg (dBin fDiv (dBin fIx (dVar 0) (dC (.int 4))) (dVar 1)) (gSub_ (dVar 0) (dC (.int 4))))
    (dRet (dVar 2))
noncomputable def d_law_grind_r2 : SM :=
    dSeq (dAsg (dBin fMod (dCall (f1 fIntC) (aCons (dBin fAdd (dBin fAdd (dBin fMul (dVar 5) (dVar 5)) (dBin fMul (dVar 3) (dC (.int 941)))) (dBin fMul (dVar 4) (dC (.int 13)))) aNil)) (dC (.int 859433527))) (gN 6))
    (dRet (dBin fMod (dCall (f1 fIntC) (aCons (dBin fDiv (dVar 6) (dC (.int 1024))) aNil)) (dVar 1)))
noncomputable def d_law_grind_r3 : SM :=
    dSeq (dAsg (dBin fMod (dCall (f1 fIntC) (aCons (dBin fAdd (dBin fAdd (dBin fMul (dVar 4) (dC (.int 28657))) (dBin fMul (dVar 3) (dC (.int 128021)))) (dC (.int 4421))) aNil)) (dC (.int 1000159))) (gN 5))
    (d_law_grind_r2)
noncomputable def d_law_grind_r4 : SM :=
    dSeq (dAsg (dBin fIx (dBin fIx (dVar 0) (dC (.int 0))) (dBin fMod (dCall (f1 fIntC) (aCons (dBin fAdd (dBin fMul (dVar 3) (dC (.int 5))) (dC (.int 2))) aNil)) (dCall (f1 fLen) (aCons (dBin fIx (dVar 0) (dC (.int 0))) aNil)))) (gN 4))
    (d_law_grind_r3)
noncomputable def d_law_grind_r5 : SM :=
    dSeq (dAsg (dBin fIx (dVar 0) (dC (.int 2))) (gN 3))
    (d_law_grind_r4)
noncomputable def d_law_grind_r6 : SM :=
    dSeq (dIfS (dB (dBin fGt (dBin fIx (dVar 0) (dC (.int 4))) (dC (.int 0)))) (dSeq (dAsg (dBin fMod (dCall (f1 fIntC) (aCons (dBin fIx (dVar 0) (dC (.int 4))) aNil)) (dVar 1)) (gN 2))
    (d_law_grind_r1)) (dNop))
    (d_law_grind_r5)
noncomputable def d_law_grind_r7 : SM :=
    dSeq (dIfS (dAnd (dB (dBin fEq (dBin fIx (dVar 0) (dC (.int 4))) (dC (.int 0)))) (dB (dBin fLt (dBin fIx (dVar 0) (dC (.int 3))) (dCall (f1 fLen) (aCons (dBin fIx (dVar 0) (dC (.int 1))) aNil))))) (dSeq (dAsg (dBin fIx (dBin fIx (dVar 0) (dC (.int 1))) (dBin fIx (dVar 0) (dC (.int 3)))) (gSub_ (dVar 0) (dC (.int 4))))
    (dAsg (dBin fAdd (dBin fIx (dVar 0) (dC (.int 3))) (dC (.int 1))) (gSub_ (dVar 0) (dC (.int 3))))) (dNop))
    (d_law_grind_r6)
noncomputable def d_law_grind_b : SM :=
    dSeq (dAsg (dBin fAdd (dBin fIx (dVar 0) (dC (.int 2))) (dC (.int 1))) (gSub_ (dVar 0) (dC (.int 2))))
    (d_law_grind_r7)
noncomputable def d_law_grind : List D → Sto → Out D := dFn 7 2 d_law_grind_b
noncomputable def d_law_number_b : SM :=
    dRet (dAndV (dCall (f2 fIsi) (aCons (dVar 0) (aCons (dC (.ty "int")) aNil))) (dNotV (dCall (f2 fIsi) (aCons (dVar 0) (aCons (dC (.ty "bool")) aNil)))))
noncomputable def d_law_number : List D → Sto → Out D := dFn 1 1 d_law_number_b
noncomputable def d_law_same_l1 : SM :=
    dIfS (dB (dBin fIsN (dBin fIx (dVar 1) (dVar 2)) (dC .non))) (dIfS (dB (dBin fIsNotN (dBin fIx (dVar 0) (dVar 2)) (dC .non))) (dRet (dC (.bl false))) (dNop)) (dIfS (dOr (dNot (dTru (dApp d_law_number (aCons (dBin fIx (dVar 0) (dVar 2)) (aNil))))) (dB (dBin fNe (dBin fIx (dVar 0) (dVar 2)) (dBin fIx (dVar 1) (dVar 2))))) (dRet (dC (.bl false))) (dNop))
noncomputable def d_law_same_r2 : SM :=
    dSeq (dFor (iRange1 (dCall (f1 fLen) (aCons (dVar 1) aNil))) (gN 2) (d_law_same_l1))
    (dRet (dC (.bl true)))
noncomputable def d_law_same_b : SM :=
    dSeq (dIfS (dOr (dNot (dTru (dCall (f2 fIsi) (aCons (dVar 0) (aCons (dC (.ty "tuple")) aNil))))) (dB (dBin fNe (dCall (f1 fLen) (aCons (dVar 0) aNil)) (dCall (f1 fLen) (aCons (dVar 1) aNil))))) (dRet (dC (.bl false))) (dNop))
    (d_law_same_r2)
noncomputable def d_law_same : List D → Sto → Out D := dFn 3 2 d_law_same_b
noncomputable def d_law_falls_r1 : SM :=
    dSeq (dDrop (dMeth fAppend (dVar 2) (aCons (dVar 4) (aNil))))
    (dAsg (dBin fAdd (dVar 3) (dBin fIx (dBin fIx (dVar 1) (dVar 4)) (dC (.int 2)))) (gN 3))
noncomputable def d_law_falls_l2 : SM :=
    dSeq (dIfS (dOr (dNot (dTru (dApp d_law_number (aCons (dVar 4) (aNil))))) (dOr (dB (dBin fLt (dVar 4) (dC (.int 0)))) (dOr (dB (dBin fGe (dVar 4) (dCall (f1 fLen) (aCons (dVar 1) aNil)))) (dB (dBin fIn (dVar 4) (dVar 2)))))) (dRet (dC (.bl false))) (dNop))
    (d_law_falls_r1)
noncomputable def d_law_falls_l3 : SM :=
    dIfS (dB (dBin fNe (dBin fIx (dBin fIx (dVar 1) (dBin fIx (dVar 2) (dBin fSub (dVar 5) (dC (.int 1))))) (dC (.int 1))) (dBin fIx (dBin fIx (dVar 1) (dBin fIx (dVar 2) (dVar 5))) (dC (.int 0))))) (dRet (dC (.bl false))) (dNop)
noncomputable def d_law_falls_r4 : SM :=
    dSeq (dFor (iRange1 (dCall (f1 fLen) (aCons (dVar 2) aNil))) (gN 5) (d_law_falls_l3))
    (dRet (dBin fLt (dVar 3) (dC (.int 0))))
noncomputable def d_law_falls_r5 : SM :=
    dSeq (dFor (iSeq (dVar 0)) (gN 4) (d_law_falls_l2))
    (d_law_falls_r4)
noncomputable def d_law_falls_r6 : SM :=
    dSeq (dAsg (dC (.int 0)) (gN 3))
    (d_law_falls_r5)
noncomputable def d_law_falls_r7 : SM :=
    dSeq (dAsg (dLst (aNil)) (gN 2))
    (d_law_falls_r6)
noncomputable def d_law_falls_b : SM :=
    dSeq (dIfS (dOr (dNot (dTru (dCall (f2 fIsi) (aCons (dVar 0) (aCons (dC (.ty "tuple")) aNil))))) (dOr (dB (dBin fEq (dCall (f1 fLen) (aCons (dVar 0) aNil)) (dC (.int 0)))) (dB (dBin fGt (dCall (f1 fLen) (aCons (dVar 0) aNil)) (dCall (f1 fLen) (aCons (dVar 1) aNil)))))) (dRet (dC (.bl false))) (dNop))
    (d_law_falls_r7)
noncomputable def d_law_falls : List D → Sto → Out D := dFn 6 2 d_law_falls_b
noncomputable def d_law_ways_l1 : SM :=
    dIfS (dB (dBin fIsNotN (dBin fIx (dVar 3) (dBin fIx (dVar 6) (dC (.int 0)))) (dC .non))) (dSeq (dAsg (dBin fAdd (dBin fIx (dVar 3) (dBin fIx (dVar 6) (dC (.int 0)))) (dBin fIx (dVar 6) (dC (.int 2)))) (gN 7))
    (dIfS (dOr (dB (dBin fIsN (dBin fIx (dVar 3) (dBin fIx (dVar 6) (dC (.int 1)))) (dC .non))) (dB (dBin fLt (dVar 7) (dBin fIx (dVar 3) (dBin fIx (dVar 6) (dC (.int 1))))))) (dSeq (dAsg (dVar 7) (gSub_ (dVar 3) (dBin fIx (dVar 6) (dC (.int 1)))))
    (dAsg (dC (.bl false)) (gN 5))) (dNop))) (dNop)
noncomputable def d_law_ways_r2 : SM :=
    dSeq (dFor (iSeq (dVar 1)) (gN 6) (d_law_ways_l1))
    (dIfS (dTru (dVar 5)) (dRet (dVar 3)) (dNop))
noncomputable def d_law_ways_l3 : SM :=
    dSeq (dAsg (dC (.bl true)) (gN 5))
    (d_law_ways_r2)
noncomputable def d_law_ways_r4 : SM :=
    dSeq (dFor (iRange1 (dBin fAdd (dVar 0) (dC (.int 1)))) (gN 4) (d_law_ways_l3))
    (dRet (dC .non))
noncomputable def d_law_ways_b : SM :=
    dSeq (dAsg (dLc (iRange1 (dVar 0)) (gN 8) (tYesD) (dIf (dAnd (dB (dBin fNe (dVar 8) (dVar 2))) (dB (dBin fGe (dVar 2) (dC (.int 0))))) (dC .non) (dC (.int 0))) [8]) (gN 3))
    (d_law_ways_r4)
noncomputable def d_law_ways : List D → Sto → Out D := dFn 9 3 d_law_ways_b
noncomputable def d_law_fits_l1 : SM :=
    dIfS (dB (dBin fLt (dBin fAdd (dBin fIx (dVar 1) (dBin fIx (dVar 2) (dC (.int 0)))) (dBin fIx (dVar 2) (dC (.int 2)))) (dBin fIx (dVar 1) (dBin fIx (dVar 2) (dC (.int 1)))))) (dRet (dC (.bl false))) (dNop)
noncomputable def d_law_fits_b : SM :=
    dSeq (dFor (iSeq (dVar 0)) (gN 2) (d_law_fits_l1))
    (dRet (dC (.bl true)))
noncomputable def d_law_fits : List D → Sto → Out D := dFn 3 2 d_law_fits_b
noncomputable def d_law_ring_r1 : SM :=
    dSeq (dDrop (dMeth fAppend (dVar 3) (aCons (dBin fIx (dVar 2) (dVar 5)) (aNil))))
    (dAsg (dBin fAdd (dSl (dVar 2) (oNone) (oSome (dVar 5))) (dSl (dVar 2) (oSome (dBin fAdd (dVar 5) (dC (.int 1)))) (oNone))) (gN 2))
noncomputable def d_law_ring_l2 : SM :=
    dSeq (dAsg (dApp d_law_grind (aCons (dVar 0) (aCons (dCall (f1 fLen) (aCons (dVar 2) aNil)) (aNil)))) (gN 5))
    (d_law_ring_r1)
noncomputable def d_law_ring_r3 : SM :=
    dSeq (dFor (iRange1 (dBin fAdd (dC (.int 1)) (dApp d_law_grind (aCons (dVar 0) (aCons (dVar 1) (aNil)))))) (gN 4) (d_law_ring_l2))
    (dRet (dVar 3))
noncomputable def d_law_ring_r4 : SM :=
    dSeq (dAsg (dLst (aNil)) (gN 3))
    (d_law_ring_r3)
noncomputable def d_law_ring_b : SM :=
    dSeq (dAsg (dLc (iRange1 (dVar 1)) (gN 6) (tYesD) (dVar 6) [6]) (gN 2))
    (d_law_ring_r4)
noncomputable def d_law_ring : List D → Sto → Out D := dFn 7 2 d_law_ring_b
noncomputable def d_law_put_b : SM :=
    dRet (dBin fAdd (dBin fAdd (dSl (dVar 0) (oNone) (oSome (dVar 1))) (dLst (aCons (dVar 2) (aNil)))) (dSl (dVar 0) (oSome (dVar 1)) (oNone)))
noncomputable def d_law_put : List D → Sto → Out D := dFn 3 3 d_law_put_b
noncomputable def d_law_calm_r1 : SM :=
    dSeq (dAsg (dApp d_law_grind (aCons (dVar 0) (aCons (dBin fIx (dLst (aCons (dC (.int 1)) (aCons (dC (.int 2)) (aCons (dC (.int 5)) (aCons (dVar 2) (aNil)))))) (dApp d_law_grind (aCons (dVar 0) (aCons (dC (.int 4)) (aNil))))) (aNil)))) (gN 9))
    (dDrop (dMeth fAppend (dVar 5) (aCons (dTup (aCons (dVar 7) (aCons (dVar 8) (aCons (dBin fAdd (dBin fSub (dBin fIx (dVar 3) (dVar 8)) (dBin fIx (dVar 3) (dVar 7))) (dVar 9)) (aNil))))) (aNil))))
noncomputable def d_law_calm_r2 : SM :=
    dSeq (dAsg (dApp d_law_grind (aCons (dVar 0) (aCons (dVar 1) (aNil)))) (gN 8))
    (d_law_calm_r1)
noncomputable def d_law_calm_l3 : SM :=
    dSeq (dAsg (dApp d_law_grind (aCons (dVar 0) (aCons (dVar 1) (aNil)))) (gN 7))
    (d_law_calm_r2)
noncomputable def d_law_calm_r4 : SM :=
    dSeq (dAsg (dBin fIx (dVar 4) (dVar 11)) (gN 8))
    (dDrop (dMeth fAppend (dVar 10) (aCons (dTup (aCons (dVar 7) (aCons (dVar 8) (aCons (dBin fSub (dBin fIx (dVar 3) (dVar 8)) (dBin fIx (dVar 3) (dVar 7))) (aNil))))) (aNil))))
noncomputable def d_law_calm_l5 : SM :=
    dSeq (dAsg (dBin fIx (dVar 4) (dBin fSub (dVar 11) (dC (.int 1)))) (gN 7))
    (d_law_calm_r4)
noncomputable def d_law_calm_l6 : SM :=
    dAsg (dApp d_law_put (aCons (dVar 5) (aCons (dApp d_law_grind (aCons (dVar 0) (aCons (dBin fAdd (dCall (f1 fLen) (aCons (dVar 5) aNil)) (dC (.int 1))) (aNil)))) (aCons (dVar 12) (aNil))))) (gN 5)
noncomputable def d_law_calm_r7 : SM :=
    dSeq (dFor (iSeq (dVar 10)) (gN 12) (d_law_calm_l6))
    (dRet (dLst (aCons (dVar 3) (aCons (dVar 5) (aCons (dBin fIx (dVar 10) (dApp d_law_grind (aCons (dVar 0) (aCons (dCall (f1 fLen) (aCons (dVar 10) aNil)) (aNil))))) (aNil))))))
noncomputable def d_law_calm_r8 : SM :=
    dSeq (dFor (iRange1 (dCall (f1 fLen) (aCons (dVar 4) aNil))) (gN 11) (d_law_calm_l5))
    (d_law_calm_r7)
noncomputable def d_law_calm_r9 : SM :=
    dSeq (dAsg (dLst (aNil)) (gN 10))
    (d_law_calm_r8)
noncomputable def d_law_calm_r10 : SM :=
    dSeq (dFor (iRange1 (dApp d_law_grind (aCons (dVar 0) (aCons (dBin fAdd (dBin fMul (dC (.int 3)) (dVar 1)) (dC (.int 1))) (aNil))))) (gN 6) (d_law_calm_l3))
    (d_law_calm_r9)
noncomputable def d_law_calm_r11 : SM :=
    dSeq (dAsg (dLst (aNil)) (gN 5))
    (d_law_calm_r10)
noncomputable def d_law_calm_r12 : SM :=
    dSeq (dAsg (dApp d_law_ring (aCons (dVar 0) (aCons (dVar 1) (aNil)))) (gN 4))
    (d_law_calm_r11)
noncomputable def d_law_calm_b : SM :=
    dSeq (dAsg (dLc (iRange1 (dVar 1)) (gN 11) (tYesD) (dBin fSub (dApp d_law_grind (aCons (dVar 0) (aCons (dVar 2) (aNil)))) (dBin fDiv (dVar 2) (dC (.int 2)))) [11]) (gN 3))
    (d_law_calm_r12)
noncomputable def d_law_calm : List D → Sto → Out D := dFn 13 3 d_law_calm_b
noncomputable def d_law_quiet_l1 : SM :=
    dIfS (dNot (dTru (dApp d_law_same (aCons (dApp d_least_ways (aCons (dVar 1) (aCons (dVar 3) (aCons (dVar 4) (aNil))))) (aCons (dApp d_law_ways (aCons (dVar 1) (aCons (dVar 2) (aCons (dVar 4) (aNil))))) (aNil)))))) (dRet (dC (.bl false))) (dNop)
noncomputable def d_law_quiet_r2 : SM :=
    dSeq (dAsg (dApp d_law_ways (aCons (dVar 1) (aCons (dVar 2) (aCons (dUn fNeg (dC (.int 1))) (aNil))))) (gN 5))
    (dRet (dBin fIsB (dApp d_is_potentials (aCons (dVar 1) (aCons (dVar 3) (aCons (dCall (f1 fTuple) (aCons (dVar 5) aNil)) (aNil))))) (dC (.bl true))))
noncomputable def d_law_quiet_r3 : SM :=
    dSeq (dFor (iSeq (dLst (aCons (dApp d_law_grind (aCons (dVar 0) (aCons (dVar 1) (aNil)))) (aCons (dIf (dB (dBin fGt (dCall (f1 fLen) (aCons (dVar 2) aNil)) (dC (.int 0)))) (dBin fIx (dBin fIx (dVar 2) (dApp d_law_grind (aCons (dVar 0) (aCons (dCall (f1 fLen) (aCons (dVar 2) aNil)) (aNil))))) (dC (.int 0))) (dC (.int 0))) (aNil))))) (gN 4) (d_law_quiet_l1))
    (d_law_quiet_r2)
noncomputable def d_law_quiet_r4 : SM :=
    dSeq (dIfS (dB (dBin fIsNotN (dApp d_falling_round (aCons (dVar 1) (aCons (dVar 3) (aNil)))) (dC .non))) (dRet (dC (.bl false))) (dNop))
    (d_law_quiet_r3)
noncomputable def d_law_quiet_b : SM :=
    dSeq (dAsg (dCall (f1 fTuple) (aCons (dVar 2) aNil)) (gN 3))
    (d_law_quiet_r4)
noncomputable def d_law_quiet : List D → Sto → Out D := dFn 6 3 d_law_quiet_b
noncomputable def d_law_truth_b : SM :=
    dRet (dAndV (dCall (f2 fIsi) (aCons (dVar 0) (aCons (dC (.ty "bool")) aNil))) (dBin fEq (dVar 0) (dVar 1)))
noncomputable def d_law_truth : List D → Sto → Out D := dFn 2 2 d_law_truth_b
noncomputable def d_law_bent_r1 : SM :=
    dSeq (dAsg (dCall (f1 fTuple) (aCons (dLc (iSeq (dVar 1)) (gN 6) (tYesD) (dBin fAdd (dBin fSub (dVar 6) (dBin fIx (dVar 1) (dVar 2))) (dC (.int 1))) [6]) aNil)) (gN 5))
    (dRet (dBin fAdd (dBin fAdd (dSl (dVar 5) (oNone) (oSome (dVar 2))) (dTup (aCons (dC (.bl true)) (aNil)))) (dSl (dVar 5) (oSome (dBin fAdd (dVar 2) (dC (.int 1)))) (oNone))))
noncomputable def d_law_bent_r2 : SM :=
    dSeq (dIfS (dB (dBin fEq (dVar 3) (dC (.int 4)))) (dRet (dBin fAdd (dBin fAdd (dSl (dVar 1) (oNone) (oSome (dVar 2))) (dTup (aCons (dVar 4) (aNil)))) (dSl (dVar 1) (oSome (dBin fAdd (dVar 2) (dC (.int 1)))) (oNone)))) (dNop))
    (d_law_bent_r1)
noncomputable def d_law_bent_r3 : SM :=
    dSeq (dAsg (dBin fIx (dLst (aCons (dC .non) (aCons (dC (.str (Str.ofString "0"))) (aCons (dTup (aCons (dBin fIx (dVar 1) (dVar 2)) (aNil))) (aCons (dLst (aCons (dBin fIx (dVar 1) (dVar 2)) (aNil))) (aCons (dC (.str (Str.ofString ""))) (aCons (dTup (aNil)) (aNil)))))))) (dApp d_law_grind (aCons (dVar 0) (aCons (dC (.int 6)) (aNil))))) (gN 4))
    (d_law_bent_r2)
noncomputable def d_law_bent_r4 : SM :=
    dSeq (dIfS (dB (dBin fEq (dVar 3) (dC (.int 3)))) (dRet (dBin fIx (dLst (aCons (dC .non) (aCons (dC (.int 0)) (aCons (dC (.bl true)) (aCons (dC (.str (Str.ofString ""))) (aCons (dTup (aCons (dVar 1) (aNil))) (aCons (dLst (aCons (dVar 1) (aNil))) (aCons (dBin fIx (dVar 1) (dVar 2)) (aNil))))))))) (dApp d_law_grind (aCons (dVar 0) (aCons (dC (.int 7)) (aNil)))))) (dNop))
    (d_law_bent_r3)
noncomputable def d_law_bent_r5 : SM :=
    dSeq (dIfS (dB (dBin fEq (dVar 3) (dC (.int 2)))) (dRet (dBin fAdd (dVar 1) (dSl (dVar 1) (oSome (dVar 2)) (oSome (dBin fAdd (dVar 2) (dC (.int 1))))))) (dNop))
    (d_law_bent_r4)
noncomputable def d_law_bent_r6 : SM :=
    dSeq (dIfS (dB (dBin fEq (dVar 3) (dC (.int 1)))) (dRet (dSl (dVar 1) (oNone) (oSome (dBin fSub (dCall (f1 fLen) (aCons (dVar 1) aNil)) (dC (.int 1)))))) (dNop))
    (d_law_bent_r5)
noncomputable def d_law_bent_r7 : SM :=
    dSeq (dIfS (dB (dBin fEq (dVar 3) (dC (.int 0)))) (dRet (dCall (f1 fList) (aCons (dVar 1) aNil))) (dNop))
    (d_law_bent_r6)
noncomputable def d_law_bent_r8 : SM :=
    dSeq (dAsg (dApp d_law_grind (aCons (dVar 0) (aCons (dC (.int 6)) (aNil)))) (gN 3))
    (d_law_bent_r7)
noncomputable def d_law_bent_b : SM :=
    dSeq (dAsg (dApp d_law_grind (aCons (dVar 0) (aCons (dCall (f1 fLen) (aCons (dVar 1) aNil)) (aNil)))) (gN 2))
    (d_law_bent_r8)
noncomputable def d_law_bent : List D → Sto → Out D := dFn 7 2 d_law_bent_b
noncomputable def d_law_judged_l1 : SM :=
    dIfS (dB (dBin fIsNotB (dApp d_is_potentials (aCons (dVar 1) (aCons (dVar 5) (aCons (dVar 10) (aNil))))) (dC (.bl true)))) (dRet (dC (.bl false))) (dNop)
noncomputable def d_law_judged_l2 : SM :=
    dIfS (dB (dBin fIsNotB (dApp d_is_potentials (aCons (dVar 1) (aCons (dVar 5) (aCons (dApp d_law_bent (aCons (dVar 0) (aCons (dVar 7) (aNil)))) (aNil))))) (dC (.bl false)))) (dRet (dC (.bl false))) (dNop)
noncomputable def d_law_judged_r3 : SM :=
    dSeq (dFor (iRange1 (dC (.int 2))) (gN 13) (d_law_judged_l2))
    (dRet (dC (.bl true)))
noncomputable def d_law_judged_r4 : SM :=
    dSeq (dIfS (dNot (dTru (dApp d_law_truth (aCons (dApp d_is_potentials (aCons (dVar 1) (aCons (dVar 5) (aCons (dCall (f1 fTuple) (aCons (dVar 11) aNil)) (aNil))))) (aCons (dApp d_law_fits (aCons (dVar 2) (aCons (dVar 11) (aNil)))) (aNil)))))) (dRet (dC (.bl false))) (dNop))
    (d_law_judged_r3)
noncomputable def d_law_judged_r5 : SM :=
    dSeq (dAsg (dBin fSub (dBin fSub (dBin fIx (dVar 11) (dVar 12)) (dC (.int 1))) (dApp d_law_grind (aCons (dVar 0) (aCons (dC (.int 3)) (aNil))))) (gSub_ (dVar 11) (dVar 12)))
    (d_law_judged_r4)
noncomputable def d_law_judged_r6 : SM :=
    dSeq (dAsg (dApp d_law_grind (aCons (dVar 0) (aCons (dVar 1) (aNil)))) (gN 12))
    (d_law_judged_r5)
noncomputable def d_law_judged_r7 : SM :=
    dSeq (dIfS (dNot (dTru (dApp d_law_truth (aCons (dApp d_is_potentials (aCons (dVar 1) (aCons (dVar 5) (aCons (dCall (f1 fTuple) (aCons (dVar 11) aNil)) (aNil))))) (aCons (dApp d_law_fits (aCons (dVar 2) (aCons (dVar 11) (aNil)))) (aNil)))))) (dRet (dC (.bl false))) (dNop))
    (d_law_judged_r6)
noncomputable def d_law_judged_r8 : SM :=
    dSeq (dAsg (dBin fAdd (dBin fIx (dVar 11) (dBin fIx (dVar 4) (dC (.int 1)))) (dC (.int 1))) (gSub_ (dVar 11) (dBin fIx (dVar 4) (dC (.int 1)))))
    (d_law_judged_r7)
noncomputable def d_law_judged_r9 : SM :=
    dSeq (dAsg (dCall (f1 fList) (aCons (dVar 7) aNil)) (gN 11))
    (d_law_judged_r8)
noncomputable def d_law_judged_r10 : SM :=
    dSeq (dFor (iSeq (dLst (aCons (dVar 7) (aCons (dVar 9) (aNil))))) (gN 10) (d_law_judged_l1))
    (d_law_judged_r9)
noncomputable def d_law_judged_r11 : SM :=
    dSeq (dAsg (dCall (f1 fTuple) (aCons (dLc (iRange1 (dVar 1)) (gN 15) (tYesD) (dCall (f2 fMin2) (aCons (dBin fIx (dVar 7) (dVar 15)) (aCons (dBin fIx (dVar 8) (dVar 15)) aNil))) [15]) aNil)) (gN 9))
    (d_law_judged_r10)
noncomputable def d_law_judged_r12 : SM :=
    dSeq (dAsg (dApp d_law_ways (aCons (dVar 1) (aCons (dVar 2) (aCons (dUn fNeg (dC (.int 1))) (aNil))))) (gN 8))
    (d_law_judged_r11)
noncomputable def d_law_judged_r13 : SM :=
    dSeq (dAsg (dCall (f1 fTuple) (aCons (dLc (iSeq (dVar 3)) (gN 14) (tYesD) (dBin fAdd (dVar 14) (dVar 6)) [14]) aNil)) (gN 7))
    (d_law_judged_r12)
noncomputable def d_law_judged_r14 : SM :=
    dSeq (dAsg (dBin fSub (dApp d_law_grind (aCons (dVar 0) (aCons (dC (.int 1000)) (aNil)))) (dC (.int 500))) (gN 6))
    (d_law_judged_r13)
noncomputable def d_law_judged_b : SM :=
    dSeq (dAsg (dCall (f1 fTuple) (aCons (dVar 2) aNil)) (gN 5))
    (d_law_judged_r14)
noncomputable def d_law_judged : List D → Sto → Out D := dFn 16 5 d_law_judged_b
noncomputable def d_law_lowered_r1 : SM :=
    dSeq (dAsg (dBin fAdd (dC (.int 1)) (dBin fMul (dApp d_law_grind (aCons (dVar 0) (aCons (dC (.int 2)) (aNil)))) (dApp d_law_grind (aCons (dVar 0) (aCons (dC (.int 4)) (aNil)))))) (gN 4))
    (dRet (dBin fAdd (dBin fAdd (dSl (dVar 1) (oNone) (oSome (dVar 3))) (dLst (aCons (dTup (aCons (dBin fIx (dVar 2) (dC (.int 0))) (aCons (dBin fIx (dVar 2) (dC (.int 1))) (aCons (dBin fSub (dBin fIx (dVar 2) (dC (.int 2))) (dVar 4)) (aNil))))) (aNil)))) (dSl (dVar 1) (oSome (dBin fAdd (dVar 3) (dC (.int 1)))) (oNone))))
noncomputable def d_law_lowered_b : SM :=
    dSeq (dAsg (dMeth fIndex (dVar 1) (aCons (dVar 2) (aNil))) (gN 3))
    (d_law_lowered_r1)
noncomputable def d_law_lowered : List D → Sto → Out D := dFn 5 3 d_law_lowered_b
noncomputable def d_law_free_l1 : SM :=
    dSeq (dAsg (dBin fSub (dApp d_law_grind (aCons (dVar 0) (aCons (dC (.int 9)) (aNil)))) (dC (.int 2))) (gN 4))
    (dDrop (dMeth fAppend (dVar 2) (aCons (dTup (aCons (dApp d_law_grind (aCons (dVar 0) (aCons (dVar 1) (aNil)))) (aCons (dApp d_law_grind (aCons (dVar 0) (aCons (dVar 1) (aNil)))) (aCons (dVar 4) (aNil))))) (aNil))))
noncomputable def d_law_free_r2 : SM :=
    dSeq (dIfS (dB (dBin fIsN (dVar 5) (dC .non))) (dRet (dApp d_law_falls (aCons (dApp d_falling_round (aCons (dVar 1) (aCons (dCall (f1 fTuple) (aCons (dVar 2) aNil)) (aNil)))) (aCons (dVar 2) (aNil))))) (dNop))
    (dRet (dApp d_law_quiet (aCons (dVar 0) (aCons (dVar 1) (aCons (dVar 2) (aNil))))))
noncomputable def d_law_free_r3 : SM :=
    dSeq (dAsg (dApp d_law_ways (aCons (dVar 1) (aCons (dVar 2) (aCons (dUn fNeg (dC (.int 1))) (aNil))))) (gN 5))
    (d_law_free_r2)
noncomputable def d_law_free_r4 : SM :=
    dSeq (dFor (iRange1 (dApp d_law_grind (aCons (dVar 0) (aCons (dBin fAdd (dBin fMul (dC (.int 2)) (dVar 1)) (dC (.int 1))) (aNil))))) (gN 3) (d_law_free_l1))
    (d_law_free_r3)
noncomputable def d_law_free_b : SM :=
    dSeq (dAsg (dLst (aNil)) (gN 2))
    (d_law_free_r4)
noncomputable def d_law_free : List D → Sto → Out D := dFn 6 2 d_law_free_b
noncomputable def d_law_r1 : SM :=
    dSeq (dIfS (dNot (dTru (dApp d_law_same (aCons (dApp (fun ds S => d_falling_round (pickL [1, 0] ds) S) (aCons (dTup (aCons (dTup (aCons (dVar 9) (aCons (dVar 9) (aCons (dUn fNeg (dC (.int 1))) (aNil))))) (aNil))) (aCons (dVar 2) (aNil)))) (aCons (dTup (aCons (dC (.int 0)) (aNil))) (aNil)))))) (dRet (dC (.bl false))) (dNop))
    (dRet (dBin fIsN (dApp d_falling_round (aCons (dVar 2) (aCons (dCall (f1 fTuple) (aCons (dVar 6) aNil)) (aNil)))) (dC .non)))
noncomputable def d_law_r2 : SM :=
    dSeq (dIfS (dB (dBin fIsNotN (dApp d_falling_round (aCons (dVar 2) (aCons (dTup (aCons (dTup (aCons (dVar 9) (aCons (dVar 9) (aCons (dC (.int 0)) (aNil))))) (aNil))) (aNil)))) (dC .non))) (dRet (dC (.bl false))) (dNop))
    (d_law_r1)
noncomputable def d_law_r3 : SM :=
    dSeq (dAsg (dBin fIx (dVar 7) (dC (.int 0))) (gN 9))
    (d_law_r2)
noncomputable def d_law_r4 : SM :=
    dSeq (dIfS (dOr (dNot (dTru (dApp d_law_free (aCons (dVar 1) (aCons (dBin fAdd (dC (.int 1)) (dApp d_law_grind (aCons (dVar 1) (aCons (dC (.int 5)) (aNil))))) (aNil)))))) (dNot (dTru (dApp d_law_quiet (aCons (dVar 1) (aCons (dVar 2) (aCons (dLst (aNil)) (aNil)))))))) (dRet (dC (.bl false))) (dNop))
    (d_law_r3)
noncomputable def d_law_r5 : SM :=
    dSeq (dIfS (dNot (dTru (dApp d_law_truth (aCons (dApp d_is_potentials (aCons (dVar 2) (aCons (dCall (f1 fTuple) (aCons (dVar 8) aNil)) (aCons (dVar 5) (aNil))))) (aCons (dC (.bl false)) (aNil)))))) (dRet (dC (.bl false))) (dNop))
    (d_law_r4)
noncomputable def d_law_r6 : SM :=
    dSeq (dIfS (dNot (dTru (dApp d_law_falls (aCons (dApp d_falling_round (aCons (dVar 2) (aCons (dCall (f1 fTuple) (aCons (dVar 8) aNil)) (aNil)))) (aCons (dVar 8) (aNil)))))) (dRet (dC (.bl false))) (dNop))
    (d_law_r5)
noncomputable def d_law_r7 : SM :=
    dSeq (dAsg (dApp d_law_lowered (aCons (dVar 1) (aCons (dVar 6) (aCons (dVar 7) (aNil))))) (gN 8))
    (d_law_r6)
noncomputable def d_law_r8 : SM :=
    dSeq (dIfS (dOr (dNot (dTru (dApp d_law_quiet (aCons (dVar 1) (aCons (dVar 2) (aCons (dVar 6) (aNil))))))) (dNot (dTru (dApp d_law_judged (aCons (dVar 1) (aCons (dVar 2) (aCons (dVar 6) (aCons (dVar 5) (aCons (dVar 7) (aNil)))))))))) (dRet (dC (.bl false))) (dNop))
    (d_law_r7)
noncomputable def d_law_r9 : SM :=
    dSeq (dAsg (dBin fIx (dVar 4) (dC (.int 2))) (gN 7))
    (d_law_r8)
noncomputable def d_law_r10 : SM :=
    dSeq (dAsg (dBin fIx (dVar 4) (dC (.int 1))) (gN 6))
    (d_law_r9)
noncomputable def d_law_r11 : SM :=
    dSeq (dAsg (dCall (f1 fTuple) (aCons (dBin fIx (dVar 4) (dC (.int 0))) aNil)) (gN 5))
    (d_law_r10)
noncomputable def d_law_r12 : SM :=
    dSeq (dAsg (dApp d_law_calm (aCons (dVar 1) (aCons (dVar 2) (aCons (dVar 3) (aNil))))) (gN 4))
    (d_law_r11)
noncomputable def d_law_r13 : SM :=
    dSeq (dAsg (dBin fIx (dLst (aCons (dC (.int 10)) (aCons (dC (.int 100)) (aCons (dC (.int 4)) (aCons (dC (.int 1000)) (aCons (dBin fPow (dC (.int 10)) (dC (.int 28))) (aNil))))))) (dApp d_law_grind (aCons (dVar 1) (aCons (dC (.int 5)) (aNil))))) (gN 3))
    (d_law_r12)
noncomputable def d_law_r14 : SM :=
    dSeq (dAsg (dBin fIx (dLst (aCons (dC (.int 4)) (aCons (dC (.int 3)) (aCons (dC (.int 2)) (aCons (dC (.int 5)) (aCons (dC (.int 1)) (aCons (dC (.int 6)) (aCons (dC (.int 4)) (aCons (dC (.int 3)) (aCons (dC (.int 5)) (aCons (dC (.int 2)) (aCons (dC (.int 4)) (aCons (dC (.int 7)) (aCons (dC (.int 40)) (aNil))))))))))))))) (dApp d_law_grind (aCons (dVar 1) (aCons (dC (.int 13)) (aNil))))) (gN 2))
    (d_law_r13)
noncomputable def d_law_b : SM :=
    dSeq (dAsg (dApp d_law_mill (aCons (dVar 0) (aNil))) (gN 1))
    (d_law_r14)
noncomputable def d_law : List D → Sto → Out D := dFn 10 1 d_law_b
end K68

set_option Elab.async false
set_option linter.all false
set_option maxRecDepth 100000
set_option maxHeartbeats 4000000
set_option autoImplicit false
namespace K68
open PySem PySem.Spec PyProof.Rows L2 Sh
def topS (i : Nat) : Stmt := PySem.Challenge.pw_whichpass_k68_whole_weights.main.body.getD i (.Pass ⟨0, 0, 0, 0⟩)
abbrev FnP (K : PySem.W.Frag) (x : Str) (st : Stmt) (f : Addr) (fd : FuncData) : Prop := FunD K x x (defArgs st) (defBody st) (defScope st) [] [] f fd
structure Txt (mg : Str → Option Value) : Prop where
  b_all : mg "all" = none
  b_bool : mg "bool" = none
  b_enumerate : mg "enumerate" = none
  b_int : mg "int" = none
  b_isinstance : mg "isinstance" = none
  b_len : mg "len" = none
  b_list : mg "list" = none
  b_min : mg "min" = none
  b_range : mg "range" = none
  b_reversed : mg "reversed" = none
  b_tuple : mg "tuple" = none
section
variable {P : Program} {w : World} {K : PySem.W.Frag} {mg : Str → Option Value} {base : Heap}
abbrev s_is_integer : Stmt := topS 1
theorem sc_is_integer : FnScope ["thing"] ["thing"] (defScope s_is_integer) := ⟨rfl, rfl, rfl, by decide +kernel, rfl, by decide +kernel, by decide +kernel⟩
theorem bd_is_integer (T : Txt mg)  (cdv : Value) (A : Around) (outer : List PySem.Env) (s : Shared) (H : Hp) (E : XK) (f : Addr) (hr : Room 0 (A.deeper (envOfC "is_integer" (defScope s_is_integer) s.heap.objs.size f cdv)))
    (G : Good (cxOf (L2.CX P w) P w K mg base ["thing"] "is_integer" (defScope s_is_integer) f cdv A outer s H E) (fun c a _ H => E c a H)) : SimSs (cxOf (L2.CX P w) P w K mg base ["thing"] "is_integer" (defScope s_is_integer) f cdv A outer s H E) (fun c a _ H => E c a H) (defBody s_is_integer) d_is_integer_b :=
    (ss_one (s_ret (e_and (e_isi T.b_isinstance (e_var 0) (e_ty (by rfl) T.b_int PyProof.Rows.boot_int)) (e_one (e_not (e_isi T.b_isinstance (e_var 0) (e_ty (by rfl) T.b_bool PyProof.Rows.boot_bool)))))))
theorem fk_is_integer (T : Txt mg)  {f : Addr} {fd : FuncData} (F : FnP K "is_integer" s_is_integer f fd) : FnOk P w K mg base (L2.CX P w) 1 f fd ["thing"] (spOf K 1 d_is_integer) :=
  fn_sim (N := ["thing"]) (ps := ["thing"]) (k := 0) (m := d_is_integer_b) F sc_is_integer (fun cdv A outer s H E hr G => bd_is_integer T  cdv A outer s H E f hr G)
theorem ok_is_integer (T : Txt mg)  {f : Addr} {fd : FuncData} (F : FnP K "is_integer" s_is_integer f fd) (gm : mg "is_integer" = some (.ref f)) : Fn1 P w K mg base "is_integer" 1 ["thing"] d_is_integer :=
  ⟨f, fd, fk_is_integer T  F, gm, F.kp, F.bindsN (ps := ["thing"]) fun _ _ _ _ _ _ us hl => match us, hl with | [_], _ => rfl⟩
abbrev s_is_tuple : Stmt := topS 2
theorem sc_is_tuple : FnScope ["thing", "many"] ["thing", "many"] (defScope s_is_tuple) := ⟨rfl, rfl, rfl, by decide +kernel, rfl, by decide +kernel, by decide +kernel⟩
theorem bd_is_tuple (T : Txt mg)  (cdv : Value) (A : Around) (outer : List PySem.Env) (s : Shared) (H : Hp) (E : XK) (f : Addr) (hr : Room 0 (A.deeper (envOfC "is_tuple" (defScope s_is_tuple) s.heap.objs.size f cdv)))
    (G : Good (cxOf (L2.CX P w) P w K mg base ["thing", "many"] "is_tuple" (defScope s_is_tuple) f cdv A outer s H E) (fun c a _ H => E c a H)) : SimSs (cxOf (L2.CX P w) P w K mg base ["thing", "many"] "is_tuple" (defScope s_is_tuple) f cdv A outer s H E) (fun c a _ H => E c a H) (defBody s_is_tuple) d_is_tuple_b :=
    (ss_one (s_ret (e_and (e_isi T.b_isinstance (e_var 0) (e_ty (by rfl) T.b_tuple PyProof.Rows.boot_tuple)) (e_one (e_eq (e_len T.b_len (e_var 0)) (e_var 1))))))
theorem fk_is_tuple (T : Txt mg)  {f : Addr} {fd : FuncData} (F : FnP K "is_tuple" s_is_tuple f fd) : FnOk P w K mg base (L2.CX P w) 1 f fd ["thing", "many"] (spOf K 2 d_is_tuple) :=
  fn_sim (N := ["thing", "many"]) (ps := ["thing", "many"]) (k := 0) (m := d_is_tuple_b) F sc_is_tuple (fun cdv A outer s H E hr G => bd_is_tuple T  cdv A outer s H E f hr G)
theorem ok_is_tuple (T : Txt mg)  {f : Addr} {fd : FuncData} (F : FnP K "is_tuple" s_is_tuple f fd) (gm : mg "is_tuple" = some (.ref f)) : Fn1 P w K mg base "is_tuple" 1 ["thing", "many"] d_is_tuple :=
  ⟨f, fd, fk_is_tuple T  F, gm, F.kp, F.bindsN (ps := ["thing", "many"]) fun _ _ _ _ _ _ us hl => match us, hl with | [_, _], _ => rfl⟩
abbrev s_settle : Stmt := topS 4
theorem sc_settle : FnScope ["sums", "edges", "lowered", "place", "edge", "one", "other", "weight"] ["sums", "edges"] (defScope s_settle) := ⟨rfl, rfl, rfl, by decide +kernel, rfl, by decide +kernel, by decide +kernel⟩
theorem bd_settle (T : Txt mg)  (cdv : Value) (A : Around) (outer : List PySem.Env) (s : Shared) (H : Hp) (E : XK) (f : Addr) (hr : Room 0 (A.deeper (envOfC "settle" (defScope s_settle) s.heap.objs.size f cdv)))
    (G : Good (cxOf (L2.CX P w) P w K mg base ["sums", "edges", "lowered", "place", "edge", "one", "other", "weight"] "settle" (defScope s_settle) f cdv A outer s H E) (fun c a _ H => E c a H)) : SimSs (cxOf (L2.CX P w) P w K mg base ["sums", "edges", "lowered", "place", "edge", "one", "other", "weight"] "settle" (defScope s_settle) f cdv A outer s H E) (fun c a _ H => E c a H) (defBody s_settle) d_settle_b :=
    (ss_cons (s_asg e_dict (g_name 2 G.nd))
    (ss_cons (s_for G (i_enum T.b_enumerate (e_var 1)) (g_tup rfl (gs_cons (g_name 3 G.nd) (gs_cons (g_name 4 G.nd) gs_nil))) (ss_cons (s_asg (e_var 4) (g_tup rfl (gs_cons (g_name 5 G.nd) (gs_cons (g_name 6 G.nd) (gs_cons (g_name 7 G.nd) gs_nil)))))
    (ss_one (s_if (t_w (w_and (t_notN (e_sub_ (hu_of hr) (e_var 0) (e_var 5)) e_non) (w_and1 (t_w (w_or (t_isN (e_sub_ (hu_of hr) (e_var 0) (e_var 6)) e_non) (w_or1 (t_lt (e_add (e_sub_ (hu_of hr) (e_var 0) (e_var 5)) (e_var 7)) (e_sub_ (hu_of hr) (e_var 0) (e_var 6))))))))) (ss_cons (s_asg (e_add (e_sub_ (hu_of hr) (e_var 0) (e_var 5)) (e_var 7)) (g_sub (hu_of hr) (e_var 0) (e_var 6)))
    (ss_one (s_asg (e_var 3) (g_sub (hu_of hr) (e_var 2) (e_var 6))))) ss_nil))))
    (ss_one (s_ret (e_var 2)))))
theorem fk_settle (T : Txt mg)  {f : Addr} {fd : FuncData} (F : FnP K "settle" s_settle f fd) : FnOk P w K mg base (L2.CX P w) 1 f fd ["sums", "edges"] (spOf K 2 d_settle) :=
  fn_sim (N := ["sums", "edges", "lowered", "place", "edge", "one", "other", "weight"]) (ps := ["sums", "edges"]) (k := 0) (m := d_settle_b) F sc_settle (fun cdv A outer s H E hr G => bd_settle T  cdv A outer s H E f hr G)
theorem ok_settle (T : Txt mg)  {f : Addr} {fd : FuncData} (F : FnP K "settle" s_settle f fd) (gm : mg "settle" = some (.ref f)) : Fn1 P w K mg base "settle" 1 ["sums", "edges"] d_settle :=
  ⟨f, fd, fk_settle T  F, gm, F.kp, F.bindsN (ps := ["sums", "edges"]) fun _ _ _ _ _ _ us hl => match us, hl with | [_, _], _ => rfl⟩
abbrev s_round_through : Stmt := topS 5
theorem sc_round_through : FnScope ["edges", "ahead", "number", "met", "first", "found"] ["edges", "ahead", "number"] (defScope s_round_through) := ⟨rfl, rfl, rfl, by decide +kernel, rfl, by decide +kernel, by decide +kernel⟩
theorem bd_round_through (T : Txt mg)  (cdv : Value) (A : Around) (outer : List PySem.Env) (s : Shared) (H : Hp) (E : XK) (f : Addr) (hr : Room 0 (A.deeper (envOfC "round_through" (defScope s_round_through) s.heap.objs.size f cdv)))
    (G : Good (cxOf (L2.CX P w) P w K mg base ["edges", "ahead", "number", "met", "first", "found"] "round_through" (defScope s_round_through) f cdv A outer s H E) (fun c a _ H => E c a H)) : SimSs (cxOf (L2.CX P w) P w K mg base ["edges", "ahead", "number", "met", "first", "found"] "round_through" (defScope s_round_through) f cdv A outer s H E) (fun c a _ H => E c a H) (defBody s_round_through) d_round_through_b :=
    (ss_cons (s_asg (e_lst a_nil) (g_name 3 G.nd))
    (ss_cons (s_while G (t_notIn (hu_of hr) (e_var 2) (e_var 3)) (ss_cons (s_expr (e_append (e_var 3) (a_cons (e_var 2) a_nil)))
    (ss_one (s_asg (e_sub_ (hu_of hr) (e_sub_ (hu_of hr) (e_var 0) (e_sub_ (hu_of hr) (e_var 1) (e_var 2))) e_int) (g_name 2 G.nd)))))
    (ss_cons (s_asg (e_var 2) (g_name 4 G.nd))
    (ss_cons (s_asg (e_lst (a_cons (e_sub_ (hu_of hr) (e_var 1) (e_var 2)) a_nil)) (g_name 5 G.nd))
    (ss_cons (s_asg (e_sub_ (hu_of hr) (e_sub_ (hu_of hr) (e_var 0) (e_sub_ (hu_of hr) (e_var 1) (e_var 2))) e_int) (g_name 2 G.nd))
    (ss_cons (s_while G (t_ne (e_var 2) (e_var 4)) (ss_cons (s_expr (e_append (e_var 5) (a_cons (e_sub_ (hu_of hr) (e_var 1) (e_var 2)) a_nil)))
    (ss_one (s_asg (e_sub_ (hu_of hr) (e_sub_ (hu_of hr) (e_var 0) (e_sub_ (hu_of hr) (e_var 1) (e_var 2))) e_int) (g_name 2 G.nd)))))
    (ss_one (s_ret (e_tupRev rfl T.b_tuple T.b_reversed (e_var 5))))))))))
theorem fk_round_through (T : Txt mg)  {f : Addr} {fd : FuncData} (F : FnP K "round_through" s_round_through f fd) : FnOk P w K mg base (L2.CX P w) 1 f fd ["edges", "ahead", "number"] (spOf K 3 d_round_through) :=
  fn_sim (N := ["edges", "ahead", "number", "met", "first", "found"]) (ps := ["edges", "ahead", "number"]) (k := 0) (m := d_round_through_b) F sc_round_through (fun cdv A outer s H E hr G => bd_round_through T  cdv A outer s H E f hr G)
theorem ok_round_through (T : Txt mg)  {f : Addr} {fd : FuncData} (F : FnP K "round_through" s_round_through f fd) (gm : mg "round_through" = some (.ref f)) : Fn1 P w K mg base "round_through" 1 ["edges", "ahead", "number"] d_round_through :=
  ⟨f, fd, fk_round_through T  F, gm, F.kp, F.bindsN (ps := ["edges", "ahead", "number"]) fun _ _ _ _ _ _ us hl => match us, hl with | [_, _, _], _ => rfl⟩
abbrev s_falling_round : Stmt := topS 6
theorem sc_falling_round : FnScope ["many", "edges", "sums", "ahead", "lowered", "_", "number"] ["many", "edges"] (defScope s_falling_round) := ⟨rfl, rfl, rfl, by decide +kernel, rfl, by decide +kernel, by decide +kernel⟩
theorem bd_falling_round (T : Txt mg) (c_settle : Fn1 P w K mg base "settle" 1 ["sums", "edges"] d_settle) (c_round_through : Fn1 P w K mg base "round_through" 1 ["edges", "ahead", "number"] d_round_through) (cdv : Value) (A : Around) (outer : List PySem.Env) (s : Shared) (H : Hp) (E : XK) (f : Addr) (hr : Room 1 (A.deeper (envOfC "falling_round" (defScope s_falling_round) s.heap.objs.size f cdv)))
    (G : Good (cxOf (L2.CX P w) P w K mg base ["many", "edges", "sums", "ahead", "lowered", "_", "number"] "falling_round" (defScope s_falling_round) f cdv A outer s H E) (fun c a _ H => E c a H)) : SimSs (cxOf (L2.CX P w) P w K mg base ["many", "edges", "sums", "ahead", "lowered", "_", "number"] "falling_round" (defScope s_falling_round) f cdv A outer s H E) (fun c a _ H => E c a H) (defBody s_falling_round) d_falling_round_b :=
    (ss_cons (s_setLc (own := [("_", 5)]) 2 G (i_range1 T.b_range (e_var 0)) (blkOk_by (by kernel_rfl)) (ctg_name (by decide)) (fun _ _ _ _ _ => pg_name (i := 5) G.nd rfl (Or.inl rfl)) (fun _ _ _ _ _ => ts_nil) (fun s1 H1 C1 cl1 fp1 => e_int))
    (ss_cons (s_asg e_dict (g_name 3 G.nd))
    (ss_cons (s_asg e_dict (g_name 4 G.nd))
    (ss_cons (s_for G (i_range1 T.b_range (e_add (e_var 0) e_int)) (g_name 5 G.nd) (ss_cons (s_asg (e_fn G c_settle ar_fn (hr.mono (by decide)) (a_cons (e_var 2) (a_cons (e_var 1) a_nil))) (g_name 4 G.nd))
    (ss_one (s_forD 4 G (g_name 6 G.nd) (ss_one (s_asg (e_sub_ (hu_of hr) (e_var 4) (e_var 6)) (g_sub (hu_of hr) (e_var 3) (e_var 6))))))))
    (ss_cons (s_forD 4 G (g_name 6 G.nd) (ss_one (s_ret (e_fn G c_round_through ar_fn (hr.mono (by decide)) (a_cons (e_var 1) (a_cons (e_var 3) (a_cons (e_var 6) a_nil)))))))
    (ss_one (s_ret e_non)))))))
theorem fk_falling_round (T : Txt mg) (c_settle : Fn1 P w K mg base "settle" 1 ["sums", "edges"] d_settle) (c_round_through : Fn1 P w K mg base "round_through" 1 ["edges", "ahead", "number"] d_round_through) {f : Addr} {fd : FuncData} (F : FnP K "falling_round" s_falling_round f fd) : FnOk P w K mg base (L2.CX P w) 2 f fd ["many", "edges"] (spOf K 2 d_falling_round) :=
  fn_sim (N := ["many", "edges", "sums", "ahead", "lowered", "_", "number"]) (ps := ["many", "edges"]) (k := 1) (m := d_falling_round_b) F sc_falling_round (fun cdv A outer s H E hr G => bd_falling_round T c_settle c_round_through cdv A outer s H E f hr G)
theorem ok_falling_round (T : Txt mg) (c_settle : Fn1 P w K mg base "settle" 1 ["sums", "edges"] d_settle) (c_round_through : Fn1 P w K mg base "round_through" 1 ["edges", "ahead", "number"] d_round_through) {f : Addr} {fd : FuncData} (F : FnP K "falling_round" s_falling_round f fd) (gm : mg "falling_round" = some (.ref f)) : Fn1 P w K mg base "falling_round" 2 ["many", "edges"] d_falling_round :=
  ⟨f, fd, fk_falling_round T c_settle c_round_through F, gm, F.kp, F.bindsN (ps := ["many", "edges"]) fun _ _ _ _ _ _ us hl => match us, hl with | [_, _], _ => rfl⟩
abbrev s_least_ways : Stmt := topS 7
theorem sc_least_ways : FnScope ["many", "edges", "start", "sums", "changed", "_"] ["many", "edges", "start"] (defScope s_least_ways) := ⟨rfl, rfl, rfl, by decide +kernel, rfl, by decide +kernel, by decide +kernel⟩
theorem bd_least_ways (T : Txt mg) (c_settle : Fn1 P w K mg base "settle" 1 ["sums", "edges"] d_settle) (cdv : Value) (A : Around) (outer : List PySem.Env) (s : Shared) (H : Hp) (E : XK) (f : Addr) (hr : Room 1 (A.deeper (envOfC "least_ways" (defScope s_least_ways) s.heap.objs.size f cdv)))
    (G : Good (cxOf (L2.CX P w) P w K mg base ["many", "edges", "start", "sums", "changed", "_"] "least_ways" (defScope s_least_ways) f cdv A outer s H E) (fun c a _ H => E c a H)) : SimSs (cxOf (L2.CX P w) P w K mg base ["many", "edges", "start", "sums", "changed", "_"] "least_ways" (defScope s_least_ways) f cdv A outer s H E) (fun c a _ H => E c a H) (defBody s_least_ways) d_least_ways_b :=
    (ss_cons (s_setLc (own := [("_", 5)]) 3 G (i_range1 T.b_range (e_var 0)) (blkOk_by (by kernel_rfl)) (ctg_name (by decide)) (fun _ _ _ _ _ => pg_name (i := 5) G.nd rfl (Or.inl rfl)) (fun _ _ _ _ _ => ts_nil) (fun s1 H1 C1 cl1 fp1 => e_non))
    (ss_cons (s_asg e_int (g_sub (hu_of hr) (e_var 3) (e_var 2)))
    (ss_cons (s_asg e_bl (g_name 4 G.nd))
    (ss_cons (s_while G (t_tru (e_var 4)) (ss_one (s_asg (e_gt (e_len T.b_len (e_fn G c_settle ar_fn (hr.mono (by decide)) (a_cons (e_var 3) (a_cons (e_var 1) a_nil)))) e_int) (g_name 4 G.nd))))
    (ss_one (s_ret (e_tuple T.b_tuple (e_var 3))))))))
theorem fk_least_ways (T : Txt mg) (c_settle : Fn1 P w K mg base "settle" 1 ["sums", "edges"] d_settle) {f : Addr} {fd : FuncData} (F : FnP K "least_ways" s_least_ways f fd) : FnOk P w K mg base (L2.CX P w) 2 f fd ["many", "edges", "start"] (spOf K 3 d_least_ways) :=
  fn_sim (N := ["many", "edges", "start", "sums", "changed", "_"]) (ps := ["many", "edges", "start"]) (k := 1) (m := d_least_ways_b) F sc_least_ways (fun cdv A outer s H E hr G => bd_least_ways T c_settle cdv A outer s H E f hr G)
theorem ok_least_ways (T : Txt mg) (c_settle : Fn1 P w K mg base "settle" 1 ["sums", "edges"] d_settle) {f : Addr} {fd : FuncData} (F : FnP K "least_ways" s_least_ways f fd) (gm : mg "least_ways" = some (.ref f)) : Fn1 P w K mg base "least_ways" 2 ["many", "edges", "start"] d_least_ways :=
  ⟨f, fd, fk_least_ways T c_settle F, gm, F.kp, F.bindsN (ps := ["many", "edges", "start"]) fun _ _ _ _ _ _ us hl => match us, hl with | [_, _, _], _ => rfl⟩
abbrev s_is_potentials : Stmt := topS 8
theorem sc_is_potentials : FnScope ["many", "edges", "thing", "number", "one", "other", "weight"] ["many", "edges", "thing"] (defScope s_is_potentials) := ⟨rfl, rfl, rfl, by decide +kernel, rfl, by decide +kernel, by decide +kernel⟩
theorem bd_is_potentials (T : Txt mg) (c_is_tuple : Fn1 P w K mg base "is_tuple" 1 ["thing", "many"] d_is_tuple) (c_is_integer : Fn1 P w K mg base "is_integer" 1 ["thing"] d_is_integer) (cdv : Value) (A : Around) (outer : List PySem.Env) (s : Shared) (H : Hp) (E : XK) (f : Addr) (hr : Room 1 (A.deeper (envOfC "is_potentials" (defScope s_is_potentials) s.heap.objs.size f cdv)))
    (G : Good (cxOf (L2.CX P w) P w K mg base ["many", "edges", "thing", "number", "one", "other", "weight"] "is_potentials" (defScope s_is_potentials) f cdv A outer s H E) (fun c a _ H => E c a H)) : SimSs (cxOf (L2.CX P w) P w K mg base ["many", "edges", "thing", "number", "one", "other", "weight"] "is_potentials" (defScope s_is_potentials) f cdv A outer s H E) (fun c a _ H => E c a H) (defBody s_is_potentials) d_is_potentials_b :=
    (ss_cons (s_if (t_w (w_or (t_not (t_tru (e_fn G c_is_tuple ar_fn (hr.mono (by decide)) (a_cons (e_var 2) (a_cons (e_var 0) a_nil))))) (w_or1 (t_not (t_tru (e_all rfl T.b_all (e_lc (own := [("number", 3)]) G (i_seq (e_var 2)) (blkOk_by (by kernel_rfl)) (ctg_name (by decide)) (fun _ _ _ _ _ => pg_name (i := 3) G.nd rfl (Or.inl rfl)) (fun _ _ _ _ _ => ts_nil) (fun s1 H1 C1 cl1 fp1 => (e_fn (Good.blk G s1 H1 C1 cl1 fp1) c_is_integer ar_fn (hr.mono (by decide)) (a_cons (e_var 3) a_nil)))))))))) (ss_one (s_ret e_bl)) ss_nil)
    (ss_one (s_ret (e_all rfl T.b_all (e_lc (own := [("one", 4), ("other", 5), ("weight", 6)]) G (i_seq (e_var 1)) (blkOk_by (by kernel_rfl)) (ctg_names (js := [4, 5, 6]) (by decide)) (fun _ _ _ _ _ => pg_tup rfl (pgs_cons (pg_name (i := 4) G.nd rfl (Or.inl rfl)) (pgs_cons (pg_name (i := 5) G.nd rfl (Or.inl rfl)) (pgs_cons (pg_name (i := 6) G.nd rfl (Or.inl rfl)) pgs_nil)))) (fun _ _ _ _ _ => ts_nil) (fun s1 H1 C1 cl1 fp1 => (e_ge (e_add (e_sub_ (hu_of hr) (e_var 2) (e_var 4)) (e_var 6)) (e_sub_ (hu_of hr) (e_var 2) (e_var 5)))))))))
theorem fk_is_potentials (T : Txt mg) (c_is_tuple : Fn1 P w K mg base "is_tuple" 1 ["thing", "many"] d_is_tuple) (c_is_integer : Fn1 P w K mg base "is_integer" 1 ["thing"] d_is_integer) {f : Addr} {fd : FuncData} (F : FnP K "is_potentials" s_is_potentials f fd) : FnOk P w K mg base (L2.CX P w) 2 f fd ["many", "edges", "thing"] (spOf K 3 d_is_potentials) :=
  fn_sim (N := ["many", "edges", "thing", "number", "one", "other", "weight"]) (ps := ["many", "edges", "thing"]) (k := 1) (m := d_is_potentials_b) F sc_is_potentials (fun cdv A outer s H E hr G => bd_is_potentials T c_is_tuple c_is_integer cdv A outer s H E f hr G)
theorem ok_is_potentials (T : Txt mg) (c_is_tuple : Fn1 P w K mg base "is_tuple" 1 ["thing", "many"] d_is_tuple) (c_is_integer : Fn1 P w K mg base "is_integer" 1 ["thing"] d_is_integer) {f : Addr} {fd : FuncData} (F : FnP K "is_potentials" s_is_potentials f fd) (gm : mg "is_potentials" = some (.ref f)) : Fn1 P w K mg base "is_potentials" 2 ["many", "edges", "thing"] d_is_potentials :=
  ⟨f, fd, fk_is_potentials T c_is_tuple c_is_integer F, gm, F.kp, F.bindsN (ps := ["many", "edges", "thing"]) fun _ _ _ _ _ _ us hl => match us, hl with | [_, _, _], _ => rfl⟩
abbrev s_law_mill : Stmt := topS 10
theorem sc_law_mill : FnScope ["script", "wide", "corn", "cell"] ["script"] (defScope s_law_mill) := ⟨rfl, rfl, rfl, by decide +kernel, rfl, by decide +kernel, by decide +kernel⟩
theorem bd_law_mill (T : Txt mg)  (cdv : Value) (A : Around) (outer : List PySem.Env) (s : Shared) (H : Hp) (E : XK) (f : Addr) (hr : Room 0 (A.deeper (envOfC "_law_mill" (defScope s_law_mill) s.heap.objs.size f cdv)))
    (G : Good (cxOf (L2.CX P w) P w K mg base ["script", "wide", "corn", "cell"] "_law_mill" (defScope s_law_mill) f cdv A outer s H E) (fun c a _ H => E c a H)) : SimSs (cxOf (L2.CX P w) P w K mg base ["script", "wide", "corn", "cell"] "_law_mill" (defScope s_law_mill) f cdv A outer s H E) (fun c a _ H => E c a H) (defBody s_law_mill) d_law_mill_b :=
    (ss_cons (s_setLc (own := [("cell", 3)]) 1 G (i_seq (e_var 0)) (blkOk_by (by kernel_rfl)) (ctg_name (by decide)) (fun _ _ _ _ _ => pg_name (i := 3) G.nd rfl (Or.inl rfl)) (fun s1 H1 C1 cl1 fp1 => ts_one (t_w (w_or (t_ge (e_var 3) (e_pow e_int e_int)) (w_or1 (t_le (e_var 3) (e_neg (e_pow e_int e_int))))))) (fun s1 H1 C1 cl1 fp1 => (e_if (t_ge (e_var 3) e_int) (e_var 3) (e_neg (e_var 3)))))
    (ss_cons (s_asg (e_add (e_lc (own := [("cell", 3)]) G (i_seq (e_var 0)) (blkOk_by (by kernel_rfl)) (ctg_name (by decide)) (fun _ _ _ _ _ => pg_name (i := 3) G.nd rfl (Or.inl rfl)) (fun _ _ _ _ _ => ts_nil) (fun s1 H1 C1 cl1 fp1 => (e_mod (e_intc T.b_int (e_var 3)) e_int))) (e_lst (a_cons e_int a_nil))) (g_name 2 G.nd))
    (ss_one (s_ret (e_lst (a_cons (e_var 2) (a_cons (e_var 1) (a_cons e_int (a_cons e_int (a_cons e_int a_nil))))))))))
theorem fk_law_mill (T : Txt mg)  {f : Addr} {fd : FuncData} (F : FnP K "_law_mill" s_law_mill f fd) : FnOk P w K mg base (L2.CX P w) 1 f fd ["script"] (spOf K 1 d_law_mill) :=
  fn_sim (N := ["script", "wide", "corn", "cell"]) (ps := ["script"]) (k := 0) (m := d_law_mill_b) F sc_law_mill (fun cdv A outer s H E hr G => bd_law_mill T  cdv A outer s H E f hr G)
theorem ok_law_mill (T : Txt mg)  {f : Addr} {fd : FuncData} (F : FnP K "_law_mill" s_law_mill f fd) (gm : mg "_law_mill" = some (.ref f)) : Fn1 P w K mg base "_law_mill" 1 ["script"] d_law_mill :=
  ⟨f, fd, fk_law_mill T  F, gm, F.kp, F.bindsN (ps := ["script"]) fun _ _ _ _ _ _ us hl => match us, hl with | [_], _ => rfl⟩
abbrev s_law_grind : Stmt := topS 11
theorem sc_law_grind : FnScope ["mill", "many", "told", "lap", "cell", "first", "other"] ["mill", "many"] (defScope s_law_grind) := ⟨rfl, rfl, rfl, by decide +kernel, rfl, by decide +kernel, by decide +kernel⟩
theorem bd_law_grind (T : Txt mg)  (cdv : Value) (A : Around) (outer : List PySem.Env) (s : Shared) (H : Hp) (E : XK) (f : Addr) (hr : Room 0 (A.deeper (envOfC "_law_grind" (defScope s_law_grind) s.heap.objs.size f cdv)))
    (G : Good (cxOf (L2.CX P w) P w K mg base ["mill", "many", "told", "lap", "cell", "first", "other"] "_law_grind" (defScope s_law_grind) f cdv A outer s H E) (fun c a _ H => E c a H)) : SimSs (cxOf (L2.CX P w) P w K mg base ["mill", "many", "told", "lap", "cell", "first", "other"] "_law_grind" (defScope s_law_grind) f cdv A outer s H E) (fun c a _ H => E c a H) (defBody s_law_grind) d_law_grind_b :=
    (ss_cons (s_asg (e_add (e_sub_ (hu_of hr) (e_var 0) e_int) e_int) (g_sub (hu_of hr) (e_var 0) e_int))
    (ss_cons (s_if (t_w (w_and (t_eq (e_sub_ (hu_of hr) (e_var 0) e_int) e_int) (w_and1 (t_lt (e_sub_ (hu_of hr) (e_var 0) e_int) (e_len T.b_len (e_sub_ (hu_of hr) (e_var 0) e_int)))))) (ss_cons (s_asg (e_sub_ (hu_of hr) (e_sub_ (hu_of hr) (e_var 0) e_int) (e_sub_ (hu_of hr) (e_var 0) e_int)) (g_sub (hu_of hr) (e_var 0) e_int))
    (ss_one (s_asg (e_add (e_sub_ (hu_of hr) (e_var 0) e_int) e_int) (g_sub (hu_of hr) (e_var 0) e_int)))) ss_nil)
    (ss_cons (s_if (t_gt (e_sub_ (hu_of hr) (e_var 0) e_int) e_int) (ss_cons (s_asg (e_mod (e_intc T.b_int (e_sub_ (hu_of hr) (e_var 0) e_int)) (e_var 1)) (g_name 2 G.nd))
    (ss_cons (s_asg (e_div (e_sub_ (hu_of hr) (e_var 0) e_int) (e_var 1)) (g_sub (hu_of hr) (e_var 0) e_int))
    (ss_one (s_ret (e_var 2))))) ss_nil)
    (ss_cons (s_asg (e_sub_ (hu_of hr) (e_var 0) e_int) (g_name 3 G.nd))
    (ss_cons (s_asg (e_sub_ (hu_of hr) (e_sub_ (hu_of hr) (e_var 0) e_int) (e_mod (e_intc T.b_int (e_add (e_mul (e_var 3) e_int) e_int)) (e_len T.b_len (e_sub_ (hu_of hr) (e_var 0) e_int)))) (g_name 4 G.nd))
    (ss_cons (s_asg (e_mod (e_intc T.b_int (e_add (e_add (e_mul (e_var 4) e_int) (e_mul (e_var 3) e_int)) e_int)) e_int) (g_name 5 G.nd))
    (ss_cons (s_asg (e_mod (e_intc T.b_int (e_add (e_add (e_mul (e_var 5) (e_var 5)) (e_mul (e_var 3) e_int)) (e_mul (e_var 4) e_int))) e_int) (g_name 6 G.nd))
    (ss_one (s_ret (e_mod (e_intc T.b_int (e_div (e_var 6) e_int)) (e_var 1)))))))))))
theorem fk_law_grind (T : Txt mg)  {f : Addr} {fd : FuncData} (F : FnP K "_law_grind" s_law_grind f fd) : FnOk P w K mg base (L2.CX P w) 1 f fd ["mill", "many"] (spOf K 2 d_law_grind) :=
  fn_sim (N := ["mill", "many", "told", "lap", "cell", "first", "other"]) (ps := ["mill", "many"]) (k := 0) (m := d_law_grind_b) F sc_law_grind (fun cdv A outer s H E hr G => bd_law_grind T  cdv A outer s H E f hr G)
theorem ok_law_grind (T : Txt mg)  {f : Addr} {fd : FuncData} (F : FnP K "_law_grind" s_law_grind f fd) (gm : mg "_law_grind" = some (.ref f)) : Fn1 P w K mg base "_law_grind" 1 ["mill", "many"] d_law_grind :=
  ⟨f, fd, fk_law_grind T  F, gm, F.kp, F.bindsN (ps := ["mill", "many"]) fun _ _ _ _ _ _ us hl => match us, hl with | [_, _], _ => rfl⟩
abbrev s_law_number : Stmt := topS 12
theorem sc_law_number : FnScope ["told"] ["told"] (defScope s_law_number) := ⟨rfl, rfl, rfl, by decide +kernel, rfl, by decide +kernel, by decide +kernel⟩
theorem bd_law_number (T : Txt mg)  (cdv : Value) (A : Around) (outer : List PySem.Env) (s : Shared) (H : Hp) (E : XK) (f : Addr) (hr : Room 0 (A.deeper (envOfC "_law_number" (defScope s_law_number) s.heap.objs.size f cdv)))
    (G : Good (cxOf (L2.CX P w) P w K mg base ["told"] "_law_number" (defScope s_law_number) f cdv A outer s H E) (fun c a _ H => E c a H)) : SimSs (cxOf (L2.CX P w) P w K mg base ["told"] "_law_number" (defScope s_law_number) f cdv A outer s H E) (fun c a _ H => E c a H) (defBody s_law_number) d_law_number_b :=
    (ss_one (s_ret (e_and (e_isi T.b_isinstance (e_var 0) (e_ty (by rfl) T.b_int PyProof.Rows.boot_int)) (e_one (e_not (e_isi T.b_isinstance (e_var 0) (e_ty (by rfl) T.b_bool PyProof.Rows.boot_bool)))))))
theorem fk_law_number (T : Txt mg)  {f : Addr} {fd : FuncData} (F : FnP K "_law_number" s_law_number f fd) : FnOk P w K mg base (L2.CX P w) 1 f fd ["told"] (spOf K 1 d_law_number) :=
  fn_sim (N := ["told"]) (ps := ["told"]) (k := 0) (m := d_law_number_b) F sc_law_number (fun cdv A outer s H E hr G => bd_law_number T  cdv A outer s H E f hr G)
theorem ok_law_number (T : Txt mg)  {f : Addr} {fd : FuncData} (F : FnP K "_law_number" s_law_number f fd) (gm : mg "_law_number" = some (.ref f)) : Fn1 P w K mg base "_law_number" 1 ["told"] d_law_number :=
  ⟨f, fd, fk_law_number T  F, gm, F.kp, F.bindsN (ps := ["told"]) fun _ _ _ _ _ _ us hl => match us, hl with | [_], _ => rfl⟩
abbrev s_law_same : Stmt := topS 13
theorem sc_law_same : FnScope ["told", "due", "k"] ["told", "due"] (defScope s_law_same) := ⟨rfl, rfl, rfl, by decide +kernel, rfl, by decide +kernel, by decide +kernel⟩
theorem bd_law_same (T : Txt mg) (c_law_number : Fn1 P w K mg base "_law_number" 1 ["told"] d_law_number) (cdv : Value) (A : Around) (outer : List PySem.Env) (s : Shared) (H : Hp) (E : XK) (f : Addr) (hr : Room 1 (A.deeper (envOfC "_law_same" (defScope s_law_same) s.heap.objs.size f cdv)))
    (G : Good (cxOf (L2.CX P w) P w K mg base ["told", "due", "k"] "_law_same" (defScope s_law_same) f cdv A outer s H E) (fun c a _ H => E c a H)) : SimSs (cxOf (L2.CX P w) P w K mg base ["told", "due", "k"] "_law_same" (defScope s_law_same) f cdv A outer s H E) (fun c a _ H => E c a H) (defBody s_law_same) d_law_same_b :=
    (ss_cons (s_if (t_w (w_or (t_not (t_tru (e_isi T.b_isinstance (e_var 0) (e_ty (by rfl) T.b_tuple PyProof.Rows.boot_tuple)))) (w_or1 (t_ne (e_len T.b_len (e_var 0)) (e_len T.b_len (e_var 1)))))) (ss_one (s_ret e_bl)) ss_nil)
    (ss_cons (s_for G (i_range1 T.b_range (e_len T.b_len (e_var 1))) (g_name 2 G.nd) (ss_one (s_if (t_isN (e_sub_ (hu_of hr) (e_var 1) (e_var 2)) e_non) (ss_one (s_if (t_notN (e_sub_ (hu_of hr) (e_var 0) (e_var 2)) e_non) (ss_one (s_ret e_bl)) ss_nil)) (ss_one (s_if (t_w (w_or (t_not (t_tru (e_fn G c_law_number ar_fn (hr.mono (by decide)) (a_cons (e_sub_ (hu_of hr) (e_var 0) (e_var 2)) a_nil)))) (w_or1 (t_ne (e_sub_ (hu_of hr) (e_var 0) (e_var 2)) (e_sub_ (hu_of hr) (e_var 1) (e_var 2)))))) (ss_one (s_ret e_bl)) ss_nil)))))
    (ss_one (s_ret e_bl))))
theorem fk_law_same (T : Txt mg) (c_law_number : Fn1 P w K mg base "_law_number" 1 ["told"] d_law_number) {f : Addr} {fd : FuncData} (F : FnP K "_law_same" s_law_same f fd) : FnOk P w K mg base (L2.CX P w) 2 f fd ["told", "due"] (spOf K 2 d_law_same) :=
  fn_sim (N := ["told", "due", "k"]) (ps := ["told", "due"]) (k := 1) (m := d_law_same_b) F sc_law_same (fun cdv A outer s H E hr G => bd_law_same T c_law_number cdv A outer s H E f hr G)
theorem ok_law_same (T : Txt mg) (c_law_number : Fn1 P w K mg base "_law_number" 1 ["told"] d_law_number) {f : Addr} {fd : FuncData} (F : FnP K "_law_same" s_law_same f fd) (gm : mg "_law_same" = some (.ref f)) : Fn1 P w K mg base "_law_same" 2 ["told", "due"] d_law_same :=
  ⟨f, fd, fk_law_same T c_law_number F, gm, F.kp, F.bindsN (ps := ["told", "due"]) fun _ _ _ _ _ _ us hl => match us, hl with | [_, _], _ => rfl⟩
abbrev s_law_falls : Stmt := topS 14
theorem sc_law_falls : FnScope ["told", "edges", "seen", "total", "place", "k"] ["told", "edges"] (defScope s_law_falls) := ⟨rfl, rfl, rfl, by decide +kernel, rfl, by decide +kernel, by decide +kernel⟩
theorem bd_law_falls (T : Txt mg) (c_law_number : Fn1 P w K mg base "_law_number" 1 ["told"] d_law_number) (cdv : Value) (A : Around) (outer : List PySem.Env) (s : Shared) (H : Hp) (E : XK) (f : Addr) (hr : Room 1 (A.deeper (envOfC "_law_falls" (defScope s_law_falls) s.heap.objs.size f cdv)))
    (G : Good (cxOf (L2.CX P w) P w K mg base ["told", "edges", "seen", "total", "place", "k"] "_law_falls" (defScope s_law_falls) f cdv A outer s H E) (fun c a _ H => E c a H)) : SimSs (cxOf (L2.CX P w) P w K mg base ["told", "edges", "seen", "total", "place", "k"] "_law_falls" (defScope s_law_falls) f cdv A outer s H E) (fun c a _ H => E c a H) (defBody s_law_falls) d_law_falls_b :=
    (ss_cons (s_if (t_w (w_or (t_not (t_tru (e_isi T.b_isinstance (e_var 0) (e_ty (by rfl) T.b_tuple PyProof.Rows.boot_tuple)))) (w_or (t_eq (e_len T.b_len (e_var 0)) e_int) (w_or1 (t_gt (e_len T.b_len (e_var 0)) (e_len T.b_len (e_var 1))))))) (ss_one (s_ret e_bl)) ss_nil)
    (ss_cons (s_asg (e_lst a_nil) (g_name 2 G.nd))
    (ss_cons (s_asg e_int (g_name 3 G.nd))
    (ss_cons (s_for G (i_seq (e_var 0)) (g_name 4 G.nd) (ss_cons (s_if (t_w (w_or (t_not (t_tru (e_fn G c_law_number ar_fn (hr.mono (by decide)) (a_cons (e_var 4) a_nil)))) (w_or (t_lt (e_var 4) e_int) (w_or (t_ge (e_var 4) (e_len T.b_len (e_var 1))) (w_or1 (t_in (hu_of hr) (e_var 4) (e_var 2))))))) (ss_one (s_ret e_bl)) ss_nil)
    (ss_cons (s_expr (e_append (e_var 2) (a_cons (e_var 4) a_nil)))
    (ss_one (s_asg (e_add (e_var 3) (e_sub_ (hu_of hr) (e_sub_ (hu_of hr) (e_var 1) (e_var 4)) e_int)) (g_name 3 G.nd))))))
    (ss_cons (s_for G (i_range1 T.b_range (e_len T.b_len (e_var 2))) (g_name 5 G.nd) (ss_one (s_if (t_ne (e_sub_ (hu_of hr) (e_sub_ (hu_of hr) (e_var 1) (e_sub_ (hu_of hr) (e_var 2) (e_sub (e_var 5) e_int))) e_int) (e_sub_ (hu_of hr) (e_sub_ (hu_of hr) (e_var 1) (e_sub_ (hu_of hr) (e_var 2) (e_var 5))) e_int)) (ss_one (s_ret e_bl)) ss_nil)))
    (ss_one (s_ret (e_lt (e_var 3) e_int))))))))
theorem fk_law_falls (T : Txt mg) (c_law_number : Fn1 P w K mg base "_law_number" 1 ["told"] d_law_number) {f : Addr} {fd : FuncData} (F : FnP K "_law_falls" s_law_falls f fd) : FnOk P w K mg base (L2.CX P w) 2 f fd ["told", "edges"] (spOf K 2 d_law_falls) :=
  fn_sim (N := ["told", "edges", "seen", "total", "place", "k"]) (ps := ["told", "edges"]) (k := 1) (m := d_law_falls_b) F sc_law_falls (fun cdv A outer s H E hr G => bd_law_falls T c_law_number cdv A outer s H E f hr G)
theorem ok_law_falls (T : Txt mg) (c_law_number : Fn1 P w K mg base "_law_number" 1 ["told"] d_law_number) {f : Addr} {fd : FuncData} (F : FnP K "_law_falls" s_law_falls f fd) (gm : mg "_law_falls" = some (.ref f)) : Fn1 P w K mg base "_law_falls" 2 ["told", "edges"] d_law_falls :=
  ⟨f, fd, fk_law_falls T c_law_number F, gm, F.kp, F.bindsN (ps := ["told", "edges"]) fun _ _ _ _ _ _ us hl => match us, hl with | [_, _], _ => rfl⟩
abbrev s_law_ways : Stmt := topS 15
theorem sc_law_ways : FnScope ["many", "edges", "start", "ways", "lap", "still", "edge", "now", "k"] ["many", "edges", "start"] (defScope s_law_ways) := ⟨rfl, rfl, rfl, by decide +kernel, rfl, by decide +kernel, by decide +kernel⟩
theorem bd_law_ways (T : Txt mg)  (cdv : Value) (A : Around) (outer : List PySem.Env) (s : Shared) (H : Hp) (E : XK) (f : Addr) (hr : Room 0 (A.deeper (envOfC "_law_ways" (defScope s_law_ways) s.heap.objs.size f cdv)))
    (G : Good (cxOf (L2.CX P w) P w K mg base ["many", "edges", "start", "ways", "lap", "still", "edge", "now", "k"] "_law_ways" (defScope s_law_ways) f cdv A outer s H E) (fun c a _ H => E c a H)) : SimSs (cxOf (L2.CX P w) P w K mg base ["many", "edges", "start", "ways", "lap", "still", "edge", "now", "k"] "_law_ways" (defScope s_law_ways) f cdv A outer s H E) (fun c a _ H => E c a H) (defBody s_law_ways) d_law_ways_b :=
    (ss_cons (s_setLc (own := [("k", 8)]) 3 G (i_range1 T.b_range (e_var 0)) (blkOk_by (by kernel_rfl)) (ctg_name (by decide)) (fun _ _ _ _ _ => pg_name (i := 8) G.nd rfl (Or.inl rfl)) (fun _ _ _ _ _ => ts_nil) (fun s1 H1 C1 cl1 fp1 => (e_if (t_w (w_and (t_ne (e_var 8) (e_var 2)) (w_and1 (t_ge (e_var 2) e_int)))) e_non e_int)))
    (ss_cons (s_for G (i_range1 T.b_range (e_add (e_var 0) e_int)) (g_name 4 G.nd) (ss_cons (s_asg e_bl (g_name 5 G.nd))
    (ss_cons (s_for G (i_seq (e_var 1)) (g_name 6 G.nd) (ss_one (s_if (t_notN (e_sub_ (hu_of hr) (e_var 3) (e_sub_ (hu_of hr) (e_var 6) e_int)) e_non) (ss_cons (s_asg (e_add (e_sub_ (hu_of hr) (e_var 3) (e_sub_ (hu_of hr) (e_var 6) e_int)) (e_sub_ (hu_of hr) (e_var 6) e_int)) (g_name 7 G.nd))
    (ss_one (s_if (t_w (w_or (t_isN (e_sub_ (hu_of hr) (e_var 3) (e_sub_ (hu_of hr) (e_var 6) e_int)) e_non) (w_or1 (t_lt (e_var 7) (e_sub_ (hu_of hr) (e_var 3) (e_sub_ (hu_of hr) (e_var 6) e_int)))))) (ss_cons (s_asg (e_var 7) (g_sub (hu_of hr) (e_var 3) (e_sub_ (hu_of hr) (e_var 6) e_int)))
    (ss_one (s_asg e_bl (g_name 5 G.nd)))) ss_nil))) ss_nil)))
    (ss_one (s_if (t_tru (e_var 5)) (ss_one (s_ret (e_var 3))) ss_nil)))))
    (ss_one (s_ret e_non))))
theorem fk_law_ways (T : Txt mg)  {f : Addr} {fd : FuncData} (F : FnP K "_law_ways" s_law_ways f fd) : FnOk P w K mg base (L2.CX P w) 1 f fd ["many", "edges", "start"] (spOf K 3 d_law_ways) :=
  fn_sim (N := ["many", "edges", "start", "ways", "lap", "still", "edge", "now", "k"]) (ps := ["many", "edges", "start"]) (k := 0) (m := d_law_ways_b) F sc_law_ways (fun cdv A outer s H E hr G => bd_law_ways T  cdv A outer s H E f hr G)
theorem ok_law_ways (T : Txt mg)  {f : Addr} {fd : FuncData} (F : FnP K "_law_ways" s_law_ways f fd) (gm : mg "_law_ways" = some (.ref f)) : Fn1 P w K mg base "_law_ways" 1 ["many", "edges", "start"] d_law_ways :=
  ⟨f, fd, fk_law_ways T  F, gm, F.kp, F.bindsN (ps := ["many", "edges", "start"]) fun _ _ _ _ _ _ us hl => match us, hl with | [_, _, _], _ => rfl⟩
abbrev s_law_fits : Stmt := topS 16
theorem sc_law_fits : FnScope ["edges", "heights", "edge"] ["edges", "heights"] (defScope s_law_fits) := ⟨rfl, rfl, rfl, by decide +kernel, rfl, by decide +kernel, by decide +kernel⟩
theorem bd_law_fits (T : Txt mg)  (cdv : Value) (A : Around) (outer : List PySem.Env) (s : Shared) (H : Hp) (E : XK) (f : Addr) (hr : Room 0 (A.deeper (envOfC "_law_fits" (defScope s_law_fits) s.heap.objs.size f cdv)))
    (G : Good (cxOf (L2.CX P w) P w K mg base ["edges", "heights", "edge"] "_law_fits" (defScope s_law_fits) f cdv A outer s H E) (fun c a _ H => E c a H)) : SimSs (cxOf (L2.CX P w) P w K mg base ["edges", "heights", "edge"] "_law_fits" (defScope s_law_fits) f cdv A outer s H E) (fun c a _ H => E c a H) (defBody s_law_fits) d_law_fits_b :=
    (ss_cons (s_for G (i_seq (e_var 0)) (g_name 2 G.nd) (ss_one (s_if (t_lt (e_add (e_sub_ (hu_of hr) (e_var 1) (e_sub_ (hu_of hr) (e_var 2) e_int)) (e_sub_ (hu_of hr) (e_var 2) e_int)) (e_sub_ (hu_of hr) (e_var 1) (e_sub_ (hu_of hr) (e_var 2) e_int))) (ss_one (s_ret e_bl)) ss_nil)))
    (ss_one (s_ret e_bl)))
theorem fk_law_fits (T : Txt mg)  {f : Addr} {fd : FuncData} (F : FnP K "_law_fits" s_law_fits f fd) : FnOk P w K mg base (L2.CX P w) 1 f fd ["edges", "heights"] (spOf K 2 d_law_fits) :=
  fn_sim (N := ["edges", "heights", "edge"]) (ps := ["edges", "heights"]) (k := 0) (m := d_law_fits_b) F sc_law_fits (fun cdv A outer s H E hr G => bd_law_fits T  cdv A outer s H E f hr G)
theorem ok_law_fits (T : Txt mg)  {f : Addr} {fd : FuncData} (F : FnP K "_law_fits" s_law_fits f fd) (gm : mg "_law_fits" = some (.ref f)) : Fn1 P w K mg base "_law_fits" 1 ["edges", "heights"] d_law_fits :=
  ⟨f, fd, fk_law_fits T  F, gm, F.kp, F.bindsN (ps := ["edges", "heights"]) fun _ _ _ _ _ _ us hl => match us, hl with | [_, _], _ => rfl⟩
abbrev s_law_ring : Stmt := topS 17
theorem sc_law_ring : FnScope ["mill", "many", "left", "ring", "lap", "at", "k"] ["mill", "many"] (defScope s_law_ring) := ⟨rfl, rfl, rfl, by decide +kernel, rfl, by decide +kernel, by decide +kernel⟩
theorem bd_law_ring (T : Txt mg) (c_law_grind : Fn1 P w K mg base "_law_grind" 1 ["mill", "many"] d_law_grind) (cdv : Value) (A : Around) (outer : List PySem.Env) (s : Shared) (H : Hp) (E : XK) (f : Addr) (hr : Room 1 (A.deeper (envOfC "_law_ring" (defScope s_law_ring) s.heap.objs.size f cdv)))
    (G : Good (cxOf (L2.CX P w) P w K mg base ["mill", "many", "left", "ring", "lap", "at", "k"] "_law_ring" (defScope s_law_ring) f cdv A outer s H E) (fun c a _ H => E c a H)) : SimSs (cxOf (L2.CX P w) P w K mg base ["mill", "many", "left", "ring", "lap", "at", "k"] "_law_ring" (defScope s_law_ring) f cdv A outer s H E) (fun c a _ H => E c a H) (defBody s_law_ring) d_law_ring_b :=
    (ss_cons (s_setLc (own := [("k", 6)]) 2 G (i_range1 T.b_range (e_var 1)) (blkOk_by (by kernel_rfl)) (ctg_name (by decide)) (fun _ _ _ _ _ => pg_name (i := 6) G.nd rfl (Or.inl rfl)) (fun _ _ _ _ _ => ts_nil) (fun s1 H1 C1 cl1 fp1 => (e_var 6)))
    (ss_cons (s_asg (e_lst a_nil) (g_name 3 G.nd))
    (ss_cons (s_for G (i_range1 T.b_range (e_add e_int (e_fn G c_law_grind ar_fn (hr.mono (by decide)) (a_cons (e_var 0) (a_cons (e_var 1) a_nil))))) (g_name 4 G.nd) (ss_cons (s_asg (e_fn G c_law_grind ar_fn (hr.mono (by decide)) (a_cons (e_var 0) (a_cons (e_len T.b_len (e_var 2)) a_nil))) (g_name 5 G.nd))
    (ss_cons (s_expr (e_append (e_var 3) (a_cons (e_sub_ (hu_of hr) (e_var 2) (e_var 5)) a_nil)))
    (ss_one (s_asg (e_add (e_slice (e_var 2) o_none (o_some (e_var 5))) (e_slice (e_var 2) (o_some (e_add (e_var 5) e_int)) o_none)) (g_name 2 G.nd))))))
    (ss_one (s_ret (e_var 3))))))
theorem fk_law_ring (T : Txt mg) (c_law_grind : Fn1 P w K mg base "_law_grind" 1 ["mill", "many"] d_law_grind) {f : Addr} {fd : FuncData} (F : FnP K "_law_ring" s_law_ring f fd) : FnOk P w K mg base (L2.CX P w) 2 f fd ["mill", "many"] (spOf K 2 d_law_ring) :=
  fn_sim (N := ["mill", "many", "left", "ring", "lap", "at", "k"]) (ps := ["mill", "many"]) (k := 1) (m := d_law_ring_b) F sc_law_ring (fun cdv A outer s H E hr G => bd_law_ring T c_law_grind cdv A outer s H E f hr G)
theorem ok_law_ring (T : Txt mg) (c_law_grind : Fn1 P w K mg base "_law_grind" 1 ["mill", "many"] d_law_grind) {f : Addr} {fd : FuncData} (F : FnP K "_law_ring" s_law_ring f fd) (gm : mg "_law_ring" = some (.ref f)) : Fn1 P w K mg base "_law_ring" 2 ["mill", "many"] d_law_ring :=
  ⟨f, fd, fk_law_ring T c_law_grind F, gm, F.kp, F.bindsN (ps := ["mill", "many"]) fun _ _ _ _ _ _ us hl => match us, hl with | [_, _], _ => rfl⟩
abbrev s_law_put : Stmt := topS 18
theorem sc_law_put : FnScope ["edges", "at", "edge"] ["edges", "at", "edge"] (defScope s_law_put) := ⟨rfl, rfl, rfl, by decide +kernel, rfl, by decide +kernel, by decide +kernel⟩
theorem bd_law_put (T : Txt mg)  (cdv : Value) (A : Around) (outer : List PySem.Env) (s : Shared) (H : Hp) (E : XK) (f : Addr) (hr : Room 0 (A.deeper (envOfC "_law_put" (defScope s_law_put) s.heap.objs.size f cdv)))
    (G : Good (cxOf (L2.CX P w) P w K mg base ["edges", "at", "edge"] "_law_put" (defScope s_law_put) f cdv A outer s H E) (fun c a _ H => E c a H)) : SimSs (cxOf (L2.CX P w) P w K mg base ["edges", "at", "edge"] "_law_put" (defScope s_law_put) f cdv A outer s H E) (fun c a _ H => E c a H) (defBody s_law_put) d_law_put_b :=
    (ss_one (s_ret (e_add (e_add (e_slice (e_var 0) o_none (o_some (e_var 1))) (e_lst (a_cons (e_var 2) a_nil))) (e_slice (e_var 0) (o_some (e_var 1)) o_none))))
theorem fk_law_put (T : Txt mg)  {f : Addr} {fd : FuncData} (F : FnP K "_law_put" s_law_put f fd) : FnOk P w K mg base (L2.CX P w) 1 f fd ["edges", "at", "edge"] (spOf K 3 d_law_put) :=
  fn_sim (N := ["edges", "at", "edge"]) (ps := ["edges", "at", "edge"]) (k := 0) (m := d_law_put_b) F sc_law_put (fun cdv A outer s H E hr G => bd_law_put T  cdv A outer s H E f hr G)
theorem ok_law_put (T : Txt mg)  {f : Addr} {fd : FuncData} (F : FnP K "_law_put" s_law_put f fd) (gm : mg "_law_put" = some (.ref f)) : Fn1 P w K mg base "_law_put" 1 ["edges", "at", "edge"] d_law_put :=
  ⟨f, fd, fk_law_put T  F, gm, F.kp, F.bindsN (ps := ["edges", "at", "edge"]) fun _ _ _ _ _ _ us hl => match us, hl with | [_, _, _], _ => rfl⟩
abbrev s_law_calm : Stmt := topS 19
theorem sc_law_calm : FnScope ["mill", "many", "great", "heights", "ring", "edges", "lap", "one", "other", "slack", "marked", "k", "edge"] ["mill", "many", "great"] (defScope s_law_calm) := ⟨rfl, rfl, rfl, by decide +kernel, rfl, by decide +kernel, by decide +kernel⟩
theorem bd_law_calm (T : Txt mg) (c_law_grind : Fn1 P w K mg base "_law_grind" 1 ["mill", "many"] d_law_grind) (c_law_ring : Fn1 P w K mg base "_law_ring" 2 ["mill", "many"] d_law_ring) (c_law_put : Fn1 P w K mg base "_law_put" 1 ["edges", "at", "edge"] d_law_put) (cdv : Value) (A : Around) (outer : List PySem.Env) (s : Shared) (H : Hp) (E : XK) (f : Addr) (hr : Room 2 (A.deeper (envOfC "_law_calm" (defScope s_law_calm) s.heap.objs.size f cdv)))
    (G : Good (cxOf (L2.CX P w) P w K mg base ["mill", "many", "great", "heights", "ring", "edges", "lap", "one", "other", "slack", "marked", "k", "edge"] "_law_calm" (defScope s_law_calm) f cdv A outer s H E) (fun c a _ H => E c a H)) : SimSs (cxOf (L2.CX P w) P w K mg base ["mill", "many", "great", "heights", "ring", "edges", "lap", "one", "other", "slack", "marked", "k", "edge"] "_law_calm" (defScope s_law_calm) f cdv A outer s H E) (fun c a _ H => E c a H) (defBody s_law_calm) d_law_calm_b :=
    (ss_cons (s_setLc (own := [("k", 11)]) 3 G (i_range1 T.b_range (e_var 1)) (blkOk_by (by kernel_rfl)) (ctg_name (by decide)) (fun _ _ _ _ _ => pg_name (i := 11) G.nd rfl (Or.inl rfl)) (fun _ _ _ _ _ => ts_nil) (fun s1 H1 C1 cl1 fp1 => (e_sub (e_fn (Good.blk G s1 H1 C1 cl1 fp1) c_law_grind ar_fn (hr.mono (by decide)) (a_cons (e_var 0) (a_cons (e_var 2) a_nil))) (e_div (e_var 2) e_int))))
    (ss_cons (s_asg (e_fn G c_law_ring ar_fn (hr.mono (by decide)) (a_cons (e_var 0) (a_cons (e_var 1) a_nil))) (g_name 4 G.nd))
    (ss_cons (s_asg (e_lst a_nil) (g_name 5 G.nd))
    (ss_cons (s_for G (i_range1 T.b_range (e_fn G c_law_grind ar_fn (hr.mono (by decide)) (a_cons (e_var 0) (a_cons (e_add (e_mul e_int (e_var 1)) e_int) a_nil)))) (g_name 6 G.nd) (ss_cons (s_asg (e_fn G c_law_grind ar_fn (hr.mono (by decide)) (a_cons (e_var 0) (a_cons (e_var 1) a_nil))) (g_name 7 G.nd))
    (ss_cons (s_asg (e_fn G c_law_grind ar_fn (hr.mono (by decide)) (a_cons (e_var 0) (a_cons (e_var 1) a_nil))) (g_name 8 G.nd))
    (ss_cons (s_asg (e_fn G c_law_grind ar_fn (hr.mono (by decide)) (a_cons (e_var 0) (a_cons (e_sub_ (hu_of hr) (e_lst (a_cons e_int (a_cons e_int (a_cons e_int (a_cons (e_var 2) a_nil))))) (e_fn G c_law_grind ar_fn (hr.mono (by decide)) (a_cons (e_var 0) (a_cons e_int a_nil)))) a_nil))) (g_name 9 G.nd))
    (ss_one (s_expr (e_append (e_var 5) (a_cons (e_tup (a_cons (e_var 7) (a_cons (e_var 8) (a_cons (e_add (e_sub (e_sub_ (hu_of hr) (e_var 3) (e_var 8)) (e_sub_ (hu_of hr) (e_var 3) (e_var 7))) (e_var 9)) a_nil)))) a_nil))))))))
    (ss_cons (s_asg (e_lst a_nil) (g_name 10 G.nd))
    (ss_cons (s_for G (i_range1 T.b_range (e_len T.b_len (e_var 4))) (g_name 11 G.nd) (ss_cons (s_asg (e_sub_ (hu_of hr) (e_var 4) (e_sub (e_var 11) e_int)) (g_name 7 G.nd))
    (ss_cons (s_asg (e_sub_ (hu_of hr) (e_var 4) (e_var 11)) (g_name 8 G.nd))
    (ss_one (s_expr (e_append (e_var 10) (a_cons (e_tup (a_cons (e_var 7) (a_cons (e_var 8) (a_cons (e_sub (e_sub_ (hu_of hr) (e_var 3) (e_var 8)) (e_sub_ (hu_of hr) (e_var 3) (e_var 7))) a_nil)))) a_nil)))))))
    (ss_cons (s_for G (i_seq (e_var 10)) (g_name 12 G.nd) (ss_one (s_asg (e_fn G c_law_put ar_fn (hr.mono (by decide)) (a_cons (e_var 5) (a_cons (e_fn G c_law_grind ar_fn (hr.mono (by decide)) (a_cons (e_var 0) (a_cons (e_add (e_len T.b_len (e_var 5)) e_int) a_nil))) (a_cons (e_var 12) a_nil)))) (g_name 5 G.nd))))
    (ss_one (s_ret (e_lst (a_cons (e_var 3) (a_cons (e_var 5) (a_cons (e_sub_ (hu_of hr) (e_var 10) (e_fn G c_law_grind ar_fn (hr.mono (by decide)) (a_cons (e_var 0) (a_cons (e_len T.b_len (e_var 10)) a_nil)))) a_nil)))))))))))))
theorem fk_law_calm (T : Txt mg) (c_law_grind : Fn1 P w K mg base "_law_grind" 1 ["mill", "many"] d_law_grind) (c_law_ring : Fn1 P w K mg base "_law_ring" 2 ["mill", "many"] d_law_ring) (c_law_put : Fn1 P w K mg base "_law_put" 1 ["edges", "at", "edge"] d_law_put) {f : Addr} {fd : FuncData} (F : FnP K "_law_calm" s_law_calm f fd) : FnOk P w K mg base (L2.CX P w) 3 f fd ["mill", "many", "great"] (spOf K 3 d_law_calm) :=
  fn_sim (N := ["mill", "many", "great", "heights", "ring", "edges", "lap", "one", "other", "slack", "marked", "k", "edge"]) (ps := ["mill", "many", "great"]) (k := 2) (m := d_law_calm_b) F sc_law_calm (fun cdv A outer s H E hr G => bd_law_calm T c_law_grind c_law_ring c_law_put cdv A outer s H E f hr G)
theorem ok_law_calm (T : Txt mg) (c_law_grind : Fn1 P w K mg base "_law_grind" 1 ["mill", "many"] d_law_grind) (c_law_ring : Fn1 P w K mg base "_law_ring" 2 ["mill", "many"] d_law_ring) (c_law_put : Fn1 P w K mg base "_law_put" 1 ["edges", "at", "edge"] d_law_put) {f : Addr} {fd : FuncData} (F : FnP K "_law_calm" s_law_calm f fd) (gm : mg "_law_calm" = some (.ref f)) : Fn1 P w K mg base "_law_calm" 3 ["mill", "many", "great"] d_law_calm :=
  ⟨f, fd, fk_law_calm T c_law_grind c_law_ring c_law_put F, gm, F.kp, F.bindsN (ps := ["mill", "many", "great"]) fun _ _ _ _ _ _ us hl => match us, hl with | [_, _, _], _ => rfl⟩
abbrev s_law_quiet : Stmt := topS 20
theorem sc_law_quiet : FnScope ["mill", "many", "edges", "given", "start", "heights"] ["mill", "many", "edges"] (defScope s_law_quiet) := ⟨rfl, rfl, rfl, by decide +kernel, rfl, by decide +kernel, by decide +kernel⟩
theorem bd_law_quiet (T : Txt mg) (c_falling_round : Fn1 P w K mg base "falling_round" 2 ["many", "edges"] d_falling_round) (c_law_grind : Fn1 P w K mg base "_law_grind" 1 ["mill", "many"] d_law_grind) (c_law_same : Fn1 P w K mg base "_law_same" 2 ["told", "due"] d_law_same) (c_law_ways : Fn1 P w K mg base "_law_ways" 1 ["many", "edges", "start"] d_law_ways) (c_least_ways : Fn1 P w K mg base "least_ways" 2 ["many", "edges", "start"] d_least_ways) (c_is_potentials : Fn1 P w K mg base "is_potentials" 2 ["many", "edges", "thing"] d_is_potentials) (cdv : Value) (A : Around) (outer : List PySem.Env) (s : Shared) (H : Hp) (E : XK) (f : Addr) (hr : Room 2 (A.deeper (envOfC "_law_quiet" (defScope s_law_quiet) s.heap.objs.size f cdv)))
    (G : Good (cxOf (L2.CX P w) P w K mg base ["mill", "many", "edges", "given", "start", "heights"] "_law_quiet" (defScope s_law_quiet) f cdv A outer s H E) (fun c a _ H => E c a H)) : SimSs (cxOf (L2.CX P w) P w K mg base ["mill", "many", "edges", "given", "start", "heights"] "_law_quiet" (defScope s_law_quiet) f cdv A outer s H E) (fun c a _ H => E c a H) (defBody s_law_quiet) d_law_quiet_b :=
    (ss_cons (s_asg (e_tuple T.b_tuple (e_var 2)) (g_name 3 G.nd))
    (ss_cons (s_if (t_notN (e_fn G c_falling_round ar_fn (hr.mono (by decide)) (a_cons (e_var 1) (a_cons (e_var 3) a_nil))) e_non) (ss_one (s_ret e_bl)) ss_nil)
    (ss_cons (s_for G (i_seq (e_lst (a_cons (e_fn G c_law_grind ar_fn (hr.mono (by decide)) (a_cons (e_var 0) (a_cons (e_var 1) a_nil))) (a_cons (e_if (t_gt (e_len T.b_len (e_var 2)) e_int) (e_sub_ (hu_of hr) (e_sub_ (hu_of hr) (e_var 2) (e_fn G c_law_grind ar_fn (hr.mono (by decide)) (a_cons (e_var 0) (a_cons (e_len T.b_len (e_var 2)) a_nil)))) e_int) e_int) a_nil)))) (g_name 4 G.nd) (ss_one (s_if (t_not (t_tru (e_fn G c_law_same ar_fn (hr.mono (by decide)) (a_cons (e_fn G c_least_ways ar_fn (hr.mono (by decide)) (a_cons (e_var 1) (a_cons (e_var 3) (a_cons (e_var 4) a_nil)))) (a_cons (e_fn G c_law_ways ar_fn (hr.mono (by decide)) (a_cons (e_var 1) (a_cons (e_var 2) (a_cons (e_var 4) a_nil)))) a_nil))))) (ss_one (s_ret e_bl)) ss_nil)))
    (ss_cons (s_asg (e_fn G c_law_ways ar_fn (hr.mono (by decide)) (a_cons (e_var 1) (a_cons (e_var 2) (a_cons (e_neg e_int) a_nil)))) (g_name 5 G.nd))
    (ss_one (s_ret (e_isB (e_fn G c_is_potentials ar_fn (hr.mono (by decide)) (a_cons (e_var 1) (a_cons (e_var 3) (a_cons (e_tuple T.b_tuple (e_var 5)) a_nil)))) e_bl)))))))
theorem fk_law_quiet (T : Txt mg) (c_falling_round : Fn1 P w K mg base "falling_round" 2 ["many", "edges"] d_falling_round) (c_law_grind : Fn1 P w K mg base "_law_grind" 1 ["mill", "many"] d_law_grind) (c_law_same : Fn1 P w K mg base "_law_same" 2 ["told", "due"] d_law_same) (c_law_ways : Fn1 P w K mg base "_law_ways" 1 ["many", "edges", "start"] d_law_ways) (c_least_ways : Fn1 P w K mg base "least_ways" 2 ["many", "edges", "start"] d_least_ways) (c_is_potentials : Fn1 P w K mg base "is_potentials" 2 ["many", "edges", "thing"] d_is_potentials) {f : Addr} {fd : FuncData} (F : FnP K "_law_quiet" s_law_quiet f fd) : FnOk P w K mg base (L2.CX P w) 3 f fd ["mill", "many", "edges"] (spOf K 3 d_law_quiet) :=
  fn_sim (N := ["mill", "many", "edges", "given", "start", "heights"]) (ps := ["mill", "many", "edges"]) (k := 2) (m := d_law_quiet_b) F sc_law_quiet (fun cdv A outer s H E hr G => bd_law_quiet T c_falling_round c_law_grind c_law_same c_law_ways c_least_ways c_is_potentials cdv A outer s H E f hr G)
theorem ok_law_quiet (T : Txt mg) (c_falling_round : Fn1 P w K mg base "falling_round" 2 ["many", "edges"] d_falling_round) (c_law_grind : Fn1 P w K mg base "_law_grind" 1 ["mill", "many"] d_law_grind) (c_law_same : Fn1 P w K mg base "_law_same" 2 ["told", "due"] d_law_same) (c_law_ways : Fn1 P w K mg base "_law_ways" 1 ["many", "edges", "start"] d_law_ways) (c_least_ways : Fn1 P w K mg base "least_ways" 2 ["many", "edges", "start"] d_least_ways) (c_is_potentials : Fn1 P w K mg base "is_potentials" 2 ["many", "edges", "thing"] d_is_potentials) {f : Addr} {fd : FuncData} (F : FnP K "_law_quiet" s_law_quiet f fd) (gm : mg "_law_quiet" = some (.ref f)) : Fn1 P w K mg base "_law_quiet" 3 ["mill", "many", "edges"] d_law_quiet :=
  ⟨f, fd, fk_law_quiet T c_falling_round c_law_grind c_law_same c_law_ways c_least_ways c_is_potentials F, gm, F.kp, F.bindsN (ps := ["mill", "many", "edges"]) fun _ _ _ _ _ _ us hl => match us, hl with | [_, _, _], _ => rfl⟩
abbrev s_law_truth : Stmt := topS 21
theorem sc_law_truth : FnScope ["told", "due"] ["told", "due"] (defScope s_law_truth) := ⟨rfl, rfl, rfl, by decide +kernel, rfl, by decide +kernel, by decide +kernel⟩
theorem bd_law_truth (T : Txt mg)  (cdv : Value) (A : Around) (outer : List PySem.Env) (s : Shared) (H : Hp) (E : XK) (f : Addr) (hr : Room 0 (A.deeper (envOfC "_law_truth" (defScope s_law_truth) s.heap.objs.size f cdv)))
    (G : Good (cxOf (L2.CX P w) P w K mg base ["told", "due"] "_law_truth" (defScope s_law_truth) f cdv A outer s H E) (fun c a _ H => E c a H)) : SimSs (cxOf (L2.CX P w) P w K mg base ["told", "due"] "_law_truth" (defScope s_law_truth) f cdv A outer s H E) (fun c a _ H => E c a H) (defBody s_law_truth) d_law_truth_b :=
    (ss_one (s_ret (e_and (e_isi T.b_isinstance (e_var 0) (e_ty (by rfl) T.b_bool PyProof.Rows.boot_bool)) (e_one (e_eq (e_var 0) (e_var 1))))))
theorem fk_law_truth (T : Txt mg)  {f : Addr} {fd : FuncData} (F : FnP K "_law_truth" s_law_truth f fd) : FnOk P w K mg base (L2.CX P w) 1 f fd ["told", "due"] (spOf K 2 d_law_truth) :=
  fn_sim (N := ["told", "due"]) (ps := ["told", "due"]) (k := 0) (m := d_law_truth_b) F sc_law_truth (fun cdv A outer s H E hr G => bd_law_truth T  cdv A outer s H E f hr G)
theorem ok_law_truth (T : Txt mg)  {f : Addr} {fd : FuncData} (F : FnP K "_law_truth" s_law_truth f fd) (gm : mg "_law_truth" = some (.ref f)) : Fn1 P w K mg base "_law_truth" 1 ["told", "due"] d_law_truth :=
  ⟨f, fd, fk_law_truth T  F, gm, F.kp, F.bindsN (ps := ["told", "due"]) fun _ _ _ _ _ _ us hl => match us, hl with | [_, _], _ => rfl⟩
abbrev s_law_bent : Stmt := topS 22
theorem sc_law_bent : FnScope ["mill", "heights", "at", "way", "odd", "moved", "height"] ["mill", "heights"] (defScope s_law_bent) := ⟨rfl, rfl, rfl, by decide +kernel, rfl, by decide +kernel, by decide +kernel⟩
theorem bd_law_bent (T : Txt mg) (c_law_grind : Fn1 P w K mg base "_law_grind" 1 ["mill", "many"] d_law_grind) (cdv : Value) (A : Around) (outer : List PySem.Env) (s : Shared) (H : Hp) (E : XK) (f : Addr) (hr : Room 1 (A.deeper (envOfC "_law_bent" (defScope s_law_bent) s.heap.objs.size f cdv)))
    (G : Good (cxOf (L2.CX P w) P w K mg base ["mill", "heights", "at", "way", "odd", "moved", "height"] "_law_bent" (defScope s_law_bent) f cdv A outer s H E) (fun c a _ H => E c a H)) : SimSs (cxOf (L2.CX P w) P w K mg base ["mill", "heights", "at", "way", "odd", "moved", "height"] "_law_bent" (defScope s_law_bent) f cdv A outer s H E) (fun c a _ H => E c a H) (defBody s_law_bent) d_law_bent_b :=
    (ss_cons (s_asg (e_fn G c_law_grind ar_fn (hr.mono (by decide)) (a_cons (e_var 0) (a_cons (e_len T.b_len (e_var 1)) a_nil))) (g_name 2 G.nd))
    (ss_cons (s_asg (e_fn G c_law_grind ar_fn (hr.mono (by decide)) (a_cons (e_var 0) (a_cons e_int a_nil))) (g_name 3 G.nd))
    (ss_cons (s_if (t_eq (e_var 3) e_int) (ss_one (s_ret (e_list T.b_list (e_var 1)))) ss_nil)
    (ss_cons (s_if (t_eq (e_var 3) e_int) (ss_one (s_ret (e_slice (e_var 1) o_none (o_some (e_sub (e_len T.b_len (e_var 1)) e_int))))) ss_nil)
    (ss_cons (s_if (t_eq (e_var 3) e_int) (ss_one (s_ret (e_add (e_var 1) (e_slice (e_var 1) (o_some (e_var 2)) (o_some (e_add (e_var 2) e_int)))))) ss_nil)
    (ss_cons (s_if (t_eq (e_var 3) e_int) (ss_one (s_ret (e_sub_ (hu_of hr) (e_lst (a_cons e_non (a_cons e_int (a_cons e_bl (a_cons e_str (a_cons (e_tup (a_cons (e_var 1) a_nil)) (a_cons (e_lst (a_cons (e_var 1) a_nil)) (a_cons (e_sub_ (hu_of hr) (e_var 1) (e_var 2)) a_nil)))))))) (e_fn G c_law_grind ar_fn (hr.mono (by decide)) (a_cons (e_var 0) (a_cons e_int a_nil)))))) ss_nil)
    (ss_cons (s_asg (e_sub_ (hu_of hr) (e_lst (a_cons e_non (a_cons e_str (a_cons (e_tup (a_cons (e_sub_ (hu_of hr) (e_var 1) (e_var 2)) a_nil)) (a_cons (e_lst (a_cons (e_sub_ (hu_of hr) (e_var 1) (e_var 2)) a_nil)) (a_cons e_str (a_cons (e_tup a_nil) a_nil))))))) (e_fn G c_law_grind ar_fn (hr.mono (by decide)) (a_cons (e_var 0) (a_cons e_int a_nil)))) (g_name 4 G.nd))
    (ss_cons (s_if (t_eq (e_var 3) e_int) (ss_one (s_ret (e_add (e_add (e_slice (e_var 1) o_none (o_some (e_var 2))) (e_tup (a_cons (e_var 4) a_nil))) (e_slice (e_var 1) (o_some (e_add (e_var 2) e_int)) o_none)))) ss_nil)
    (ss_cons (s_asg (e_tuple T.b_tuple (e_lc (own := [("height", 6)]) G (i_seq (e_var 1)) (blkOk_by (by kernel_rfl)) (ctg_name (by decide)) (fun _ _ _ _ _ => pg_name (i := 6) G.nd rfl (Or.inl rfl)) (fun _ _ _ _ _ => ts_nil) (fun s1 H1 C1 cl1 fp1 => (e_add (e_sub (e_var 6) (e_sub_ (hu_of hr) (e_var 1) (e_var 2))) e_int)))) (g_name 5 G.nd))
    (ss_one (s_ret (e_add (e_add (e_slice (e_var 5) o_none (o_some (e_var 2))) (e_tup (a_cons e_bl a_nil))) (e_slice (e_var 5) (o_some (e_add (e_var 2) e_int)) o_none)))))))))))))
theorem fk_law_bent (T : Txt mg) (c_law_grind : Fn1 P w K mg base "_law_grind" 1 ["mill", "many"] d_law_grind) {f : Addr} {fd : FuncData} (F : FnP K "_law_bent" s_law_bent f fd) : FnOk P w K mg base (L2.CX P w) 2 f fd ["mill", "heights"] (spOf K 2 d_law_bent) :=
  fn_sim (N := ["mill", "heights", "at", "way", "odd", "moved", "height"]) (ps := ["mill", "heights"]) (k := 1) (m := d_law_bent_b) F sc_law_bent (fun cdv A outer s H E hr G => bd_law_bent T c_law_grind cdv A outer s H E f hr G)
theorem ok_law_bent (T : Txt mg) (c_law_grind : Fn1 P w K mg base "_law_grind" 1 ["mill", "many"] d_law_grind) {f : Addr} {fd : FuncData} (F : FnP K "_law_bent" s_law_bent f fd) (gm : mg "_law_bent" = some (.ref f)) : Fn1 P w K mg base "_law_bent" 2 ["mill", "heights"] d_law_bent :=
  ⟨f, fd, fk_law_bent T c_law_grind F, gm, F.kp, F.bindsN (ps := ["mill", "heights"]) fun _ _ _ _ _ _ us hl => match us, hl with | [_, _], _ => rfl⟩
abbrev s_law_judged : Stmt := topS 23
theorem sc_law_judged : FnScope ["mill", "many", "edges", "heights", "tight", "given", "more", "moved", "least", "lower", "right", "bent", "at", "lap", "height", "k"] ["mill", "many", "edges", "heights", "tight"] (defScope s_law_judged) := ⟨rfl, rfl, rfl, by decide +kernel, rfl, by decide +kernel, by decide +kernel⟩
theorem bd_law_judged (T : Txt mg) (c_law_grind : Fn1 P w K mg base "_law_grind" 1 ["mill", "many"] d_law_grind) (c_law_ways : Fn1 P w K mg base "_law_ways" 1 ["many", "edges", "start"] d_law_ways) (c_is_potentials : Fn1 P w K mg base "is_potentials" 2 ["many", "edges", "thing"] d_is_potentials) (c_law_truth : Fn1 P w K mg base "_law_truth" 1 ["told", "due"] d_law_truth) (c_law_fits : Fn1 P w K mg base "_law_fits" 1 ["edges", "heights"] d_law_fits) (c_law_bent : Fn1 P w K mg base "_law_bent" 2 ["mill", "heights"] d_law_bent) (cdv : Value) (A : Around) (outer : List PySem.Env) (s : Shared) (H : Hp) (E : XK) (f : Addr) (hr : Room 2 (A.deeper (envOfC "_law_judged" (defScope s_law_judged) s.heap.objs.size f cdv)))
    (G : Good (cxOf (L2.CX P w) P w K mg base ["mill", "many", "edges", "heights", "tight", "given", "more", "moved", "least", "lower", "right", "bent", "at", "lap", "height", "k"] "_law_judged" (defScope s_law_judged) f cdv A outer s H E) (fun c a _ H => E c a H)) : SimSs (cxOf (L2.CX P w) P w K mg base ["mill", "many", "edges", "heights", "tight", "given", "more", "moved", "least", "lower", "right", "bent", "at", "lap", "height", "k"] "_law_judged" (defScope s_law_judged) f cdv A outer s H E) (fun c a _ H => E c a H) (defBody s_law_judged) d_law_judged_b :=
    (ss_cons (s_asg (e_tuple T.b_tuple (e_var 2)) (g_name 5 G.nd))
    (ss_cons (s_asg (e_sub (e_fn G c_law_grind ar_fn (hr.mono (by decide)) (a_cons (e_var 0) (a_cons e_int a_nil))) e_int) (g_name 6 G.nd))
    (ss_cons (s_asg (e_tuple T.b_tuple (e_lc (own := [("height", 14)]) G (i_seq (e_var 3)) (blkOk_by (by kernel_rfl)) (ctg_name (by decide)) (fun _ _ _ _ _ => pg_name (i := 14) G.nd rfl (Or.inl rfl)) (fun _ _ _ _ _ => ts_nil) (fun s1 H1 C1 cl1 fp1 => (e_add (e_var 14) (e_var 6))))) (g_name 7 G.nd))
    (ss_cons (s_asg (e_fn G c_law_ways ar_fn (hr.mono (by decide)) (a_cons (e_var 1) (a_cons (e_var 2) (a_cons (e_neg e_int) a_nil)))) (g_name 8 G.nd))
    (ss_cons (s_asg (e_tuple T.b_tuple (e_lc (own := [("k", 15)]) G (i_range1 T.b_range (e_var 1)) (blkOk_by (by kernel_rfl)) (ctg_name (by decide)) (fun _ _ _ _ _ => pg_name (i := 15) G.nd rfl (Or.inl rfl)) (fun _ _ _ _ _ => ts_nil) (fun s1 H1 C1 cl1 fp1 => (e_min2 rfl T.b_min (e_sub_ (hu_of hr) (e_var 7) (e_var 15)) (e_sub_ (hu_of hr) (e_var 8) (e_var 15)))))) (g_name 9 G.nd))
    (ss_cons (s_for G (i_seq (e_lst (a_cons (e_var 7) (a_cons (e_var 9) a_nil)))) (g_name 10 G.nd) (ss_one (s_if (t_notB (e_fn G c_is_potentials ar_fn (hr.mono (by decide)) (a_cons (e_var 1) (a_cons (e_var 5) (a_cons (e_var 10) a_nil)))) e_bl) (ss_one (s_ret e_bl)) ss_nil)))
    (ss_cons (s_asg (e_list T.b_list (e_var 7)) (g_name 11 G.nd))
    (ss_cons (s_asg (e_add (e_sub_ (hu_of hr) (e_var 11) (e_sub_ (hu_of hr) (e_var 4) e_int)) e_int) (g_sub (hu_of hr) (e_var 11) (e_sub_ (hu_of hr) (e_var 4) e_int)))
    (ss_cons (s_if (t_not (t_tru (e_fn G c_law_truth ar_fn (hr.mono (by decide)) (a_cons (e_fn G c_is_potentials ar_fn (hr.mono (by decide)) (a_cons (e_var 1) (a_cons (e_var 5) (a_cons (e_tuple T.b_tuple (e_var 11)) a_nil)))) (a_cons (e_fn G c_law_fits ar_fn (hr.mono (by decide)) (a_cons (e_var 2) (a_cons (e_var 11) a_nil))) a_nil))))) (ss_one (s_ret e_bl)) ss_nil)
    (ss_cons (s_asg (e_fn G c_law_grind ar_fn (hr.mono (by decide)) (a_cons (e_var 0) (a_cons (e_var 1) a_nil))) (g_name 12 G.nd))
    (ss_cons (s_asg (e_sub (e_sub (e_sub_ (hu_of hr) (e_var 11) (e_var 12)) e_int) (e_fn G c_law_grind ar_fn (hr.mono (by decide)) (a_cons (e_var 0) (a_cons e_int a_nil)))) (g_sub (hu_of hr) (e_var 11) (e_var 12)))
    (ss_cons (s_if (t_not (t_tru (e_fn G c_law_truth ar_fn (hr.mono (by decide)) (a_cons (e_fn G c_is_potentials ar_fn (hr.mono (by decide)) (a_cons (e_var 1) (a_cons (e_var 5) (a_cons (e_tuple T.b_tuple (e_var 11)) a_nil)))) (a_cons (e_fn G c_law_fits ar_fn (hr.mono (by decide)) (a_cons (e_var 2) (a_cons (e_var 11) a_nil))) a_nil))))) (ss_one (s_ret e_bl)) ss_nil)
    (ss_cons (s_for G (i_range1 T.b_range e_int) (g_name 13 G.nd) (ss_one (s_if (t_notB (e_fn G c_is_potentials ar_fn (hr.mono (by decide)) (a_cons (e_var 1) (a_cons (e_var 5) (a_cons (e_fn G c_law_bent ar_fn (hr.mono (by decide)) (a_cons (e_var 0) (a_cons (e_var 7) a_nil))) a_nil)))) e_bl) (ss_one (s_ret e_bl)) ss_nil)))
    (ss_one (s_ret e_bl)))))))))))))))
theorem fk_law_judged (T : Txt mg) (c_law_grind : Fn1 P w K mg base "_law_grind" 1 ["mill", "many"] d_law_grind) (c_law_ways : Fn1 P w K mg base "_law_ways" 1 ["many", "edges", "start"] d_law_ways) (c_is_potentials : Fn1 P w K mg base "is_potentials" 2 ["many", "edges", "thing"] d_is_potentials) (c_law_truth : Fn1 P w K mg base "_law_truth" 1 ["told", "due"] d_law_truth) (c_law_fits : Fn1 P w K mg base "_law_fits" 1 ["edges", "heights"] d_law_fits) (c_law_bent : Fn1 P w K mg base "_law_bent" 2 ["mill", "heights"] d_law_bent) {f : Addr} {fd : FuncData} (F : FnP K "_law_judged" s_law_judged f fd) : FnOk P w K mg base (L2.CX P w) 3 f fd ["mill", "many", "edges", "heights", "tight"] (spOf K 5 d_law_judged) :=
  fn_sim (N := ["mill", "many", "edges", "heights", "tight", "given", "more", "moved", "least", "lower", "right", "bent", "at", "lap", "height", "k"]) (ps := ["mill", "many", "edges", "heights", "tight"]) (k := 2) (m := d_law_judged_b) F sc_law_judged (fun cdv A outer s H E hr G => bd_law_judged T c_law_grind c_law_ways c_is_potentials c_law_truth c_law_fits c_law_bent cdv A outer s H E f hr G)
theorem ok_law_judged (T : Txt mg) (c_law_grind : Fn1 P w K mg base "_law_grind" 1 ["mill", "many"] d_law_grind) (c_law_ways : Fn1 P w K mg base "_law_ways" 1 ["many", "edges", "start"] d_law_ways) (c_is_potentials : Fn1 P w K mg base "is_potentials" 2 ["many", "edges", "thing"] d_is_potentials) (c_law_truth : Fn1 P w K mg base "_law_truth" 1 ["told", "due"] d_law_truth) (c_law_fits : Fn1 P w K mg base "_law_fits" 1 ["edges", "heights"] d_law_fits) (c_law_bent : Fn1 P w K mg base "_law_bent" 2 ["mill", "heights"] d_law_bent) {f : Addr} {fd : FuncData} (F : FnP K "_law_judged" s_law_judged f fd) (gm : mg "_law_judged" = some (.ref f)) : Fn1 P w K mg base "_law_judged" 3 ["mill", "many", "edges", "heights", "tight"] d_law_judged :=
  ⟨f, fd, fk_law_judged T c_law_grind c_law_ways c_is_potentials c_law_truth c_law_fits c_law_bent F, gm, F.kp, F.bindsN (ps := ["mill", "many", "edges", "heights", "tight"]) fun _ _ _ _ _ _ us hl => match us, hl with | [_, _, _, _, _], _ => rfl⟩
abbrev s_law_lowered : Stmt := topS 24
theorem sc_law_lowered : FnScope ["mill", "edges", "tight", "at", "fall"] ["mill", "edges", "tight"] (defScope s_law_lowered) := ⟨rfl, rfl, rfl, by decide +kernel, rfl, by decide +kernel, by decide +kernel⟩
theorem bd_law_lowered (T : Txt mg) (c_law_grind : Fn1 P w K mg base "_law_grind" 1 ["mill", "many"] d_law_grind) (cdv : Value) (A : Around) (outer : List PySem.Env) (s : Shared) (H : Hp) (E : XK) (f : Addr) (hr : Room 1 (A.deeper (envOfC "_law_lowered" (defScope s_law_lowered) s.heap.objs.size f cdv)))
    (G : Good (cxOf (L2.CX P w) P w K mg base ["mill", "edges", "tight", "at", "fall"] "_law_lowered" (defScope s_law_lowered) f cdv A outer s H E) (fun c a _ H => E c a H)) : SimSs (cxOf (L2.CX P w) P w K mg base ["mill", "edges", "tight", "at", "fall"] "_law_lowered" (defScope s_law_lowered) f cdv A outer s H E) (fun c a _ H => E c a H) (defBody s_law_lowered) d_law_lowered_b :=
    (ss_cons (s_asg (e_index (hu65 hr) (e_var 1) (a_cons (e_var 2) a_nil)) (g_name 3 G.nd))
    (ss_cons (s_asg (e_add e_int (e_mul (e_fn G c_law_grind ar_fn (hr.mono (by decide)) (a_cons (e_var 0) (a_cons e_int a_nil))) (e_fn G c_law_grind ar_fn (hr.mono (by decide)) (a_cons (e_var 0) (a_cons e_int a_nil))))) (g_name 4 G.nd))
    (ss_one (s_ret (e_add (e_add (e_slice (e_var 1) o_none (o_some (e_var 3))) (e_lst (a_cons (e_tup (a_cons (e_sub_ (hu_of hr) (e_var 2) e_int) (a_cons (e_sub_ (hu_of hr) (e_var 2) e_int) (a_cons (e_sub (e_sub_ (hu_of hr) (e_var 2) e_int) (e_var 4)) a_nil)))) a_nil))) (e_slice (e_var 1) (o_some (e_add (e_var 3) e_int)) o_none))))))
theorem fk_law_lowered (T : Txt mg) (c_law_grind : Fn1 P w K mg base "_law_grind" 1 ["mill", "many"] d_law_grind) {f : Addr} {fd : FuncData} (F : FnP K "_law_lowered" s_law_lowered f fd) : FnOk P w K mg base (L2.CX P w) 2 f fd ["mill", "edges", "tight"] (spOf K 3 d_law_lowered) :=
  fn_sim (N := ["mill", "edges", "tight", "at", "fall"]) (ps := ["mill", "edges", "tight"]) (k := 1) (m := d_law_lowered_b) F sc_law_lowered (fun cdv A outer s H E hr G => bd_law_lowered T c_law_grind cdv A outer s H E f hr G)
theorem ok_law_lowered (T : Txt mg) (c_law_grind : Fn1 P w K mg base "_law_grind" 1 ["mill", "many"] d_law_grind) {f : Addr} {fd : FuncData} (F : FnP K "_law_lowered" s_law_lowered f fd) (gm : mg "_law_lowered" = some (.ref f)) : Fn1 P w K mg base "_law_lowered" 2 ["mill", "edges", "tight"] d_law_lowered :=
  ⟨f, fd, fk_law_lowered T c_law_grind F, gm, F.kp, F.bindsN (ps := ["mill", "edges", "tight"]) fun _ _ _ _ _ _ us hl => match us, hl with | [_, _, _], _ => rfl⟩
abbrev s_law_free : Stmt := topS 25
theorem sc_law_free : FnScope ["mill", "many", "edges", "lap", "weight", "ways"] ["mill", "many"] (defScope s_law_free) := ⟨rfl, rfl, rfl, by decide +kernel, rfl, by decide +kernel, by decide +kernel⟩
theorem bd_law_free (T : Txt mg) (c_law_grind : Fn1 P w K mg base "_law_grind" 1 ["mill", "many"] d_law_grind) (c_law_ways : Fn1 P w K mg base "_law_ways" 1 ["many", "edges", "start"] d_law_ways) (c_law_falls : Fn1 P w K mg base "_law_falls" 2 ["told", "edges"] d_law_falls) (c_falling_round : Fn1 P w K mg base "falling_round" 2 ["many", "edges"] d_falling_round) (c_law_quiet : Fn1 P w K mg base "_law_quiet" 3 ["mill", "many", "edges"] d_law_quiet) (cdv : Value) (A : Around) (outer : List PySem.Env) (s : Shared) (H : Hp) (E : XK) (f : Addr) (hr : Room 3 (A.deeper (envOfC "_law_free" (defScope s_law_free) s.heap.objs.size f cdv)))
    (G : Good (cxOf (L2.CX P w) P w K mg base ["mill", "many", "edges", "lap", "weight", "ways"] "_law_free" (defScope s_law_free) f cdv A outer s H E) (fun c a _ H => E c a H)) : SimSs (cxOf (L2.CX P w) P w K mg base ["mill", "many", "edges", "lap", "weight", "ways"] "_law_free" (defScope s_law_free) f cdv A outer s H E) (fun c a _ H => E c a H) (defBody s_law_free) d_law_free_b :=
    (ss_cons (s_asg (e_lst a_nil) (g_name 2 G.nd))
    (ss_cons (s_for G (i_range1 T.b_range (e_fn G c_law_grind ar_fn (hr.mono (by decide)) (a_cons (e_var 0) (a_cons (e_add (e_mul e_int (e_var 1)) e_int) a_nil)))) (g_name 3 G.nd) (ss_cons (s_asg (e_sub (e_fn G c_law_grind ar_fn (hr.mono (by decide)) (a_cons (e_var 0) (a_cons e_int a_nil))) e_int) (g_name 4 G.nd))
    (ss_one (s_expr (e_append (e_var 2) (a_cons (e_tup (a_cons (e_fn G c_law_grind ar_fn (hr.mono (by decide)) (a_cons (e_var 0) (a_cons (e_var 1) a_nil))) (a_cons (e_fn G c_law_grind ar_fn (hr.mono (by decide)) (a_cons (e_var 0) (a_cons (e_var 1) a_nil))) (a_cons (e_var 4) a_nil)))) a_nil))))))
    (ss_cons (s_asg (e_fn G c_law_ways ar_fn (hr.mono (by decide)) (a_cons (e_var 1) (a_cons (e_var 2) (a_cons (e_neg e_int) a_nil)))) (g_name 5 G.nd))
    (ss_cons (s_if (t_isN (e_var 5) e_non) (ss_one (s_ret (e_fn G c_law_falls ar_fn (hr.mono (by decide)) (a_cons (e_fn G c_falling_round ar_fn (hr.mono (by decide)) (a_cons (e_var 1) (a_cons (e_tuple T.b_tuple (e_var 2)) a_nil))) (a_cons (e_var 2) a_nil))))) ss_nil)
    (ss_one (s_ret (e_fn G c_law_quiet ar_fn (hr.mono (by decide)) (a_cons (e_var 0) (a_cons (e_var 1) (a_cons (e_var 2) a_nil))))))))))
theorem fk_law_free (T : Txt mg) (c_law_grind : Fn1 P w K mg base "_law_grind" 1 ["mill", "many"] d_law_grind) (c_law_ways : Fn1 P w K mg base "_law_ways" 1 ["many", "edges", "start"] d_law_ways) (c_law_falls : Fn1 P w K mg base "_law_falls" 2 ["told", "edges"] d_law_falls) (c_falling_round : Fn1 P w K mg base "falling_round" 2 ["many", "edges"] d_falling_round) (c_law_quiet : Fn1 P w K mg base "_law_quiet" 3 ["mill", "many", "edges"] d_law_quiet) {f : Addr} {fd : FuncData} (F : FnP K "_law_free" s_law_free f fd) : FnOk P w K mg base (L2.CX P w) 4 f fd ["mill", "many"] (spOf K 2 d_law_free) :=
  fn_sim (N := ["mill", "many", "edges", "lap", "weight", "ways"]) (ps := ["mill", "many"]) (k := 3) (m := d_law_free_b) F sc_law_free (fun cdv A outer s H E hr G => bd_law_free T c_law_grind c_law_ways c_law_falls c_falling_round c_law_quiet cdv A outer s H E f hr G)
theorem ok_law_free (T : Txt mg) (c_law_grind : Fn1 P w K mg base "_law_grind" 1 ["mill", "many"] d_law_grind) (c_law_ways : Fn1 P w K mg base "_law_ways" 1 ["many", "edges", "start"] d_law_ways) (c_law_falls : Fn1 P w K mg base "_law_falls" 2 ["told", "edges"] d_law_falls) (c_falling_round : Fn1 P w K mg base "falling_round" 2 ["many", "edges"] d_falling_round) (c_law_quiet : Fn1 P w K mg base "_law_quiet" 3 ["mill", "many", "edges"] d_law_quiet) {f : Addr} {fd : FuncData} (F : FnP K "_law_free" s_law_free f fd) (gm : mg "_law_free" = some (.ref f)) : Fn1 P w K mg base "_law_free" 4 ["mill", "many"] d_law_free :=
  ⟨f, fd, fk_law_free T c_law_grind c_law_ways c_law_falls c_falling_round c_law_quiet F, gm, F.kp, F.bindsN (ps := ["mill", "many"]) fun _ _ _ _ _ _ us hl => match us, hl with | [_, _], _ => rfl⟩
abbrev s_law : Stmt := topS 26
theorem sc_law : FnScope ["script", "mill", "many", "great", "calm", "heights", "edges", "tight", "lowered", "alone"] ["script"] (defScope s_law) := ⟨rfl, rfl, rfl, by decide +kernel, rfl, by decide +kernel, by decide +kernel⟩
theorem bd_law (T : Txt mg) (c_law_mill : Fn1 P w K mg base "_law_mill" 1 ["script"] d_law_mill) (c_law_grind : Fn1 P w K mg base "_law_grind" 1 ["mill", "many"] d_law_grind) (c_law_calm : Fn1 P w K mg base "_law_calm" 3 ["mill", "many", "great"] d_law_calm) (c_law_quiet : Fn1 P w K mg base "_law_quiet" 3 ["mill", "many", "edges"] d_law_quiet) (c_law_judged : Fn1 P w K mg base "_law_judged" 3 ["mill", "many", "edges", "heights", "tight"] d_law_judged) (c_law_lowered : Fn1 P w K mg base "_law_lowered" 2 ["mill", "edges", "tight"] d_law_lowered) (c_law_falls : Fn1 P w K mg base "_law_falls" 2 ["told", "edges"] d_law_falls) (c_falling_round : Fn1 P w K mg base "falling_round" 2 ["many", "edges"] d_falling_round) (c_law_truth : Fn1 P w K mg base "_law_truth" 1 ["told", "due"] d_law_truth) (c_is_potentials : Fn1 P w K mg base "is_potentials" 2 ["many", "edges", "thing"] d_is_potentials) (c_law_free : Fn1 P w K mg base "_law_free" 4 ["mill", "many"] d_law_free) (c_law_same : Fn1 P w K mg base "_law_same" 2 ["told", "due"] d_law_same) (ck_falling_round_1_0 : FnK P w K mg base "falling_round" 2 ["many", "edges"] ["edges", "many"] [1, 0] d_falling_round) (cdv : Value) (A : Around) (outer : List PySem.Env) (s : Shared) (H : Hp) (E : XK) (f : Addr) (hr : Room 4 (A.deeper (envOfC "law" (defScope s_law) s.heap.objs.size f cdv)))
    (G : Good (cxOf (L2.CX P w) P w K mg base ["script", "mill", "many", "great", "calm", "heights", "edges", "tight", "lowered", "alone"] "law" (defScope s_law) f cdv A outer s H E) (fun c a _ H => E c a H)) : SimSs (cxOf (L2.CX P w) P w K mg base ["script", "mill", "many", "great", "calm", "heights", "edges", "tight", "lowered", "alone"] "law" (defScope s_law) f cdv A outer s H E) (fun c a _ H => E c a H) (defBody s_law) d_law_b :=
    (ss_cons (s_asg (e_fn G c_law_mill ar_fn (hr.mono (by decide)) (a_cons (e_var 0) a_nil)) (g_name 1 G.nd))
    (ss_cons (s_asg (e_sub_ (hu_of hr) (e_lst (a_cons e_int (a_cons e_int (a_cons e_int (a_cons e_int (a_cons e_int (a_cons e_int (a_cons e_int (a_cons e_int (a_cons e_int (a_cons e_int (a_cons e_int (a_cons e_int (a_cons e_int a_nil)))))))))))))) (e_fn G c_law_grind ar_fn (hr.mono (by decide)) (a_cons (e_var 1) (a_cons e_int a_nil)))) (g_name 2 G.nd))
    (ss_cons (s_asg (e_sub_ (hu_of hr) (e_lst (a_cons e_int (a_cons e_int (a_cons e_int (a_cons e_int (a_cons (e_pow e_int e_int) a_nil)))))) (e_fn G c_law_grind ar_fn (hr.mono (by decide)) (a_cons (e_var 1) (a_cons e_int a_nil)))) (g_name 3 G.nd))
    (ss_cons (s_asg (e_fn G c_law_calm ar_fn (hr.mono (by decide)) (a_cons (e_var 1) (a_cons (e_var 2) (a_cons (e_var 3) a_nil)))) (g_name 4 G.nd))
    (ss_cons (s_asg (e_tuple T.b_tuple (e_sub_ (hu_of hr) (e_var 4) e_int)) (g_name 5 G.nd))
    (ss_cons (s_asg (e_sub_ (hu_of hr) (e_var 4) e_int) (g_name 6 G.nd))
    (ss_cons (s_asg (e_sub_ (hu_of hr) (e_var 4) e_int) (g_name 7 G.nd))
    (ss_cons (s_if (t_w (w_or (t_not (t_tru (e_fn G c_law_quiet ar_fn (hr.mono (by decide)) (a_cons (e_var 1) (a_cons (e_var 2) (a_cons (e_var 6) a_nil)))))) (w_or1 (t_not (t_tru (e_fn G c_law_judged ar_fn (hr.mono (by decide)) (a_cons (e_var 1) (a_cons (e_var 2) (a_cons (e_var 6) (a_cons (e_var 5) (a_cons (e_var 7) a_nil))))))))))) (ss_one (s_ret e_bl)) ss_nil)
    (ss_cons (s_asg (e_fn G c_law_lowered ar_fn (hr.mono (by decide)) (a_cons (e_var 1) (a_cons (e_var 6) (a_cons (e_var 7) a_nil)))) (g_name 8 G.nd))
    (ss_cons (s_if (t_not (t_tru (e_fn G c_law_falls ar_fn (hr.mono (by decide)) (a_cons (e_fn G c_falling_round ar_fn (hr.mono (by decide)) (a_cons (e_var 2) (a_cons (e_tuple T.b_tuple (e_var 8)) a_nil))) (a_cons (e_var 8) a_nil))))) (ss_one (s_ret e_bl)) ss_nil)
    (ss_cons (s_if (t_not (t_tru (e_fn G c_law_truth ar_fn (hr.mono (by decide)) (a_cons (e_fn G c_is_potentials ar_fn (hr.mono (by decide)) (a_cons (e_var 2) (a_cons (e_tuple T.b_tuple (e_var 8)) (a_cons (e_var 5) a_nil)))) (a_cons e_bl a_nil))))) (ss_one (s_ret e_bl)) ss_nil)
    (ss_cons (s_if (t_w (w_or (t_not (t_tru (e_fn G c_law_free ar_fn (hr.mono (by decide)) (a_cons (e_var 1) (a_cons (e_add e_int (e_fn G c_law_grind ar_fn (hr.mono (by decide)) (a_cons (e_var 1) (a_cons e_int a_nil)))) a_nil))))) (w_or1 (t_not (t_tru (e_fn G c_law_quiet ar_fn (hr.mono (by decide)) (a_cons (e_var 1) (a_cons (e_var 2) (a_cons (e_lst a_nil) a_nil))))))))) (ss_one (s_ret e_bl)) ss_nil)
    (ss_cons (s_asg (e_sub_ (hu_of hr) (e_var 7) e_int) (g_name 9 G.nd))
    (ss_cons (s_if (t_notN (e_fn G c_falling_round ar_fn (hr.mono (by decide)) (a_cons (e_var 2) (a_cons (e_tup (a_cons (e_tup (a_cons (e_var 9) (a_cons (e_var 9) (a_cons e_int a_nil)))) a_nil)) a_nil))) e_non) (ss_one (s_ret e_bl)) ss_nil)
    (ss_cons (s_if (t_not (t_tru (e_fn G c_law_same ar_fn (hr.mono (by decide)) (a_cons (e_fnK G ck_falling_round_1_0 ar_fn (hr.mono (by decide)) (k_cons (e_tup (a_cons (e_tup (a_cons (e_var 9) (a_cons (e_var 9) (a_cons (e_neg e_int) a_nil)))) a_nil)) (k_cons (e_var 2) k_nil)) (aLen_cons (aLen_cons aLen_nil))) (a_cons (e_tup (a_cons e_int a_nil)) a_nil))))) (ss_one (s_ret e_bl)) ss_nil)
    (ss_one (s_ret (e_isN (e_fn G c_falling_round ar_fn (hr.mono (by decide)) (a_cons (e_var 2) (a_cons (e_tuple T.b_tuple (e_var 6)) a_nil))) e_non))))))))))))))))))
theorem fk_law (T : Txt mg) (c_law_mill : Fn1 P w K mg base "_law_mill" 1 ["script"] d_law_mill) (c_law_grind : Fn1 P w K mg base "_law_grind" 1 ["mill", "many"] d_law_grind) (c_law_calm : Fn1 P w K mg base "_law_calm" 3 ["mill", "many", "great"] d_law_calm) (c_law_quiet : Fn1 P w K mg base "_law_quiet" 3 ["mill", "many", "edges"] d_law_quiet) (c_law_judged : Fn1 P w K mg base "_law_judged" 3 ["mill", "many", "edges", "heights", "tight"] d_law_judged) (c_law_lowered : Fn1 P w K mg base "_law_lowered" 2 ["mill", "edges", "tight"] d_law_lowered) (c_law_falls : Fn1 P w K mg base "_law_falls" 2 ["told", "edges"] d_law_falls) (c_falling_round : Fn1 P w K mg base "falling_round" 2 ["many", "edges"] d_falling_round) (c_law_truth : Fn1 P w K mg base "_law_truth" 1 ["told", "due"] d_law_truth) (c_is_potentials : Fn1 P w K mg base "is_potentials" 2 ["many", "edges", "thing"] d_is_potentials) (c_law_free : Fn1 P w K mg base "_law_free" 4 ["mill", "many"] d_law_free) (c_law_same : Fn1 P w K mg base "_law_same" 2 ["told", "due"] d_law_same) (ck_falling_round_1_0 : FnK P w K mg base "falling_round" 2 ["many", "edges"] ["edges", "many"] [1, 0] d_falling_round) {f : Addr} {fd : FuncData} (F : FnP K "law" s_law f fd) : FnOk P w K mg base (L2.CX P w) 5 f fd ["script"] (spOf K 1 d_law) :=
  fn_sim (N := ["script", "mill", "many", "great", "calm", "heights", "edges", "tight", "lowered", "alone"]) (ps := ["script"]) (k := 4) (m := d_law_b) F sc_law (fun cdv A outer s H E hr G => bd_law T c_law_mill c_law_grind c_law_calm c_law_quiet c_law_judged c_law_lowered c_law_falls c_falling_round c_law_truth c_is_potentials c_law_free c_law_same ck_falling_round_1_0 cdv A outer s H E f hr G)
theorem ok_law (T : Txt mg) (c_law_mill : Fn1 P w K mg base "_law_mill" 1 ["script"] d_law_mill) (c_law_grind : Fn1 P w K mg base "_law_grind" 1 ["mill", "many"] d_law_grind) (c_law_calm : Fn1 P w K mg base "_law_calm" 3 ["mill", "many", "great"] d_law_calm) (c_law_quiet : Fn1 P w K mg base "_law_quiet" 3 ["mill", "many", "edges"] d_law_quiet) (c_law_judged : Fn1 P w K mg base "_law_judged" 3 ["mill", "many", "edges", "heights", "tight"] d_law_judged) (c_law_lowered : Fn1 P w K mg base "_law_lowered" 2 ["mill", "edges", "tight"] d_law_lowered) (c_law_falls : Fn1 P w K mg base "_law_falls" 2 ["told", "edges"] d_law_falls) (c_falling_round : Fn1 P w K mg base "falling_round" 2 ["many", "edges"] d_falling_round) (c_law_truth : Fn1 P w K mg base "_law_truth" 1 ["told", "due"] d_law_truth) (c_is_potentials : Fn1 P w K mg base "is_potentials" 2 ["many", "edges", "thing"] d_is_potentials) (c_law_free : Fn1 P w K mg base "_law_free" 4 ["mill", "many"] d_law_free) (c_law_same : Fn1 P w K mg base "_law_same" 2 ["told", "due"] d_law_same) (ck_falling_round_1_0 : FnK P w K mg base "falling_round" 2 ["many", "edges"] ["edges", "many"] [1, 0] d_falling_round) {f : Addr} {fd : FuncData} (F : FnP K "law" s_law f fd) (gm : mg "law" = some (.ref f)) : Fn1 P w K mg base "law" 5 ["script"] d_law :=
  ⟨f, fd, fk_law T c_law_mill c_law_grind c_law_calm c_law_quiet c_law_judged c_law_lowered c_law_falls c_falling_round c_law_truth c_is_potentials c_law_free c_law_same ck_falling_round_1_0 F, gm, F.kp, F.bindsN (ps := ["script"]) fun _ _ _ _ _ _ us hl => match us, hl with | [_], _ => rfl⟩
theorem okK_falling_round_1_0 (T : Txt mg) (c_settle : Fn1 P w K mg base "settle" 1 ["sums", "edges"] d_settle) (c_round_through : Fn1 P w K mg base "round_through" 1 ["edges", "ahead", "number"] d_round_through) {f : Addr} {fd : FuncData} (F : FnP K "falling_round" s_falling_round f fd) (gm : mg "falling_round" = some (.ref f)) : FnK P w K mg base "falling_round" 2 ["many", "edges"] ["edges", "many"] [1, 0] d_falling_round :=
  ⟨f, fd, fk_falling_round T c_settle c_round_through F, gm, F.kp, kb0_of F fun _ _ _ _ _ _ ws hl => match ws, hl with | [_, _], _ => rfl⟩
end
end K68

set_option Elab.async false
set_option linter.all false
set_option maxRecDepth 100000
set_option maxHeartbeats 4000000
set_option autoImplicit false
set_option maxHeartbeats 0
namespace K68
open PySem PySem.Spec PyProof.Rows L2 Sh
def D_is_integer : He.DefD := ⟨("is_integer", none), "is_integer", "is_integer", defArgs s_is_integer, defBody s_is_integer, defScope s_is_integer, [], []⟩
def D_is_tuple : He.DefD := ⟨("is_tuple", none), "is_tuple", "is_tuple", defArgs s_is_tuple, defBody s_is_tuple, defScope s_is_tuple, [], []⟩
def D_settle : He.DefD := ⟨("settle", none), "settle", "settle", defArgs s_settle, defBody s_settle, defScope s_settle, [], []⟩
def D_round_through : He.DefD := ⟨("round_through", none), "round_through", "round_through", defArgs s_round_through, defBody s_round_through, defScope s_round_through, [], []⟩
def D_falling_round : He.DefD := ⟨("falling_round", none), "falling_round", "falling_round", defArgs s_falling_round, defBody s_falling_round, defScope s_falling_round, [], []⟩
def D_least_ways : He.DefD := ⟨("least_ways", none), "least_ways", "least_ways", defArgs s_least_ways, defBody s_least_ways, defScope s_least_ways, [], []⟩
def D_is_potentials : He.DefD := ⟨("is_potentials", none), "is_potentials", "is_potentials", defArgs s_is_potentials, defBody s_is_potentials, defScope s_is_potentials, [], []⟩
def D_law_mill : He.DefD := ⟨("_law_mill", none), "_law_mill", "_law_mill", defArgs s_law_mill, defBody s_law_mill, defScope s_law_mill, [], []⟩
def D_law_grind : He.DefD := ⟨("_law_grind", none), "_law_grind", "_law_grind", defArgs s_law_grind, defBody s_law_grind, defScope s_law_grind, [], []⟩
def D_law_number : He.DefD := ⟨("_law_number", none), "_law_number", "_law_number", defArgs s_law_number, defBody s_law_number, defScope s_law_number, [], []⟩
def D_law_same : He.DefD := ⟨("_law_same", none), "_law_same", "_law_same", defArgs s_law_same, defBody s_law_same, defScope s_law_same, [], []⟩
def D_law_falls : He.DefD := ⟨("_law_falls", none), "_law_falls", "_law_falls", defArgs s_law_falls, defBody s_law_falls, defScope s_law_falls, [], []⟩
def D_law_ways : He.DefD := ⟨("_law_ways", none), "_law_ways", "_law_ways", defArgs s_law_ways, defBody s_law_ways, defScope s_law_ways, [], []⟩
def D_law_fits : He.DefD := ⟨("_law_fits", none), "_law_fits", "_law_fits", defArgs s_law_fits, defBody s_law_fits, defScope s_law_fits, [], []⟩
def D_law_ring : He.DefD := ⟨("_law_ring", none), "_law_ring", "_law_ring", defArgs s_law_ring, defBody s_law_ring, defScope s_law_ring, [], []⟩
def D_law_put : He.DefD := ⟨("_law_put", none), "_law_put", "_law_put", defArgs s_law_put, defBody s_law_put, defScope s_law_put, [], []⟩
def D_law_calm : He.DefD := ⟨("_law_calm", none), "_law_calm", "_law_calm", defArgs s_law_calm, defBody s_law_calm, defScope s_law_calm, [], []⟩
def D_law_quiet : He.DefD := ⟨("_law_quiet", none), "_law_quiet", "_law_quiet", defArgs s_law_quiet, defBody s_law_quiet, defScope s_law_quiet, [], []⟩
def D_law_truth : He.DefD := ⟨("_law_truth", none), "_law_truth", "_law_truth", defArgs s_law_truth, defBody s_law_truth, defScope s_law_truth, [], []⟩
def D_law_bent : He.DefD := ⟨("_law_bent", none), "_law_bent", "_law_bent", defArgs s_law_bent, defBody s_law_bent, defScope s_law_bent, [], []⟩
def D_law_judged : He.DefD := ⟨("_law_judged", none), "_law_judged", "_law_judged", defArgs s_law_judged, defBody s_law_judged, defScope s_law_judged, [], []⟩
def D_law_lowered : He.DefD := ⟨("_law_lowered", none), "_law_lowered", "_law_lowered", defArgs s_law_lowered, defBody s_law_lowered, defScope s_law_lowered, [], []⟩
def D_law_free : He.DefD := ⟨("_law_free", none), "_law_free", "_law_free", defArgs s_law_free, defBody s_law_free, defScope s_law_free, [], []⟩
def D_law : He.DefD := ⟨("law", none), "law", "law", defArgs s_law, defBody s_law, defScope s_law, [], []⟩
def fn : List He.DefD := [D_is_integer, D_is_tuple, D_settle, D_round_through, D_falling_round, D_least_ways, D_is_potentials, D_law_mill, D_law_grind, D_law_number, D_law_same, D_law_falls, D_law_ways, D_law_fits, D_law_ring, D_law_put, D_law_calm, D_law_quiet, D_law_truth, D_law_bent, D_law_judged, D_law_lowered, D_law_free, D_law]
def fa : List He.Fa := [.glo "is_integer", .glo "is_tuple", .glo "settle", .glo "round_through", .glo "falling_round", .glo "least_ways", .glo "is_potentials", .glo "_law_mill", .glo "_law_grind", .glo "_law_number", .glo "_law_same", .glo "_law_falls", .glo "_law_ways", .glo "_law_fits", .glo "_law_ring", .glo "_law_put", .glo "_law_calm", .glo "_law_quiet", .glo "_law_truth", .glo "_law_bent", .glo "_law_judged", .glo "_law_lowered", .glo "_law_free", .glo "law", .free "all", .free "bool", .free "enumerate", .free "int", .free "isinstance", .free "len", .free "list", .free "min", .free "range", .free "reversed", .free "tuple"]
abbrev R : PySem.W.OpenRow := PySem.W.OpenLaw.row PySem.Challenge.rw_whichpass_k68_whole_weights
abbrev hk : PySem.W.Hook := hookN 4 fa fn
def ob (s : PySem.W.SharedT) : He.AlD := obsN 4 fa fn (HandSHeadRun.getT s)
theorem ob_eq (s : PySem.W.SharedT) : ob s = hk.obs s.abs := obsN_eq (HandSHeadRun.getT_eq s)
theorem run (w : World) : HandSHeadRun.RunEq R (PySem.W.view R.prog [26]) hk ob 4000 ["is_integer", "is_tuple", "settle", "round_through", "falling_round", "least_ways", "is_potentials", "_law_mill", "_law_grind", "_law_number", "_law_same", "_law_falls", "_law_ways", "_law_fits", "_law_ring", "_law_put", "_law_calm", "_law_quiet", "_law_truth", "_law_bent", "_law_judged", "_law_lowered", "_law_free", "__name__"] w := by
  intro os
  kernel_rfl
theorem facts {P : Program} {w : World} {K : PySem.W.Frag} {h : Heap} {mg : Str → Option Value} {f : Addr} (X : K.In h) (G : h.Ns mainGlobals mg) (hfa : mg ("law" : Str) = some (.ref f)) (c : He.SaysD fa fn K) :
    ∃ fd : FuncData, (∀ (s : Shared) (v : Value), BindsTo s fd ⟨[v], []⟩ [("script", v)]) ∧ ∀ base : Heap, K.In base → base.Ns mainGlobals mg → FnOk P w K mg base (L2.CX P w) 5 f fd ["script"] (spOf K 1 d_law) := by
  have T : Txt mg := ⟨He.free_ok X G (c.fact 24 (f := .free "all") rfl), He.free_ok X G (c.fact 25 (f := .free "bool") rfl), He.free_ok X G (c.fact 26 (f := .free "enumerate") rfl), He.free_ok X G (c.fact 27 (f := .free "int") rfl), He.free_ok X G (c.fact 28 (f := .free "isinstance") rfl), He.free_ok X G (c.fact 29 (f := .free "len") rfl), He.free_ok X G (c.fact 30 (f := .free "list") rfl), He.free_ok X G (c.fact 31 (f := .free "min") rfl), He.free_ok X G (c.fact 32 (f := .free "range") rfl), He.free_ok X G (c.fact 33 (f := .free "reversed") rfl), He.free_ok X G (c.fact 34 (f := .free "tuple") rfl)⟩
  obtain ⟨fd_is_integer, F_is_integer⟩ := c.def_ 0 (d := D_is_integer) rfl
  obtain ⟨fd_is_tuple, F_is_tuple⟩ := c.def_ 1 (d := D_is_tuple) rfl
  obtain ⟨fd_settle, F_settle⟩ := c.def_ 2 (d := D_settle) rfl
  obtain ⟨fd_round_through, F_round_through⟩ := c.def_ 3 (d := D_round_through) rfl
  obtain ⟨fd_falling_round, F_falling_round⟩ := c.def_ 4 (d := D_falling_round) rfl
  obtain ⟨fd_least_ways, F_least_ways⟩ := c.def_ 5 (d := D_least_ways) rfl
  obtain ⟨fd_is_potentials, F_is_potentials⟩ := c.def_ 6 (d := D_is_potentials) rfl
  obtain ⟨fd_law_mill, F_law_mill⟩ := c.def_ 7 (d := D_law_mill) rfl
  obtain ⟨fd_law_grind, F_law_grind⟩ := c.def_ 8 (d := D_law_grind) rfl
  obtain ⟨fd_law_number, F_law_number⟩ := c.def_ 9 (d := D_law_number) rfl
  obtain ⟨fd_law_same, F_law_same⟩ := c.def_ 10 (d := D_law_same) rfl
  obtain ⟨fd_law_falls, F_law_falls⟩ := c.def_ 11 (d := D_law_falls) rfl
  obtain ⟨fd_law_ways, F_law_ways⟩ := c.def_ 12 (d := D_law_ways) rfl
  obtain ⟨fd_law_fits, F_law_fits⟩ := c.def_ 13 (d := D_law_fits) rfl
  obtain ⟨fd_law_ring, F_law_ring⟩ := c.def_ 14 (d := D_law_ring) rfl
  obtain ⟨fd_law_put, F_law_put⟩ := c.def_ 15 (d := D_law_put) rfl
  obtain ⟨fd_law_calm, F_law_calm⟩ := c.def_ 16 (d := D_law_calm) rfl
  obtain ⟨fd_law_quiet, F_law_quiet⟩ := c.def_ 17 (d := D_law_quiet) rfl
  obtain ⟨fd_law_truth, F_law_truth⟩ := c.def_ 18 (d := D_law_truth) rfl
  obtain ⟨fd_law_bent, F_law_bent⟩ := c.def_ 19 (d := D_law_bent) rfl
  obtain ⟨fd_law_judged, F_law_judged⟩ := c.def_ 20 (d := D_law_judged) rfl
  obtain ⟨fd_law_lowered, F_law_lowered⟩ := c.def_ 21 (d := D_law_lowered) rfl
  obtain ⟨fd_law_free, F_law_free⟩ := c.def_ 22 (d := D_law_free) rfl
  obtain ⟨fd_law, F_law⟩ := c.def_ 23 (d := D_law) rfl
  have g_is_integer := He.glo_ok X G (c.fact 0 (f := .glo "is_integer") rfl)
  have g_is_tuple := He.glo_ok X G (c.fact 1 (f := .glo "is_tuple") rfl)
  have g_settle := He.glo_ok X G (c.fact 2 (f := .glo "settle") rfl)
  have g_round_through := He.glo_ok X G (c.fact 3 (f := .glo "round_through") rfl)
  have g_falling_round := He.glo_ok X G (c.fact 4 (f := .glo "falling_round") rfl)
  have g_least_ways := He.glo_ok X G (c.fact 5 (f := .glo "least_ways") rfl)
  have g_is_potentials := He.glo_ok X G (c.fact 6 (f := .glo "is_potentials") rfl)
  have g_law_mill := He.glo_ok X G (c.fact 7 (f := .glo "_law_mill") rfl)
  have g_law_grind := He.glo_ok X G (c.fact 8 (f := .glo "_law_grind") rfl)
  have g_law_number := He.glo_ok X G (c.fact 9 (f := .glo "_law_number") rfl)
  have g_law_same := He.glo_ok X G (c.fact 10 (f := .glo "_law_same") rfl)
  have g_law_falls := He.glo_ok X G (c.fact 11 (f := .glo "_law_falls") rfl)
  have g_law_ways := He.glo_ok X G (c.fact 12 (f := .glo "_law_ways") rfl)
  have g_law_fits := He.glo_ok X G (c.fact 13 (f := .glo "_law_fits") rfl)
  have g_law_ring := He.glo_ok X G (c.fact 14 (f := .glo "_law_ring") rfl)
  have g_law_put := He.glo_ok X G (c.fact 15 (f := .glo "_law_put") rfl)
  have g_law_calm := He.glo_ok X G (c.fact 16 (f := .glo "_law_calm") rfl)
  have g_law_quiet := He.glo_ok X G (c.fact 17 (f := .glo "_law_quiet") rfl)
  have g_law_truth := He.glo_ok X G (c.fact 18 (f := .glo "_law_truth") rfl)
  have g_law_bent := He.glo_ok X G (c.fact 19 (f := .glo "_law_bent") rfl)
  have g_law_judged := He.glo_ok X G (c.fact 20 (f := .glo "_law_judged") rfl)
  have g_law_lowered := He.glo_ok X G (c.fact 21 (f := .glo "_law_lowered") rfl)
  have g_law_free := He.glo_ok X G (c.fact 22 (f := .glo "_law_free") rfl)
  have e := hfa.symm.trans (He.glo_ok X G (c.fact 23 (f := .glo "law") rfl))
  cases e
  have b := FunD.bindsA (ps := ["script"]) F_law fun _ _ _ _ _ _ us hl => match us, hl with | [_], _ => rfl
  refine ⟨fd_law, fun s v => b s [v] rfl, fun base _ _ => ?_⟩
  have c_is_integer := ok_is_integer (P := P) (w := w) (base := base) T  F_is_integer g_is_integer
  have c_is_tuple := ok_is_tuple (P := P) (w := w) (base := base) T  F_is_tuple g_is_tuple
  have c_settle := ok_settle (P := P) (w := w) (base := base) T  F_settle g_settle
  have c_round_through := ok_round_through (P := P) (w := w) (base := base) T  F_round_through g_round_through
  have c_law_mill := ok_law_mill (P := P) (w := w) (base := base) T  F_law_mill g_law_mill
  have c_law_grind := ok_law_grind (P := P) (w := w) (base := base) T  F_law_grind g_law_grind
  have c_law_number := ok_law_number (P := P) (w := w) (base := base) T  F_law_number g_law_number
  have c_law_ways := ok_law_ways (P := P) (w := w) (base := base) T  F_law_ways g_law_ways
  have c_law_fits := ok_law_fits (P := P) (w := w) (base := base) T  F_law_fits g_law_fits
  have c_law_put := ok_law_put (P := P) (w := w) (base := base) T  F_law_put g_law_put
  have c_law_truth := ok_law_truth (P := P) (w := w) (base := base) T  F_law_truth g_law_truth
  have c_falling_round := ok_falling_round (P := P) (w := w) (base := base) T c_settle c_round_through F_falling_round g_falling_round
  have ck_falling_round_1_0 := okK_falling_round_1_0 (P := P) (w := w) (base := base) T c_settle c_round_through F_falling_round g_falling_round
  have c_least_ways := ok_least_ways (P := P) (w := w) (base := base) T c_settle F_least_ways g_least_ways
  have c_is_potentials := ok_is_potentials (P := P) (w := w) (base := base) T c_is_tuple c_is_integer F_is_potentials g_is_potentials
  have c_law_same := ok_law_same (P := P) (w := w) (base := base) T c_law_number F_law_same g_law_same
  have c_law_falls := ok_law_falls (P := P) (w := w) (base := base) T c_law_number F_law_falls g_law_falls
  have c_law_ring := ok_law_ring (P := P) (w := w) (base := base) T c_law_grind F_law_ring g_law_ring
  have c_law_bent := ok_law_bent (P := P) (w := w) (base := base) T c_law_grind F_law_bent g_law_bent
  have c_law_lowered := ok_law_lowered (P := P) (w := w) (base := base) T c_law_grind F_law_lowered g_law_lowered
  have c_law_calm := ok_law_calm (P := P) (w := w) (base := base) T c_law_grind c_law_ring c_law_put F_law_calm g_law_calm
  have c_law_quiet := ok_law_quiet (P := P) (w := w) (base := base) T c_falling_round c_law_grind c_law_same c_law_ways c_least_ways c_is_potentials F_law_quiet g_law_quiet
  have c_law_judged := ok_law_judged (P := P) (w := w) (base := base) T c_law_grind c_law_ways c_is_potentials c_law_truth c_law_fits c_law_bent F_law_judged g_law_judged
  have c_law_free := ok_law_free (P := P) (w := w) (base := base) T c_law_grind c_law_ways c_law_falls c_falling_round c_law_quiet F_law_free g_law_free
  exact fk_law T c_law_mill c_law_grind c_law_calm c_law_quiet c_law_judged c_law_lowered c_law_falls c_falling_round c_law_truth c_is_potentials c_law_free c_law_same ck_falling_round_1_0 F_law
end K68

set_option linter.all false
set_option autoImplicit false
/-! K68Math: what relaxing of edges does (plain). -/
namespace RX
abbrev Ed := Nat × Nat × Int
abbrev Su := Nat → Option Int
def up (s : Su) (v : Nat) (x : Int) : Su := fun i => if i = v then some x else s i
theorem up_same {s : Su} {v : Nat} {x : Int} : up s v x v = some x := if_pos rfl
theorem up_ne {s : Su} {v i : Nat} {x : Int} (h : i ≠ v) : up s v x i = s i := if_neg h
def hit (s : Su) (e : Ed) : Bool := match s e.1 with
  | none => false
  | some a => match s e.2.1 with
    | none => true
    | some b => decide (a + e.2.2 < b)
def rel (s : Su) (e : Ed) : Su := if hit s e = true then up s e.2.1 ((s e.1).getD 0 + e.2.2) else s
def pass (s : Su) (E : List Ed) : Su := E.foldl rel s
def chg : Su → List Ed → Bool
  | _, [] => false
  | s, e :: E => hit s e || chg (rel s e) E
theorem chg_append (E : List Ed) : ∀ (s : Su) (F : List Ed), chg s (E ++ F) = (chg s E || chg (pass s E) F) := by
  induction E with
  | nil => intro s F; rfl
  | cons e E ih => intro s F; simp only [List.cons_append, chg, ih, pass, List.foldl_cons, Bool.or_assoc]
theorem pass_append (s : Su) (E F : List Ed) : pass s (E ++ F) = pass (pass s E) F := by simp [pass]
theorem pass_still {E : List Ed} : ∀ {s : Su}, chg s E = false → pass s E = s ∧ ∀ e ∈ E, hit s e = false := by
  induction E with
  | nil => intro s h; exact ⟨rfl, fun e he => by cases he⟩
  | cons e E ih =>
    intro s h
    simp only [chg, Bool.or_eq_false_iff] at h
    have hr : rel s e = s := by unfold rel; rw [h.1]; simp
    rw [hr] at h
    obtain ⟨h1, h2⟩ := ih h.2
    refine ⟨by simp only [pass, List.foldl_cons, hr]; exact h1, fun e' he => ?_⟩
    rcases List.mem_cons.mp he with rfl | he
    · exact h.1
    · exact h2 e' he
theorem still_of {E : List Ed} : ∀ {s : Su}, (∀ e ∈ E, hit s e = false) → chg s E = false := by
  induction E with
  | nil => intro s h; rfl
  | cons e E ih =>
    intro s h
    have h1 := h e List.mem_cons_self
    have hr : rel s e = s := by unfold rel; rw [h1]; simp
    simp only [chg, h1, Bool.false_or, hr]
    exact ih fun e' he => h e' (List.mem_cons_of_mem _ he)
/-- the rounds -/
def passes (E : List Ed) (s : Su) : Nat → Su
  | 0 => s
  | n + 1 => pass (passes E s n) E
theorem passes_still {E : List Ed} {s : Su} {k : Nat} (h : chg (passes E s k) E = false) : ∀ m, k ≤ m → passes E s m = passes E s k ∧ chg (passes E s m) E = false := by
  intro m hm
  induction m with
  | zero =>
    have : k = 0 := by omega
    subst this; exact ⟨rfl, h⟩
  | succ m ih =>
    by_cases e : k = m + 1
    · subst e; exact ⟨rfl, h⟩
    · obtain ⟨h1, h2⟩ := ih (by omega)
      have h3 := (pass_still h2).1
      have : passes E s (m + 1) = passes E s m := h3
      rw [this]; exact ⟨h1, h2⟩

/-! ### potentials, rounds that fall -/
def Pot (E : List Ed) (h : Nat → Int) : Prop := ∀ e ∈ E, h e.2.1 ≤ h e.1 + e.2.2
def sumI : List Int → Int
  | [] => 0
  | x :: xs => x + sumI xs
theorem sumI_append (a b : List Int) : sumI (a ++ b) = sumI a + sumI b := by
  induction a with
  | nil => simp [sumI]
  | cons x a ih => simp [sumI, ih]; omega
theorem sumI_reverse (a : List Int) : sumI a.reverse = sumI a := by
  induction a with
  | nil => rfl
  | cons x a ih => simp [sumI_append, sumI, ih]; omega
theorem sumI_le {α : Type} (f g : α → Int) : ∀ (l : List α), (∀ a ∈ l, f a ≤ g a) → sumI (l.map f) ≤ sumI (l.map g)
  | [], _ => Int.le_refl _
  | a :: l, h => by
    have h1 := h a List.mem_cons_self
    have h2 := sumI_le f g l fun b hb => h b (List.mem_cons_of_mem _ hb)
    simp only [List.map_cons, sumI]; omega
theorem sumI_lt {α : Type} (f g : α → Int) : ∀ (l : List α), (∀ a ∈ l, f a ≤ g a) → (∃ a ∈ l, f a < g a) → sumI (l.map f) < sumI (l.map g)
  | [], _, ⟨a, h, _⟩ => by cases h
  | a :: l, h, ⟨b, hb, hlt⟩ => by
    have h1 := h a List.mem_cons_self
    have h2 := sumI_le f g l fun b hb => h b (List.mem_cons_of_mem _ hb)
    simp only [List.map_cons, sumI]
    rcases List.mem_cons.mp hb with rfl | hb
    · omega
    · have h3 := sumI_lt f g l (fun b hb => h b (List.mem_cons_of_mem _ hb)) ⟨b, hb, hlt⟩
      omega
/-- the weight at a place -/
def wt (E : List Ed) (p : Nat) : Int := (E.getD p (0, 0, 0)).2.2
/-- q: places of E, one behind the other around, no place twice, of negative total -/
structure Falls (E : List Ed) (q : List Nat) : Prop where
  ne : q ≠ []
  nd : q.Nodup
  pts : ∃ pt : Nat → Nat, pt q.length = pt 0 ∧ ∀ (k p : Nat), q[k]? = some p → ∃ w, E[p]? = some (pt k, pt (k + 1), w)
  neg : sumI (q.map (wt E)) < 0
theorem tele (f : Nat → Int) : ∀ m, sumI ((List.range m).map fun k => f (k + 1) - f k) = f m - f 0
  | 0 => by simp [sumI]
  | m + 1 => by
    rw [List.range_succ, List.map_append, sumI_append, tele f m]
    simp [sumI]; omega
theorem sum_ix (q : List Nat) (f : Nat → Int) : sumI (q.map f) = sumI ((List.range q.length).map fun k => f (q.getD k 0)) := by
  congr 1
  apply List.ext_getElem
  · simp
  · intro k h1 h2
    simp at h1
    simp [List.getD_eq_getElem?_getD, List.getElem?_eq_getElem h1]
theorem Falls.noPot {E : List Ed} {q : List Nat} (f : Falls E q) {h : Nat → Int} (p : Pot E h) : False := by
  obtain ⟨pt, e, st⟩ := f.pts
  have key : sumI ((List.range q.length).map fun k => h (pt (k + 1)) - h (pt k)) ≤ sumI ((List.range q.length).map fun k => wt E (q.getD k 0)) := by
    refine sumI_le _ _ _ fun k hk => ?_
    have hk := List.mem_range.mp hk
    obtain ⟨w, hw⟩ := st k q[k] (List.getElem?_eq_getElem hk)
    have hp := p _ (List.mem_of_getElem? hw)
    have e1 : q.getD k 0 = q[k] := by simp [List.getD_eq_getElem?_getD, List.getElem?_eq_getElem hk]
    have e2 : wt E (q.getD k 0) = w := by unfold wt; rw [e1, List.getD_eq_getElem?_getD, hw]; rfl
    simp only [e2]
    have hp : h (pt (k + 1)) ≤ h (pt k) + w := hp
    omega
  rw [tele (fun k => h (pt k)), e, ← sum_ix] at key
  have := f.neg
  omega

/-! ### what the rounds leave behind -/
structure Gh where
  s : Su
  pred : Nat → Option Nat
  tau : Nat → Nat
  rnd : Nat → Nat
  now : Nat
def setN {α : Type} (f : Nat → α) (v : Nat) (x : α) : Nat → α := fun i => if i = v then x else f i
def gst (r i : Nat) (e : Ed) (g : Gh) : Gh := if hit g.s e = true then ⟨up g.s e.2.1 ((g.s e.1).getD 0 + e.2.2), setN g.pred e.2.1 (some i), setN g.tau e.2.1 g.now, setN g.rnd e.2.1 r, g.now + 1⟩ else g
def gfrom (r : Nat) : Nat → Gh → List Ed → Gh
  | _, g, [] => g
  | i, g, e :: E => gfrom r (i + 1) (gst r i e g) E
def g0 (s : Su) : Gh := ⟨s, fun _ => none, fun _ => 0, fun _ => 0, 1⟩
/-- behind k rounds -/
def grun (E : List Ed) (s : Su) : Nat → Gh
  | 0 => g0 s
  | k + 1 => gfrom (k + 1) 0 (grun E s k) E
theorem gst_s {r i : Nat} {e : Ed} {g : Gh} : (gst r i e g).s = rel g.s e := by
  unfold gst rel
  split <;> rfl
theorem gfrom_s {r : Nat} : ∀ {E : List Ed} {i : Nat} {g : Gh}, (gfrom r i g E).s = pass g.s E
  | [], _, _ => rfl
  | e :: E, i, g => by
    rw [gfrom, gfrom_s, gst_s]; rfl
theorem grun_s {E : List Ed} {s : Su} : ∀ k, (grun E s k).s = passes E s k
  | 0 => rfl
  | k + 1 => by rw [grun, gfrom_s, grun_s k]; rfl
structure Inv (E : List Ed) (r i : Nat) (g : Gh) : Prop where
  a : ∀ v p, g.pred v = some p → ∃ u w a b, E[p]? = some (u, v, w) ∧ g.s u = some a ∧ g.s v = some b ∧ a + w ≤ b ∧ (g.tau v ≤ g.tau u → a + w < b) ∧ g.rnd v ≤ g.rnd u + 1
  b : ∀ v, g.tau v < g.now
  c : ∀ v, 1 ≤ g.rnd v ↔ g.pred v ≠ none
  d : ∀ v, g.rnd v ≤ r
  e : ∀ j e, E[j]? = some e → 1 ≤ (if j < i then r else r - 1) → g.rnd e.1 < (if j < i then r else r - 1) → hit g.s e = false
theorem Inv.start (E : List Ed) (s : Su) : Inv E 1 0 (g0 s) := by
  refine ⟨fun v p h => ?_, fun v => ?_, fun v => ?_, fun v => Nat.zero_le _, fun j e _ h => ?_⟩
  · cases h
  · show 0 < 1; omega
  · show 1 ≤ 0 ↔ none ≠ none; simp
  · simp at h
theorem Inv.next {E : List Ed} {r : Nat} {g : Gh} (h : Inv E r E.length g) : Inv E (r + 1) 0 g := by
  refine ⟨h.a, h.b, h.c, fun v => Nat.le_succ_of_le (h.d v), fun j e he h1 h2 => ?_⟩
  have hj := (List.getElem?_eq_some_iff.mp he).1
  simp at h1 h2
  exact h.e j e he (by rw [if_pos hj]; exact h1) (by rw [if_pos hj]; exact h2)
theorem hit_up {s : Su} {v : Nat} {x : Int} {e : Ed} (h : hit s e = false) (hu : e.1 ≠ v) (hx : e.2.1 = v → ∀ b, s v = some b → x ≤ b) : hit (up s v x) e = false := by
  unfold hit at h ⊢
  rw [up_ne hu]
  cases q : s e.1 with
  | none => rfl
  | some a =>
    rw [q] at h
    simp only at h ⊢
    by_cases ev : e.2.1 = v
    · rw [ev, up_same]
      rw [ev] at h
      cases q2 : s v with
      | none => rw [q2] at h; cases h
      | some b =>
        rw [q2] at h
        have := hx ev b q2
        simp at h ⊢
        omega
    · rw [up_ne ev]; exact h
theorem hit_some {s : Su} {e : Ed} (h : hit s e = true) : ∃ a, s e.1 = some a ∧ ∀ b, s e.2.1 = some b → a + e.2.2 < b := by
  unfold hit at h
  cases q : s e.1 with
  | none => rw [q] at h; cases h
  | some a =>
    rw [q] at h
    refine ⟨a, rfl, fun b hb => ?_⟩
    rw [hb] at h
    simpa using h
theorem Inv.step {E : List Ed} {r i : Nat} {g : Gh} {e : Ed} (h : Inv E r i g) (hr : 1 ≤ r) (he : E[i]? = some e) : Inv E r (i + 1) (gst r i e g) := by
  unfold gst
  by_cases hh : hit g.s e = true
  · rw [if_pos hh]
    obtain ⟨u, v, w⟩ := e
    obtain ⟨a0, ha0, hlt⟩ := hit_some hh
    simp only at ha0 hlt
    -- u was lowered lately
    have hru : r ≤ g.rnd u + 1 := by
      by_cases z : 1 ≤ r - 1 ∧ g.rnd u < r - 1
      · have := h.e i _ he (by rw [if_neg (Nat.lt_irrefl _)]; exact z.1) (by rw [if_neg (Nat.lt_irrefl _)]; exact z.2)
        rw [this] at hh; cases hh
      · omega
    refine ⟨fun y p hp => ?_, fun y => ?_, fun y => ?_, fun y => ?_, fun j e' he' h1 h2 => ?_⟩
    · simp only [setN] at hp ⊢
      by_cases hy : y = v
      · subst hy
        rw [if_pos rfl] at hp
        cases hp
        by_cases huy : u = y
        · subst huy
          refine ⟨u, w, a0 + w, a0 + w, he, ?_, ?_, ?_, ?_, ?_⟩
          · show up g.s u _ u = _; rw [up_same, ha0]; rfl
          · show up g.s u _ u = _; rw [up_same, ha0]; rfl
          · have := hlt a0 ha0; omega
          · intro _; have := hlt a0 ha0; omega
          · simp
        · refine ⟨u, w, a0, a0 + w, he, ?_, ?_, Int.le_refl _, ?_, ?_⟩
          · show up g.s y _ u = _; rw [up_ne huy]; exact ha0
          · show up g.s y _ y = _; rw [up_same, ha0]; rfl
          · intro ht
            simp only [if_neg huy, if_true] at ht
            have := h.b u
            omega
          · simp only [if_neg huy, if_true]; omega
      · rw [if_neg hy] at hp
        obtain ⟨u', w', a, b, k1, k2, k3, k4, k5, k6⟩ := h.a y p hp
        by_cases hu' : u' = v
        · subst hu'
          have := hlt a k2
          refine ⟨u', w', a0 + w, b, k1, ?_, ?_, by omega, fun _ => by omega, ?_⟩
          · show up g.s u' _ u' = _; rw [up_same, ha0]; rfl
          · show up g.s u' _ y = _; rw [up_ne hy]; exact k3
          · simp only [if_neg hy, if_true]
            have := h.d y
            omega
        · refine ⟨u', w', a, b, k1, ?_, ?_, k4, ?_, ?_⟩
          · show up g.s v _ u' = _; rw [up_ne hu']; exact k2
          · show up g.s v _ y = _; rw [up_ne hy]; exact k3
          · simp only [if_neg hy, if_neg hu']; exact k5
          · simp only [if_neg hy, if_neg hu']; exact k6
    · simp only [setN]
      have := h.b y
      split <;> omega
    · simp only [setN]
      by_cases hy : y = v
      · simp [hy, hr]
      · simp only [if_neg hy]; exact h.c y
    · simp only [setN]
      have := h.d y
      split <;> omega
    · simp only [setN] at h2
      simp only
      by_cases hj : j = i
      · subst hj
        rw [he] at he'; cases he'
        rw [if_pos (Nat.lt_succ_self _)] at h2
        simp only at h2 ⊢
        by_cases huv : u = v
        · rw [if_pos huv] at h2; omega
        · have e1 : up g.s v ((g.s u).getD 0 + w) u = some a0 := by rw [up_ne huv]; exact ha0
          have e2 : (g.s u).getD 0 + w = a0 + w := by rw [ha0]; rfl
          rw [e2] at e1 ⊢
          unfold hit
          simp only [e1, up_same]
          simp
      · have hq : (if j < i + 1 then r else r - 1) = (if j < i then r else r - 1) := by
          by_cases z : j < i
          · rw [if_pos z, if_pos (by omega)]
          · rw [if_neg z, if_neg (by omega)]
        rw [hq] at h1 h2
        by_cases huv : e'.1 = v
        · rw [if_pos huv] at h2
          exfalso
          split at h2 <;> omega
        · rw [if_neg huv] at h2
          refine hit_up (h.e j e' he' h1 h2) huv fun _ b hb => ?_
          have := hlt b hb
          rw [ha0]
          simp only [Option.getD_some]
          omega
  · rw [if_neg hh]
    refine ⟨h.a, h.b, h.c, h.d, fun j e' he' h1 h2 => ?_⟩
    by_cases hj : j = i
    · subst hj
      rw [he] at he'; cases he'
      simpa using hh
    · have hq : (if j < i + 1 then r else r - 1) = (if j < i then r else r - 1) := by
        by_cases z : j < i
        · rw [if_pos z, if_pos (by omega)]
        · rw [if_neg z, if_neg (by omega)]
      rw [hq] at h1 h2
      exact h.e j e' he' h1 h2
theorem Inv.from_ {E : List Ed} {r : Nat} (hr : 1 ≤ r) : ∀ (F : List Ed) (i : Nat) (g : Gh), (∀ k e, F[k]? = some e → E[i + k]? = some e) → i + F.length = E.length → Inv E r i g → Inv E r E.length (gfrom r i g F)
  | [], i, g, _, hl, h => by
    have : i = E.length := by simpa using hl
    subst this; exact h
  | e :: F, i, g, hF, hl, h => by
    rw [gfrom]
    refine Inv.from_ hr F (i + 1) _ (fun k e' hk => ?_) (by simp at hl; omega) (h.step hr (hF 0 e rfl))
    have := hF (k + 1) e' hk
    rw [show i + 1 + k = i + (k + 1) by omega]; exact this
theorem Inv.run (E : List Ed) (s : Su) : ∀ k, Inv E (k + 1) 0 (grun E s k)
  | 0 => Inv.start E s
  | k + 1 => (Inv.from_ (by omega) E 0 _ (fun k e h => by rw [Nat.zero_add]; exact h) (by omega) (Inv.run E s k)).next
theorem Inv.runEnd (E : List Ed) (s : Su) (k : Nat) : Inv E (k + 1) E.length (grun E s (k + 1)) := Inv.from_ (by omega) E 0 _ (fun k e h => by rw [Nat.zero_add]; exact h) (by omega) (Inv.run E s k)
/-- in round r -/
theorem gfrom_rnd {r : Nat} : ∀ {E : List Ed} {i : Nat} {g : Gh}, (chg g.s E = true → ∃ v, (gfrom r i g E).rnd v = r) ∧ (chg g.s E = false → (gfrom r i g E) = g)
  | [], i, g => ⟨fun h => (by cases h), fun _ => rfl⟩
  | e :: E, i, g => by
    have ih := gfrom_rnd (r := r) (E := E) (i := i + 1) (g := gst r i e g)
    have keep : ∀ {E : List Ed} {i : Nat} {g : Gh} {v : Nat}, g.rnd v = r → (gfrom r i g E).rnd v = r := by
      intro E2
      induction E2 with
      | nil => intro i g v h; exact h
      | cons e E2 ih =>
        intro i g v h
        rw [gfrom]
        refine ih ?_
        unfold gst
        split
        · simp only [setN]; split <;> simp [h]
        · exact h
    rw [gfrom]
    simp only [chg, Bool.or_eq_true, Bool.or_eq_false_iff]
    rw [gst_s] at ih
    refine ⟨fun h => ?_, fun h => ?_⟩
    · by_cases hh : hit g.s e = true
      · refine ⟨e.2.1, keep ?_⟩
        unfold gst
        rw [if_pos hh]
        simp [setN]
      · rcases h with h | h
        · exact absurd h hh
        · exact ih.1 h
    · have hg : gst r i e g = g := by unfold gst; rw [h.1]; simp
      have := ih.2 h.2
      rw [hg] at this ⊢
      exact this

/-! ### the way back -/
def nx (E : List Ed) (g : Gh) (v : Nat) : Nat := (E.getD ((g.pred v).getD 0) (0, 0, 0)).1
def xs (E : List Ed) (g : Gh) (v : Nat) : Nat → Nat
  | 0 => v
  | k + 1 => nx E g (xs E g v k)
theorem xs_add (E : List Ed) (g : Gh) (v j : Nat) : ∀ k, xs E g v (j + k) = xs E g (xs E g v j) k
  | 0 => rfl
  | k + 1 => by show nx E g (xs E g v (j + k)) = nx E g (xs E g (xs E g v j) k); rw [xs_add E g v j k]
theorem nx_of {E : List Ed} {g : Gh} {v p u : Nat} {w : Int} (h : g.pred v = some p) (e : E[p]? = some (u, v, w)) : nx E g v = u := by
  unfold nx
  rw [h]
  simp [List.getD_eq_getElem?_getD, e]
theorem chain {E : List Ed} {r : Nat} {g : Gh} (h : Inv E r E.length g) {v : Nat} (hv : g.rnd v = r) : ∀ k, k < r → r ≤ g.rnd (xs E g v k) + k ∧ ∃ p, g.pred (xs E g v k) = some p
  | 0, hk => by
    refine ⟨by show r ≤ g.rnd v + 0; omega, ?_⟩
    exact Option.ne_none_iff_exists'.mp ((h.c v).mp (by omega))
  | k + 1, hk => by
    obtain ⟨h1, p, hp⟩ := chain h hv k (by omega)
    obtain ⟨u, w, a, b, k1, k2, k3, k4, k5, k6⟩ := h.a _ p hp
    have e : xs E g v (k + 1) = u := nx_of hp k1
    rw [e]
    have h2 : r ≤ g.rnd u + (k + 1) := by omega
    exact ⟨h2, Option.ne_none_iff_exists'.mp ((h.c u).mp (by omega))⟩
theorem nodup_le : ∀ (n : Nat) (l : List Nat), l.Nodup → (∀ x ∈ l, x < n) → l.length ≤ n
  | 0, l, _, h => by
    cases l with
    | nil => exact Nat.le_refl _
    | cons x l => exact absurd (h x List.mem_cons_self) (Nat.not_lt_zero _)
  | n + 1, l, nd, h => by
    have h1 := nodup_le n (l.erase n) (nd.erase n) fun x hx => by
      have hx1 := h x (List.mem_of_mem_erase hx)
      have hx2 : x ≠ n := fun e => by subst e; exact (List.Nodup.not_mem_erase nd) hx
      omega
    have := List.length_erase_le (a := n) (l := l)
    by_cases z : n ∈ l
    · have := List.length_erase_of_mem z; omega
    · have := List.erase_of_not_mem z; rw [this] at h1; omega
/-- the round that closes at y: places -/
theorem falls_of {E : List Ed} {r : Nat} {g : Gh} (h : Inv E r E.length g) {y m : Nat} (hm : 1 ≤ m) (hp : ∀ l, l < m → ∃ p, g.pred (xs E g y l) = some p) (hc : xs E g y m = y) (hd : ∀ l, 1 ≤ l → l < m → xs E g y l ≠ y) :
    Falls E ((List.range m).map fun l => (g.pred (xs E g y l)).getD 0).reverse := by
  have at_ : ∀ l, l < m → ∃ p w a b, g.pred (xs E g y l) = some p ∧ E[p]? = some (xs E g y (l + 1), xs E g y l, w) ∧ g.s (xs E g y (l + 1)) = some a ∧ g.s (xs E g y l) = some b ∧ a + w ≤ b ∧ (g.tau (xs E g y l) ≤ g.tau (xs E g y (l + 1)) → a + w < b) := by
    intro l hl
    obtain ⟨p, hp⟩ := hp l hl
    obtain ⟨u, w, a, b, k1, k2, k3, k4, k5, k6⟩ := h.a _ p hp
    have e : xs E g y (l + 1) = u := nx_of hp k1
    rw [e]
    exact ⟨p, w, a, b, hp, k1, k2, k3, k4, k5⟩
  have inj : ∀ i j, i < j → j < m → xs E g y i ≠ xs E g y j := by
    intro i j hij hj e
    have e1 : xs E g y (i + (m - j)) = xs E g y (j + (m - j)) := by rw [xs_add, xs_add, e]
    rw [show j + (m - j) = m by omega, hc] at e1
    exact hd _ (by omega) (by omega) e1
  refine ⟨by simp; omega, ?_, ⟨fun k => xs E g y (m - k), ?_, fun k p hk => ?_⟩, ?_⟩
  · rw [(List.reverse_perm _).nodup_iff]
    rw [List.nodup_iff_pairwise_ne, List.pairwise_map]
    refine List.Pairwise.imp_of_mem ?_ (List.pairwise_lt_range (n := m))
    intro i j hi hj hij e
    have hj := List.mem_range.mp hj
    obtain ⟨p1, w1, a1, b1, q1, q2, _⟩ := at_ i (by omega)
    obtain ⟨p2, w2, a2, b2, t1, t2, _⟩ := at_ j hj
    rw [q1, t1] at e
    simp at e
    subst e
    rw [q2] at t2
    simp at t2
    exact inj i j hij hj t2.2.1
  · simp; exact hc.symm
  · have hkm : k < m := by
      have := (List.getElem?_eq_some_iff.mp hk).1
      simpa using this
    rw [List.getElem?_reverse (by simpa using hkm)] at hk
    simp only [List.length_map, List.length_range] at hk
    rw [List.getElem?_map, List.getElem?_range (by omega)] at hk
    simp at hk
    obtain ⟨p1, w1, a1, b1, q1, q2, _⟩ := at_ (m - 1 - k) (by omega)
    rw [q1] at hk
    simp at hk
    subst hk
    refine ⟨w1, ?_⟩
    rw [show m - 1 - k + 1 = m - k by omega] at q2
    show E[p1]? = some (xs E g y (m - k), xs E g y (m - (k + 1)), w1)
    rw [show m - (k + 1) = m - 1 - k by omega]
    exact q2
  · rw [List.map_reverse, sumI_reverse, List.map_map]
    have zero : sumI ((List.range m).map fun l => (g.s (xs E g y (l + 1))).getD 0 - (g.s (xs E g y l)).getD 0) = 0 := by
      rw [tele (fun l => (g.s (xs E g y l)).getD 0), hc]
      show (g.s y).getD 0 - (g.s y).getD 0 = 0
      omega
    have neg : sumI ((List.range m).map ((wt E) ∘ fun l => (g.pred (xs E g y l)).getD 0)) < sumI ((List.range m).map fun l => -((g.s (xs E g y (l + 1))).getD 0 - (g.s (xs E g y l)).getD 0)) := by
      have wtE : ∀ l p w, g.pred (xs E g y l) = some p → E[p]? = some (xs E g y (l + 1), xs E g y l, w) → ((wt E) ∘ fun l => (g.pred (xs E g y l)).getD 0) l = w := fun l p w q1 q2 => by
        simp only [Function.comp, q1, Option.getD_some]
        unfold wt
        rw [List.getD_eq_getElem?_getD, q2]; rfl
      refine sumI_lt _ _ _ (fun l hl => ?_) ?_
      · obtain ⟨p, w, a, b, q1, q2, q3, q4, q5, q6⟩ := at_ l (List.mem_range.mp hl)
        rw [wtE l p w q1 q2, q3, q4]
        simp only [Option.getD_some]
        omega
      · -- somewhere the later one is not older
        have ex : ∃ l, l < m ∧ g.tau (xs E g y l) ≤ g.tau (xs E g y (l + 1)) := by
          apply Classical.byContradiction
          intro z
          have dec : ∀ l, l ≤ m → g.tau (xs E g y l) + l ≤ g.tau y := by
            intro l
            induction l with
            | zero => intro _; show g.tau y + 0 ≤ g.tau y; omega
            | succ l ih =>
              intro hl
              have h1 := ih (by omega)
              have h2 : ¬ g.tau (xs E g y l) ≤ g.tau (xs E g y (l + 1)) := fun q => z ⟨l, by omega, q⟩
              omega
          have := dec m (Nat.le_refl _)
          rw [hc] at this
          omega
        obtain ⟨l, hl, ht⟩ := ex
        obtain ⟨p, w, a, b, q1, q2, q3, q4, q5, q6⟩ := at_ l hl
        refine ⟨l, List.mem_range.mpr hl, ?_⟩
        rw [wtE l p w q1 q2, q3, q4]
        simp only [Option.getD_some]
        have := q6 ht
        omega
    have e3 : ∀ (f : Nat → Int) (l : List Nat), sumI (l.map fun x => -(f x)) = -sumI (l.map f) := by
      intro f l
      induction l with
      | nil => rfl
      | cons x l ih => simp only [List.map_cons, sumI, ih]; omega
    rw [e3, zero] at neg
    omega
/-- n + 1 rounds that all lower leave a falling round behind -/
theorem cycle_of {E : List Ed} {n : Nat} {g : Gh} (hE : ∀ e ∈ E, e.1 < n ∧ e.2.1 < n) (h : Inv E (n + 1) E.length g) {v : Nat} (hv : g.rnd v = n + 1) : ∃ q, Falls E q := by
  have ltn : ∀ k, k ≤ n → xs E g v k < n := by
    intro k hk
    obtain ⟨_, p, hp⟩ := chain h hv k (by omega)
    obtain ⟨u, w, a, b, k1, _⟩ := h.a _ p hp
    exact (hE _ (List.mem_of_getElem? k1)).2
  -- two of them are one
  have ex : ∃ i j, i < j ∧ j ≤ n ∧ xs E g v i = xs E g v j := by
    apply Classical.byContradiction
    intro z
    have nd : ((List.range (n + 1)).map (xs E g v)).Nodup := by
      rw [List.nodup_iff_pairwise_ne, List.pairwise_map]
      refine List.Pairwise.imp_of_mem ?_ (List.pairwise_lt_range (n := n + 1))
      intro i j hi hj hij e
      have hj := List.mem_range.mp hj
      exact z ⟨i, j, hij, by omega, e⟩
    have := nodup_le n _ nd fun x hx => by
      obtain ⟨k, hk, rfl⟩ := List.mem_map.mp hx
      have := List.mem_range.mp hk
      exact ltn k (by omega)
    simp at this
    omega
  obtain ⟨i, j, hij, hj, e⟩ := ex
  -- the least period
  have per : ∃ m, 1 ≤ m ∧ i + m ≤ n ∧ xs E g (xs E g v i) m = xs E g v i ∧ ∀ l, 1 ≤ l → l < m → xs E g (xs E g v i) l ≠ xs E g v i := by
    have base : ∃ m, 1 ≤ m ∧ i + m ≤ n ∧ xs E g (xs E g v i) m = xs E g v i := ⟨j - i, by omega, by omega, by rw [← xs_add, show i + (j - i) = j by omega]; exact e.symm⟩
    obtain ⟨m0, hm0⟩ := base
    induction m0 using Nat.strongRecOn with
    | ind m ih =>
      by_cases z : ∃ l, 1 ≤ l ∧ l < m ∧ xs E g (xs E g v i) l = xs E g v i
      · obtain ⟨l, l1, l2, l3⟩ := z
        exact ih l l2 ⟨l1, by omega, l3⟩
      · exact ⟨m, hm0.1, hm0.2.1, hm0.2.2, fun l l1 l2 l3 => z ⟨l, l1, l2, l3⟩⟩
  obtain ⟨m, m1, m2, m3, m4⟩ := per
  exact ⟨_, falls_of h m1 (fun l hl => by rw [← xs_add]; exact (chain h hv (i + l) (by omega)).2) m3 m4⟩
end RX

set_option Elab.async false
set_option linter.all false
set_option maxRecDepth 100000
set_option maxHeartbeats 2000000
set_option autoImplicit false
namespace K68
open PySem PySem.Spec PyProof.Rows L2 Sh RX

/-! ### small ones -/
theorem is_integer_ok {d : D} {S : Sto} {t : String} (h : tyOf d S = some t) {X : Ex → Sto → Prop} {Q : D → Sto → Prop} (hQ : Q (.bl (decide (t = "int"))) S) : (d_is_integer [d] S).ok Q X := by
  unfold d_is_integer
  rw [w_fn]
  refine ⟨rfl, ?_⟩
  unfold d_is_integer_b
  simp only [w_var, w_c, w_bin, w_un, w_dB, wt_and, wt_or, wt_not, w_if, w_andV, w_orV, w_notV, w_anil, w_acons, w_call, w_app, w_tup, w_lst, w_dict, w_onone, w_osome, w_sl, w_tru, w_chain, w_meth, w_lc, w_nop, w_brk, w_cnt, w_seq, w_ret, w_retN, w_drop, w_ifS, w_asg, w_gN, w_gN0, w_gT, w_gT0, w_gnil, w_gnil0, w_gcons, w_gnsnil0, w_gnscons0, w_gsub, w_par, w_par3, w_aug, w_for, w_range1, w_range2, w_seqI, w_enum, okO_some, okS_some, okV_some, okB_bl, okI_int, okT_tup, okC_some, okQ_tup, okO_newL, okO_if, okO_ifL, okS_if, ok2_two, ok3_three, f1, f2, br_true, br_false, br_dec, Option.map_some, ok_val, List.map_cons, List.map_nil, List.cons_append, List.nil_append, List.replicate_succ, List.replicate_zero, List.getElem?_cons_zero, List.getElem?_cons_succ, List.set_cons_zero, List.set_cons_succ, List.length_cons, List.length_nil, Nat.reduceSub, Nat.reduceAdd, Nat.reduceLeDiff, true_and, and_true, ne_eq, not_true_eq_false, not_false_eq_true, forall_const, wipeE, fIsi, h]
  have ht := tyOf_in h
  simp only [List.mem_cons, List.not_mem_nil, or_false] at ht
  rcases ht with rfl | rfl | rfl | rfl | rfl | rfl | rfl <;> simp [isTy, okO, okB, br, gc_non, lo_bl, h] <;> simpa using hQ
theorem is_tuple_ok {d : D} {S : Sto} {t : String} (h : tyOf d S = some t) {m : Nat} {X : Ex → Sto → Prop} {Q : D → Sto → Prop}
    (hT : ∀ xs, d = .tup xs → Q (.bl (decide (xs.length = m))) S) (hN : t ≠ "tuple" → Q (.bl false) S) : (d_is_tuple [d, .int (m : Nat)] S).ok Q X := by
  unfold d_is_tuple
  rw [w_fn]
  refine ⟨rfl, ?_⟩
  unfold d_is_tuple_b
  simp only [w_var, w_c, w_bin, w_un, w_dB, wt_and, wt_or, wt_not, w_if, w_andV, w_orV, w_notV, w_anil, w_acons, w_call, w_app, w_tup, w_lst, w_dict, w_onone, w_osome, w_sl, w_tru, w_chain, w_meth, w_lc, w_nop, w_brk, w_cnt, w_seq, w_ret, w_retN, w_drop, w_ifS, w_asg, w_gN, w_gN0, w_gT, w_gT0, w_gnil, w_gnil0, w_gcons, w_gnsnil0, w_gnscons0, w_gsub, w_par, w_par3, w_aug, w_for, w_range1, w_range2, w_seqI, w_enum, okO_some, okS_some, okV_some, okB_bl, okI_int, okT_tup, okC_some, okQ_tup, okO_newL, okO_if, okO_ifL, okS_if, ok2_two, ok3_three, f1, f2, br_true, br_false, br_dec, Option.map_some, ok_val, List.map_cons, List.map_nil, List.cons_append, List.nil_append, List.replicate_succ, List.replicate_zero, List.getElem?_cons_zero, List.getElem?_cons_succ, List.set_cons_zero, List.set_cons_succ, List.length_cons, List.length_nil, Nat.reduceSub, Nat.reduceAdd, Nat.reduceLeDiff, true_and, and_true, ne_eq, not_true_eq_false, not_false_eq_true, forall_const, wipeE, fIsi, h]
  by_cases e : t = "tuple"
  · subst e
    obtain ⟨xs, rfl⟩ : ∃ xs, d = .tup xs := by
      cases d with
      | tup xs => exact ⟨xs, rfl⟩
      | loc n =>
        simp only [tyOf] at h
        split at h <;> first | (cases h; done) | (simp at h)
      | _ => first | (cases h; done) | (simp [tyOf] at h)
    have := hT xs rfl
    simp [isTy, okO, okB, br, gc_non, lo_bl, fEq, scalD, fLen, Int.ofNat_inj]
    exact this
  · have ht := tyOf_in h
    simp only [List.mem_cons, List.not_mem_nil, or_false] at ht
    have hq := hN e
    rcases ht with rfl | rfl | rfl | rfl | rfl | rfl | rfl <;> first | (exact absurd rfl e) | (simp [isTy, okO, okB, br, gc_non, lo_bl]; exact hq)

/-! ### the data -/
def eD (e : Ed) : D := .tup [.int (e.1 : Nat), .int (e.2.1 : Nat), .int e.2.2]
abbrev esD (E : List Ed) : List D := E.map eD
def oD : Option Int → D
  | none => .non
  | some i => .int i
def suD (n : Nat) (s : Su) : List D := (List.range n).map fun i => oD (s i)
theorem suD_len {n : Nat} {s : Su} : (suD n s).length = n := by simp [suD]
theorem suD_at {n : Nat} {s : Su} {u : Nat} (h : u < n) : atI (suD n s) (u : Nat) = some (oD (s u)) := atI_nat rfl (by simp [suD, h])
theorem suD_set {n : Nat} {s : Su} {u : Nat} {x : Int} (h : u < n) : (suD n s).set u (.int x) = suD n (up s u x) := by
  apply List.ext_getElem
  · simp [suD]
  · intro k h1 h2
    simp [suD] at h1
    rw [List.getElem_set]
    by_cases e : u = k
    · subst e; simp [suD, up_same, oD]
    · have : up s u x k = s k := up_ne fun z => e z.symm
      simp [suD, e, this]
theorem ixN_nat {n u : Nat} (h : u < n) : ixN n (u : Nat) = some u := by unfold ixN; rw [if_pos (by omega), if_pos (by omega)]; simp
theorem oD_non {o : Option Int} : isNon (oD o) = o.isNone := by cases o <;> rfl
theorem oD_lo {o : Option Int} {k : Nat} : (oD o).lo k = True := by cases o <;> simp [oD, lo_non, lo_int]
theorem suD_lo {n k : Nat} {s : Su} : Ob.lo k (.lst (suD n s)) := la_map fun a _ => by rw [oD_lo]; exact True.intro

/-! ### settle -/
structure LowOk (kvs : List (Key × D)) (f : Nat → Option Nat) : Prop where
  val : ∀ v : Nat, valD kvs (.inl (v : Nat)) = (f v).map fun p => .int (p : Nat)
  key : ∀ kv ∈ kvs, (∃ v : Nat, kv.1 = .inl (v : Nat) ∧ f v ≠ none) ∧ ∃ i : Int, kv.2 = .int i
theorem LowOk.nil : LowOk [] fun _ => none := ⟨fun _ => rfl, fun kv h => by cases h⟩
theorem LowOk.put {kvs : List (Key × D)} {f : Nat → Option Nat} (h : LowOk kvs f) (v p : Nat) : LowOk (putD kvs (.inl (v : Nat)) (.int (p : Nat))) (setN f v (some p)) := by
  refine ⟨fun u => ?_, fun kv hk => ?_⟩
  · rw [valD_put, h.val]
    unfold setN
    by_cases e : u = v
    · subst e; simp
    · have : ¬ ((.inl (v : Int) : Key) = .inl (u : Int)) := fun z => by
        simp only [Sum.inl.injEq] at z
        omega
      rw [if_neg this, if_neg e]
  · rcases put_keys hk with ⟨h1, h2⟩ | h1
    · exact ⟨⟨v, h1, by simp [setN]⟩, ⟨p, h2⟩⟩
    · obtain ⟨⟨u, h2, h3⟩, h4⟩ := h.key kv h1
      refine ⟨⟨u, h2, ?_⟩, h4⟩
      unfold setN
      split
      · simp
      · exact h3
theorem LowOk.lo {kvs : List (Key × D)} {f : Nat → Option Nat} (h : LowOk kvs f) {k : Nat} : Ob.lo k (.dct kvs) := by
  rw [lo_dct, loK_iff]
  intro kv hk
  obtain ⟨_, i, e⟩ := h.key kv hk
  rw [e, lo_int]; exact True.intro
theorem LowOk.ext {kvs : List (Key × D)} {f f' : Nat → Option Nat} (h : LowOk kvs f) (e : ∀ v, f v = f' v) : LowOk kvs f' := by
  have : f = f' := funext e
  rw [← this]; exact h
theorem LowOk.nil_iff {kvs : List (Key × D)} {f : Nat → Option Nat} (h : LowOk kvs f) : kvs = [] ↔ ∀ v, f v = none := by
  constructor
  · intro e v
    have := h.val v
    rw [e] at this
    cases q : f v with
    | none => rfl
    | some p => rw [q] at this; cases this
  · intro e
    cases kvs with
    | nil => rfl
    | cons kv r =>
      obtain ⟨⟨v, _, h1⟩, _⟩ := h.key kv List.mem_cons_self
      exact absurd (e v) h1
theorem gfrom_snoc {r : Nat} {e : Ed} : ∀ {A : List Ed} {i : Nat} {g : Gh}, gfrom r i g (A ++ [e]) = gst r (i + A.length) e (gfrom r i g A)
  | [], _, _ => rfl
  | a :: A, i, g => by
    rw [List.cons_append, gfrom, gfrom, gfrom_snoc, List.length_cons]
    congr 1
    omega
/-- lowered in round r -/
def lowOf (r : Nat) (g : Gh) : Nat → Option Nat := fun v => if g.rnd v = r then g.pred v else none
theorem settle_ok {E : List Ed} {n p r : Nat} {g : Gh} {S : Sto} (hE : ∀ e ∈ E, e.1 < n ∧ e.2.1 < n) (hl : E.length < 10000) (hS : S[p]? = some (.lst (suD n g.s))) (hr : ∀ v, g.rnd v < r) {X : Ex → Sto → Prop} {Q : D → Sto → Prop}
    (hQ : ∀ kvs, LowOk kvs (lowOf r (gfrom r 0 g E)) → kvs.length ≤ E.length → Q (.loc S.length) (S.set p (.lst (suD n (gfrom r 0 g E).s)) ++ [.dct kvs])) : (d_settle [.loc p, .tup (esD E)] S).ok Q X := by
  have hp := lt_of_get hS
  unfold d_settle
  rw [w_fn]
  refine ⟨rfl, ?_⟩
  unfold d_settle_b d_settle_r2
  simp only [w_var, w_c, w_bin, w_un, w_dB, wt_and, wt_or, wt_not, w_if, w_andV, w_orV, w_notV, w_anil, w_acons, w_call, w_app, w_tup, w_lst, w_dict, w_onone, w_osome, w_sl, w_tru, w_chain, w_meth, w_lc, w_nop, w_brk, w_cnt, w_seq, w_ret, w_retN, w_drop, w_ifS, w_asg, w_gN, w_gN0, w_gT, w_gT0, w_gnil, w_gnil0, w_gcons, w_gnsnil0, w_gnscons0, w_gsub, w_par, w_par3, w_aug, w_for, w_range1, w_range2, w_seqI, w_enum, okO_some, okS_some, okV_some, okB_bl, okI_int, okT_tup, okC_some, okQ_tup, okO_newL, okO_if, okO_ifL, okS_if, ok2_two, ok3_three, f1, f2, br_true, br_false, br_dec, Option.map_some, ok_val, List.map_cons, List.map_nil, List.cons_append, List.nil_append, List.replicate_succ, List.replicate_zero, List.getElem?_cons_zero, List.getElem?_cons_succ, List.set_cons_zero, List.set_cons_succ, List.length_cons, List.length_nil, Nat.reduceSub, Nat.reduceAdd, Nat.reduceLeDiff, true_and, and_true, ne_eq, not_true_eq_false, not_false_eq_true, forall_const, wipeE]
  refine for_ix (fun i env S' => i ≤ E.length ∧ ∃ a b c d e kvs, env = [some (.loc p), some (.tup (esD E)), some (.loc S.length), a, b, c, d, e] ∧ S' = S.set p (.lst (suD n (gfrom r 0 g (E.take i)).s)) ++ [.dct kvs] ∧ LowOk kvs (lowOf r (gfrom r 0 g (E.take i))) ∧ kvs.length ≤ i)
    (fun i e s _ => True.intro) ⟨Nat.zero_le _, _, _, _, _, _, [], rfl, ?_, LowOk.nil.ext fun v => ?_, Nat.zero_le _⟩ ?_ ?_
  · rw [List.take_zero, gfrom, set_self hS]
  · rw [List.take_zero, gfrom]
    unfold lowOf
    rw [if_neg (by have := hr v; omega)]
  · rintro env S' ⟨_, a, b, c, d, e, kvs, rfl, rfl, hk, hkl⟩
    simp only [w_var, w_c, w_bin, w_un, w_dB, wt_and, wt_or, wt_not, w_if, w_andV, w_orV, w_notV, w_anil, w_acons, w_call, w_app, w_tup, w_lst, w_dict, w_onone, w_osome, w_sl, w_tru, w_chain, w_meth, w_lc, w_nop, w_brk, w_cnt, w_seq, w_ret, w_retN, w_drop, w_ifS, w_asg, w_gN, w_gN0, w_gT, w_gT0, w_gnil, w_gnil0, w_gcons, w_gnsnil0, w_gnscons0, w_gsub, w_par, w_par3, w_aug, w_for, w_range1, w_range2, w_seqI, w_enum, okO_some, okS_some, okV_some, okB_bl, okI_int, okT_tup, okC_some, okQ_tup, okO_newL, okO_if, okO_ifL, okS_if, ok2_two, ok3_three, f1, f2, br_true, br_false, br_dec, Option.map_some, ok_val, List.map_cons, List.map_nil, List.cons_append, List.nil_append, List.replicate_succ, List.replicate_zero, List.getElem?_cons_zero, List.getElem?_cons_succ, List.set_cons_zero, List.set_cons_succ, List.length_cons, List.length_nil, Nat.reduceSub, Nat.reduceAdd, Nat.reduceLeDiff, true_and, and_true, ne_eq, not_true_eq_false, not_false_eq_true, forall_const, wipeE]
    have hl2 : (enumD (esD E)).length = E.length := by simp [enumD]
    simp only [hl2, List.take_length] at hk hkl ⊢
    rw [gc_new (Neat.set1 S suD_lo) (Nat.le_refl _) (by rw [List.getElem?_append_right (by simp)]; simp) hk.lo]
    exact hQ kvs hk hkl
  · rintro i d env S' hd ⟨_, a, b, c, d', e', kvs, rfl, rfl, hk, hkl⟩
    have hi : i < E.length := by
      have := (List.getElem?_eq_some_iff.mp hd).1
      simpa [enumD] using this
    have hd2 : d = .tup [.int (i : Nat), eD E[i]] := by
      unfold enumD at hd
      rw [List.getElem?_map, List.getElem?_zipIdx] at hd
      simp [hi] at hd
      rw [← hd]
    subst hd2
    obtain ⟨hu, hv⟩ := hE _ (List.getElem_mem hi)
    generalize hx : gfrom r 0 g (E.take i) = gi at *
    have hnext : gfrom r 0 g (E.take (i + 1)) = gst r i E[i] gi := by
      rw [List.take_succ_eq_append_getElem hi, gfrom_snoc, hx]
      simp [Nat.min_eq_left (Nat.le_of_lt hi)]
    rw [hnext]
    generalize E[i] = ed at hu hv hnext ⊢
    obtain ⟨u, v, w⟩ := ed
    simp only at hu hv
    have g1 : (S.set p (.lst (suD n gi.s)) ++ [.dct kvs])[p]? = some (.lst (suD n gi.s)) := get_app (get_set hp)
    simp only [w_var, w_c, w_bin, w_un, w_dB, wt_and, wt_or, wt_not, w_if, w_andV, w_orV, w_notV, w_anil, w_acons, w_call, w_app, w_tup, w_lst, w_dict, w_onone, w_osome, w_sl, w_tru, w_chain, w_meth, w_lc, w_nop, w_brk, w_cnt, w_seq, w_ret, w_retN, w_drop, w_ifS, w_asg, w_gN, w_gN0, w_gT, w_gT0, w_gnil, w_gnil0, w_gcons, w_gnsnil0, w_gnscons0, w_gsub, w_par, w_par3, w_aug, w_for, w_range1, w_range2, w_seqI, w_enum, okO_some, okS_some, okV_some, okB_bl, okI_int, okT_tup, okC_some, okQ_tup, okO_newL, okO_if, okO_ifL, okS_if, ok2_two, ok3_three, f1, f2, br_true, br_false, br_dec, Option.map_some, ok_val, List.map_cons, List.map_nil, List.cons_append, List.nil_append, List.replicate_succ, List.replicate_zero, List.getElem?_cons_zero, List.getElem?_cons_succ, List.set_cons_zero, List.set_cons_succ, List.length_cons, List.length_nil, Nat.reduceSub, Nat.reduceAdd, Nat.reduceLeDiff, true_and, and_true, ne_eq, not_true_eq_false, not_false_eq_true, forall_const, wipeE, d_settle_l1, eD, fIx, g1, suD_at hu, suD_at hv, fIsNotN, fIsN, oD_non]
    have gst_no : hit gi.s (u, v, w) = false → gst r i (u, v, w) gi = gi := fun h => by unfold gst; rw [h]; simp
    have fin_no : hit gi.s (u, v, w) = false → i + 1 ≤ E.length ∧ ∃ a b c d e kvs_1, [some (D.loc p), some (D.tup (esD E)), some (D.loc (List.length S)), some (D.int ↑i), some (D.tup [D.int ↑u, D.int ↑v, D.int w]), some (D.int ↑u), some (D.int ↑v), some (D.int w)] =
            [some (D.loc p), some (D.tup (esD E)), some (D.loc (List.length S)), a, b, c, d, e] ∧
          List.set S p (Ob.lst (suD n gi.s)) ++ [Ob.dct kvs] = List.set S p (Ob.lst (suD n (gst r i (u, v, w) gi).s)) ++ [Ob.dct kvs_1] ∧
            LowOk kvs_1 (lowOf r (gst r i (u, v, w) gi)) ∧ kvs_1.length ≤ i + 1 := fun h => by
      rw [gst_no h]
      exact ⟨hi, _, _, _, _, _, kvs, rfl, rfl, hk, by omega⟩
    have g2 : ∀ X : Ob, (S.set p X ++ [Ob.dct kvs])[S.length]? = some (.dct kvs) := fun X => by rw [List.getElem?_append_right (by simp)]; simp
    have g3 : ∀ X Y : Ob, (S.set p X ++ [Ob.dct kvs]).set p Y = S.set p Y ++ [Ob.dct kvs] := fun X Y => by rw [set_app (by simpa using hp), List.set_set]
    have g4 : ∀ X Y : Ob, (S.set p X ++ [Ob.dct kvs]).set S.length Y = S.set p X ++ [Y] := fun X Y => by rw [List.set_append]; simp
    have fin_go : ∀ a0, gi.s u = some a0 → hit gi.s (u, v, w) = true → okS (fSet (D.loc p) (D.int ↑v) (.int (a0 + w)) (List.set S p (Ob.lst (suD n gi.s)) ++ [Ob.dct kvs])) fun S3 =>
          okS (fSet (D.loc (List.length S)) (D.int ↑v) (D.int ↑i) S3) fun S3 =>
            i + 1 ≤ E.length ∧
              ∃ a b c d e kvs,
                [some (D.loc p), some (D.tup (esD E)), some (D.loc (List.length S)), some (D.int ↑i),
                      some (D.tup [D.int ↑u, D.int ↑v, D.int w]), some (D.int ↑u), some (D.int ↑v), some (D.int w)] =
                    [some (D.loc p), some (D.tup (esD E)), some (D.loc (List.length S)), a, b, c, d, e] ∧
                  S3 = List.set S p (Ob.lst (suD n (gst r i (u, v, w) gi).s)) ++ [Ob.dct kvs] ∧
                    LowOk kvs (lowOf r (gst r i (u, v, w) gi)) ∧ kvs.length ≤ i + 1 := fun a0 ha h => by
      have hb : kvs.length < big := by unfold big; omega
      simp only [fSet, g1, suD_len, ixN_nat hv, Option.map_some, okS_some, suD_set hv, g3, g2, toKey, Option.bind_some, hb, if_true, g4]
      refine ⟨hi, _, _, _, _, _, putD kvs (.inl (v : Nat)) (.int (i : Nat)), rfl, ?_, ?_, Nat.le_trans put_len (Nat.succ_le_succ hkl)⟩
      · unfold gst
        rw [if_pos h]
        simp only [ha, Option.getD_some]
      · refine (hk.put v i).ext fun y => ?_
        unfold lowOf gst setN
        rw [if_pos h]
        simp only
        by_cases e : y = v
        · simp [e]
        · simp [e]
    cases hu0 : gi.s u with
    | none => simp only [Option.isNone_none, Bool.not_true, br_false]; exact fin_no (by unfold hit; simp [hu0])
    | some a0 =>
      cases hv0 : gi.s v with
      | none =>
        simp only [Option.isNone_none, Option.isNone_some, Bool.not_false, br_true, oD, fAdd, okO_some]
        exact fin_go a0 hu0 (by unfold hit; simp [hu0, hv0])
      | some b0 =>
        simp only [Option.isNone_some, Bool.not_false, br_true, br_false, oD, fAdd, okO_some, g1, suD_at hu, suD_at hv, Option.map_some, hv0, hu0, fLt, fCmp, okB_bl, br_dec]
        refine ⟨fun h => ?_, fun h => fin_no (by unfold hit; simp [hu0, hv0]; omega)⟩
        exact fin_go a0 hu0 (by unfold hit; simp [hu0, hv0]; exact h)
end K68

set_option Elab.async false
set_option linter.all false
set_option maxRecDepth 100000
set_option maxHeartbeats 2000000
set_option autoImplicit false
namespace K68
open PySem PySem.Spec PyProof.Rows L2 Sh RX

theorem toVs_int : ∀ l : List Int, toVs (l.map D.int) = some (l.map V.int)
  | [] => rfl
  | a :: l => by
    show (match toV (.int a), toVs (l.map D.int) with
      | some v, some vs => some (v :: vs)
      | _, _ => none) = _
    rw [toVs_int l]; rfl
theorem inFlat_int (a : Int) (l : List Int) : inFlat (.int a) (l.map D.int) = some (decide (a ∈ l)) := by
  unfold inFlat
  rw [toVs_int]
  simp only [toV]
  congr 1
  unfold inV
  induction l with
  | nil => simp
  | cons b l ih =>
    rw [List.map_cons, List.any_cons, ih]
    by_cases e : a = b
    · subst e; simp [eqV]
    · have : ¬ b = a := fun z => e z.symm
      simp [eqV, e, this]
theorem round_ok {E : List Ed} {n q v : Nat} {g : Gh} {kvs : List (Key × D)} {S : Sto} (hE : ∀ e ∈ E, e.1 < n ∧ e.2.1 < n) (hn : n < 1000) (h : Inv E (n + 1) E.length g) (hv : g.rnd v = n + 1) (hS : S[q]? = some (.dct kvs)) (hk : LowOk kvs g.pred)
    {X : Ex → Sto → Prop} {Q : D → Sto → Prop} (hQ : ∀ ps : List Nat, Falls E ps → Q (.tup (ps.map fun p => .int (p : Nat))) S) : (d_round_through [.tup (esD E), .loc q, .int (v : Nat)] S).ok Q X := by
  have hq := lt_of_get hS
  unfold d_round_through
  rw [w_fn]
  refine ⟨rfl, ?_⟩
  unfold d_round_through_b d_round_through_r7
  simp only [w_var, w_c, w_bin, w_un, w_dB, wt_and, wt_or, wt_not, w_if, w_andV, w_orV, w_notV, w_anil, w_acons, w_call, w_app, w_tup, w_lst, w_dict, w_onone, w_osome, w_sl, w_tru, w_chain, w_meth, w_lc, w_nop, w_brk, w_cnt, w_seq, w_ret, w_retN, w_drop, w_ifS, w_asg, w_gN, w_gN0, w_gT, w_gT0, w_gnil, w_gnil0, w_gcons, w_gnsnil0, w_gnscons0, w_gsub, w_par, w_par3, w_aug, w_for, w_range1, w_range2, w_seqI, w_enum, okO_some, okS_some, okV_some, okB_bl, okI_int, okT_tup, okC_some, okQ_tup, okO_newL, okO_if, okO_ifL, okS_if, ok2_two, ok3_three, f1, f2, br_true, br_false, br_dec, br_not, atI_0, atI_1, atI_2, atI_3, atI_4, Option.map_some, ok_val, List.map_cons, List.map_nil, List.cons_append, List.nil_append, List.replicate_succ, List.replicate_zero, List.getElem?_cons_zero, List.getElem?_cons_succ, List.set_cons_zero, List.set_cons_succ, List.length_cons, List.length_nil, Nat.reduceSub, Nat.reduceAdd, Nat.reduceLeDiff, true_and, and_true, ne_eq, not_true_eq_false, not_false_eq_true, forall_const, wipeE, big0, big1, big2, big3, big4, big5, big6, big7, big8, big9]
  have ltn : ∀ k, k ≤ n → xs E g v k < n := by
    intro k hk
    obtain ⟨_, p, hp⟩ := chain h hv k (by omega)
    obtain ⟨u, w, a, b, k1, _⟩ := h.a _ p hp
    exact (hE _ (List.mem_of_getElem? k1)).2
  -- what edges[ahead[x]][0] is
  have step : ∀ y p, g.pred y = some p → valD kvs (.inl (y : Nat)) = some (.int (p : Nat)) ∧ atI (esD E) (p : Nat) = some (.tup [.int (nx E g y : Nat), .int (y : Nat), .int (wt E p)]) := by
    intro y p hp
    refine ⟨by rw [hk.val, hp]; rfl, ?_⟩
    obtain ⟨u, w, a, b, k1, _⟩ := h.a _ p hp
    refine atI_nat rfl ?_
    rw [List.getElem?_map, k1, nx_of hp k1]
    unfold wt
    rw [List.getD_eq_getElem?_getD, k1]
    rfl
  refine wh_ok (fun m env S' => ∃ k e4 e5, m = n - k ∧ k ≤ n ∧ env = [some (.tup (esD E)), some (.loc q), some (.int (xs E g v k : Nat)), some (.loc S.length), e4, e5] ∧ S' = S ++ [.lst (((List.range k).map fun i => (xs E g v i : Int)).map D.int)] ∧ ((List.range k).map (xs E g v)).Nodup)
    ⟨0, _, _, rfl, Nat.zero_le _, rfl, rfl, List.nodup_nil⟩ ?_
  rintro m env S' ⟨k, e4, e5, rfl, hkn, rfl, rfl, nd⟩
  have mem_iff : ((xs E g v k : Int) ∈ List.map (fun i => (xs E g v i : Int)) (List.range k)) ↔ ∃ j, j < k ∧ xs E g v j = xs E g v k := by
    simp only [List.mem_map, List.mem_range]
    constructor
    · rintro ⟨j, h1, h2⟩; exact ⟨j, h1, by omega⟩
    · rintro ⟨j, h1, h2⟩; exact ⟨j, h1, by omega⟩
  have g1 : ∀ Y : Ob, (S ++ [Y])[q]? = some (.dct kvs) := fun Y => get_app hS
  simp only [w_var, w_c, w_bin, w_un, w_dB, wt_and, wt_or, wt_not, w_if, w_andV, w_orV, w_notV, w_anil, w_acons, w_call, w_app, w_tup, w_lst, w_dict, w_onone, w_osome, w_sl, w_tru, w_chain, w_meth, w_lc, w_nop, w_brk, w_cnt, w_seq, w_ret, w_retN, w_drop, w_ifS, w_asg, w_gN, w_gN0, w_gT, w_gT0, w_gnil, w_gnil0, w_gcons, w_gnsnil0, w_gnscons0, w_gsub, w_par, w_par3, w_aug, w_for, w_range1, w_range2, w_seqI, w_enum, okO_some, okS_some, okV_some, okB_bl, okI_int, okT_tup, okC_some, okQ_tup, okO_newL, okO_if, okO_ifL, okS_if, ok2_two, ok3_three, f1, f2, br_true, br_false, br_dec, br_not, atI_0, atI_1, atI_2, atI_3, atI_4, Option.map_some, ok_val, List.map_cons, List.map_nil, List.cons_append, List.nil_append, List.replicate_succ, List.replicate_zero, List.getElem?_cons_zero, List.getElem?_cons_succ, List.set_cons_zero, List.set_cons_succ, List.length_cons, List.length_nil, Nat.reduceSub, Nat.reduceAdd, Nat.reduceLeDiff, true_and, and_true, ne_eq, not_true_eq_false, not_false_eq_true, forall_const, wipeE, big0, big1, big2, big3, big4, big5, big6, big7, big8, big9, fNotIn, inD, get_new, inFlat_int, d_round_through_l1, isL, lstAt, Option.isSome_some, fAppend]
  refine ⟨fun hm => ?_, fun hm => ?_⟩
  · -- found again
    obtain ⟨j, hj, ej⟩ := mem_iff.mp hm
    have hS' : ∃ Y, S ++ [.lst (((List.range k).map fun i => (xs E g v i : Int)).map D.int)] = S ++ [Y] := ⟨_, rfl⟩
    obtain ⟨Y, eY⟩ := hS'
    rw [eY]
    -- the round
    have cyc : xs E g (xs E g v k) (k - j) = xs E g v k := by
      rw [← ej, ← xs_add, show j + (k - j) = k by omega]; exact ej.symm
    have good : ∀ l, ∃ i, i < k ∧ xs E g (xs E g v k) l = xs E g v i := by
      intro l
      induction l with
      | zero => exact ⟨j, hj, ej.symm⟩
      | succ l ih =>
        obtain ⟨i, hi, ei⟩ := ih
        have e1 : xs E g (xs E g v k) (l + 1) = xs E g v (i + 1) := by
          show nx E g (xs E g (xs E g v k) l) = nx E g (xs E g v i)
          rw [ei]
        by_cases z : i + 1 < k
        · exact ⟨i + 1, z, e1⟩
        · have : i + 1 = k := by omega
          rw [this] at e1
          exact ⟨j, hj, by rw [e1, ej]⟩
    have preds : ∀ l, ∃ p, g.pred (xs E g (xs E g v k) l) = some p := by
      intro l
      obtain ⟨i, hi, ei⟩ := good l
      rw [ei]
      exact (chain h hv i (by omega)).2
    generalize hy : xs E g v k = y at *
    obtain ⟨p0, hp0⟩ := preds 0
    obtain ⟨s1, s2⟩ := step y p0 hp0
    have g2 : ∀ A B : Ob, (S ++ [A] ++ [B])[q]? = some (.dct kvs) := fun A B => get_app (get_app hS)
    unfold d_round_through_r6 d_round_through_r5 d_round_through_r4 d_round_through_r3
    simp only [w_var, w_c, w_bin, w_un, w_dB, wt_and, wt_or, wt_not, w_if, w_andV, w_orV, w_notV, w_anil, w_acons, w_call, w_app, w_tup, w_lst, w_dict, w_onone, w_osome, w_sl, w_tru, w_chain, w_meth, w_lc, w_nop, w_brk, w_cnt, w_seq, w_ret, w_retN, w_drop, w_ifS, w_asg, w_gN, w_gN0, w_gT, w_gT0, w_gnil, w_gnil0, w_gcons, w_gnsnil0, w_gnscons0, w_gsub, w_par, w_par3, w_aug, w_for, w_range1, w_range2, w_seqI, w_enum, okO_some, okS_some, okV_some, okB_bl, okI_int, okT_tup, okC_some, okQ_tup, okO_newL, okO_if, okO_ifL, okS_if, ok2_two, ok3_three, f1, f2, br_true, br_false, br_dec, br_not, atI_0, atI_1, atI_2, atI_3, atI_4, Option.map_some, ok_val, List.map_cons, List.map_nil, List.cons_append, List.nil_append, List.replicate_succ, List.replicate_zero, List.getElem?_cons_zero, List.getElem?_cons_succ, List.set_cons_zero, List.set_cons_succ, List.length_cons, List.length_nil, Nat.reduceSub, Nat.reduceAdd, Nat.reduceLeDiff, true_and, and_true, ne_eq, not_true_eq_false, not_false_eq_true, forall_const, wipeE, big0, big1, big2, big3, big4, big5, big6, big7, big8, big9, fIx, g1, s1, s2, g2]
    refine wh_ok (fun m env S' => ∃ i, m = (k - j) - i ∧ 1 ≤ i ∧ i ≤ k - j ∧ env = [some (.tup (esD E)), some (.loc q), some (.int (xs E g y i : Nat)), some (.loc S.length), some (.int (y : Nat)), some (.loc (S ++ [Y]).length)] ∧
        S' = S ++ [Y] ++ [.lst ((List.range i).map fun l => .int (((g.pred (xs E g y l)).getD 0 : Nat) : Int))] ∧ ∀ l, 1 ≤ l → l < i → xs E g y l ≠ y)
      ⟨1, rfl, Nat.le_refl _, by omega, rfl, ?_, fun l h1 h2 => by omega⟩ ?_
    · have e0 : g.pred (xs E g y 0) = some p0 := hp0
      simp [List.range_succ, e0]
    rintro m env S' ⟨i, rfl, hi1, hi2, rfl, rfl, hne⟩
    simp only [w_var, w_c, w_bin, w_un, w_dB, wt_and, wt_or, wt_not, w_if, w_andV, w_orV, w_notV, w_anil, w_acons, w_call, w_app, w_tup, w_lst, w_dict, w_onone, w_osome, w_sl, w_tru, w_chain, w_meth, w_lc, w_nop, w_brk, w_cnt, w_seq, w_ret, w_retN, w_drop, w_ifS, w_asg, w_gN, w_gN0, w_gT, w_gT0, w_gnil, w_gnil0, w_gcons, w_gnsnil0, w_gnscons0, w_gsub, w_par, w_par3, w_aug, w_for, w_range1, w_range2, w_seqI, w_enum, okO_some, okS_some, okV_some, okB_bl, okI_int, okT_tup, okC_some, okQ_tup, okO_newL, okO_if, okO_ifL, okS_if, ok2_two, ok3_three, f1, f2, br_true, br_false, br_dec, br_not, atI_0, atI_1, atI_2, atI_3, atI_4, Option.map_some, ok_val, List.map_cons, List.map_nil, List.cons_append, List.nil_append, List.replicate_succ, List.replicate_zero, List.getElem?_cons_zero, List.getElem?_cons_succ, List.set_cons_zero, List.set_cons_succ, List.length_cons, List.length_nil, Nat.reduceSub, Nat.reduceAdd, Nat.reduceLeDiff, true_and, and_true, ne_eq, not_true_eq_false, not_false_eq_true, forall_const, wipeE, big0, big1, big2, big3, big4, big5, big6, big7, big8, big9, fNe, scalD, d_round_through_l2, isL, lstAt, get_new, Option.isSome_some, fAppend]
    refine ⟨fun hz => ?_, fun hz => ?_⟩
    · -- closed
      have hz2 : xs E g y i = y := by omega
      simp only [fTupRev, lstAt, get_new, Option.map_some, okO_some]
      have e3 : S ++ [Y] ++ [Ob.lst ((List.range i).map fun l => .int (((g.pred (xs E g y l)).getD 0 : Nat) : Int))] = S ++ ([Y] ++ [Ob.lst ((List.range i).map fun l => .int (((g.pred (xs E g y l)).getD 0 : Nat) : Int))]) := List.append_assoc _ _ _
      have e4 : ((List.range i).map fun l => D.int (((g.pred (xs E g y l)).getD 0 : Nat) : Int)).reverse = (((List.range i).map fun l => (g.pred (xs E g y l)).getD 0).reverse).map fun p => D.int (p : Nat) := by
        rw [List.map_reverse, List.map_map]; rfl
      rw [e3, e4, gc_flat (Neat.refl S) (by rw [lo_tup]; exact la_map fun a _ => by rw [lo_int]; exact True.intro)]
      exact hQ _ (falls_of h hi1 (fun l _ => preds l) hz2 hne)
    · have hz2 : xs E g y i ≠ y := by omega
      have hlt : i < k - j := by
        by_cases z : i = k - j
        · rw [z] at hz2; exact absurd cyc hz2
        · omega
      obtain ⟨p, hp⟩ := preds i
      obtain ⟨t1, t2⟩ := step _ p hp
      simp only [w_var, w_c, w_bin, w_un, w_dB, wt_and, wt_or, wt_not, w_if, w_andV, w_orV, w_notV, w_anil, w_acons, w_call, w_app, w_tup, w_lst, w_dict, w_onone, w_osome, w_sl, w_tru, w_chain, w_meth, w_lc, w_nop, w_brk, w_cnt, w_seq, w_ret, w_retN, w_drop, w_ifS, w_asg, w_gN, w_gN0, w_gT, w_gT0, w_gnil, w_gnil0, w_gcons, w_gnsnil0, w_gnscons0, w_gsub, w_par, w_par3, w_aug, w_for, w_range1, w_range2, w_seqI, w_enum, okO_some, okS_some, okV_some, okB_bl, okI_int, okT_tup, okC_some, okQ_tup, okO_newL, okO_if, okO_ifL, okS_if, ok2_two, ok3_three, f1, f2, br_true, br_false, br_dec, br_not, atI_0, atI_1, atI_2, atI_3, atI_4, Option.map_some, ok_val, List.map_cons, List.map_nil, List.cons_append, List.nil_append, List.replicate_succ, List.replicate_zero, List.getElem?_cons_zero, List.getElem?_cons_succ, List.set_cons_zero, List.set_cons_succ, List.length_cons, List.length_nil, Nat.reduceSub, Nat.reduceAdd, Nat.reduceLeDiff, true_and, and_true, ne_eq, not_true_eq_false, not_false_eq_true, forall_const, wipeE, big0, big1, big2, big3, big4, big5, big6, big7, big8, big9, fIx, g2, t1, fAppend, get_new]
      refine ⟨by simp; unfold big; omega, ?_⟩
      rw [set_app_new]
      simp only [w_var, w_c, w_bin, w_un, w_dB, wt_and, wt_or, wt_not, w_if, w_andV, w_orV, w_notV, w_anil, w_acons, w_call, w_app, w_tup, w_lst, w_dict, w_onone, w_osome, w_sl, w_tru, w_chain, w_meth, w_lc, w_nop, w_brk, w_cnt, w_seq, w_ret, w_retN, w_drop, w_ifS, w_asg, w_gN, w_gN0, w_gT, w_gT0, w_gnil, w_gnil0, w_gcons, w_gnsnil0, w_gnscons0, w_gsub, w_par, w_par3, w_aug, w_for, w_range1, w_range2, w_seqI, w_enum, okO_some, okS_some, okV_some, okB_bl, okI_int, okT_tup, okC_some, okQ_tup, okO_newL, okO_if, okO_ifL, okS_if, ok2_two, ok3_three, f1, f2, br_true, br_false, br_dec, br_not, atI_0, atI_1, atI_2, atI_3, atI_4, Option.map_some, ok_val, List.map_cons, List.map_nil, List.cons_append, List.nil_append, List.replicate_succ, List.replicate_zero, List.getElem?_cons_zero, List.getElem?_cons_succ, List.set_cons_zero, List.set_cons_succ, List.length_cons, List.length_nil, Nat.reduceSub, Nat.reduceAdd, Nat.reduceLeDiff, true_and, and_true, ne_eq, not_true_eq_false, not_false_eq_true, forall_const, wipeE, big0, big1, big2, big3, big4, big5, big6, big7, big8, big9, fIx, g2, t1, t2]
      refine ⟨(k - j) - (i + 1), by omega, i + 1, rfl, by omega, hlt, rfl, ?_, fun l h1 h2 => ?_⟩
      · rw [List.range_succ]; simp [hp]
      · by_cases z : l = i
        · subst z; exact hz2
        · exact hne l h1 (by omega)
  · have hk1 : k + 1 ≤ n := by
      have nd2 : ((List.range (k + 1)).map (xs E g v)).Nodup := by
        rw [List.range_succ, List.map_append, List.nodup_append]
        refine ⟨nd, by simp, fun a ha b hb e => ?_⟩
        simp at hb
        subst hb
        subst e
        obtain ⟨j, hj, ej⟩ := List.mem_map.mp ha
        exact hm (mem_iff.mpr ⟨j, List.mem_range.mp hj, ej⟩)
      have := nodup_le n _ nd2 fun x hx => by
        obtain ⟨i, hi, rfl⟩ := List.mem_map.mp hx
        have := List.mem_range.mp hi
        exact ltn i (by omega)
      simpa using this
    obtain ⟨_, p, hp⟩ := chain h hv k (by omega)
    obtain ⟨s1, s2⟩ := step _ p hp
    refine ⟨by simp; unfold big; omega, ?_⟩
    rw [set_app_new]
    simp only [w_var, w_c, w_bin, w_un, w_dB, wt_and, wt_or, wt_not, w_if, w_andV, w_orV, w_notV, w_anil, w_acons, w_call, w_app, w_tup, w_lst, w_dict, w_onone, w_osome, w_sl, w_tru, w_chain, w_meth, w_lc, w_nop, w_brk, w_cnt, w_seq, w_ret, w_retN, w_drop, w_ifS, w_asg, w_gN, w_gN0, w_gT, w_gT0, w_gnil, w_gnil0, w_gcons, w_gnsnil0, w_gnscons0, w_gsub, w_par, w_par3, w_aug, w_for, w_range1, w_range2, w_seqI, w_enum, okO_some, okS_some, okV_some, okB_bl, okI_int, okT_tup, okC_some, okQ_tup, okO_newL, okO_if, okO_ifL, okS_if, ok2_two, ok3_three, f1, f2, br_true, br_false, br_dec, br_not, atI_0, atI_1, atI_2, atI_3, atI_4, Option.map_some, ok_val, List.map_cons, List.map_nil, List.cons_append, List.nil_append, List.replicate_succ, List.replicate_zero, List.getElem?_cons_zero, List.getElem?_cons_succ, List.set_cons_zero, List.set_cons_succ, List.length_cons, List.length_nil, Nat.reduceSub, Nat.reduceAdd, Nat.reduceLeDiff, true_and, and_true, ne_eq, not_true_eq_false, not_false_eq_true, forall_const, wipeE, big0, big1, big2, big3, big4, big5, big6, big7, big8, big9, fIx, g1, s1, s2]
    refine ⟨n - (k + 1), by omega, k + 1, _, _, rfl, hk1, rfl, ?_, ?_⟩
    · rw [List.range_succ]; simp
    · rw [List.range_succ, List.map_append, List.nodup_append]
      refine ⟨nd, by simp, fun a ha b hb e => ?_⟩
      simp at hb
      subst hb
      subst e
      obtain ⟨j, hj, ej⟩ := List.mem_map.mp ha
      exact hm (mem_iff.mpr ⟨j, List.mem_range.mp hj, ej⟩)
end K68

set_option Elab.async false
set_option linter.all false
set_option maxRecDepth 100000
set_option maxHeartbeats 2000000
set_option autoImplicit false
namespace K68
open PySem PySem.Spec PyProof.Rows L2 Sh RX

theorem gfrom_keep {r : Nat} : ∀ {E : List Ed} {i : Nat} {g : Gh} {v : Nat}, (gfrom r i g E).rnd v ≠ r → (gfrom r i g E).pred v = g.pred v ∧ g.rnd v ≠ r := by
  intro E
  induction E with
  | nil => intro i g v h; exact ⟨rfl, h⟩
  | cons e E ih =>
    intro i g v h
    rw [gfrom] at h ⊢
    obtain ⟨h1, h2⟩ := ih h
    rw [h1]
    unfold gst at h2 ⊢
    split
    · rename_i hh
      rw [if_pos hh] at h2
      simp only [setN] at h2 ⊢
      by_cases e2 : v = e.2.1
      · rw [if_pos e2] at h2; exact absurd rfl h2
      · rw [if_neg e2] at h2 ⊢; exact ⟨rfl, h2⟩
    · rename_i hh
      rw [if_neg hh] at h2
      exact ⟨rfl, h2⟩
theorem grun_rnd {E : List Ed} {s : Su} (k v : Nat) : (grun E s k).rnd v ≤ k := by
  cases k with
  | zero => exact Nat.le_refl _
  | succ k => exact (Inv.runEnd E s k).d v
/-- what the merge of a round leaves -/
theorem merge {E : List Ed} {s : Su} {k : Nat} {f : Nat → Option Nat} (hA : ∀ v, lowOf (k + 1) (grun E s (k + 1)) v = none → f v = (grun E s k).pred v) (hB : ∀ v, lowOf (k + 1) (grun E s (k + 1)) v ≠ none → f v = lowOf (k + 1) (grun E s (k + 1)) v) :
    ∀ v, f v = (grun E s (k + 1)).pred v := by
  intro v
  by_cases h : lowOf (k + 1) (grun E s (k + 1)) v = none
  · rw [hA v h]
    unfold lowOf at h
    by_cases e : (grun E s (k + 1)).rnd v = k + 1
    · rw [if_pos e] at h
      have := ((Inv.runEnd E s k).c v).mp (by omega)
      exact absurd h this
    · exact (gfrom_keep e).1.symm
  · rw [hB v h]
    unfold lowOf at h ⊢
    by_cases e : (grun E s (k + 1)).rnd v = k + 1
    · rw [if_pos e]
    · rw [if_neg e] at h; exact absurd rfl h
theorem low_some {E : List Ed} {s : Su} {k : Nat} : (∃ v, lowOf (k + 1) (grun E s (k + 1)) v ≠ none) ↔ chg (passes E s k) E = true := by
  have h1 := (gfrom_rnd (r := k + 1) (E := E) (i := 0) (g := grun E s k))
  rw [grun_s] at h1
  constructor
  · rintro ⟨v, hv⟩
    cases q : chg (passes E s k) E with
    | true => rfl
    | false =>
      exfalso
      apply hv
      have e : grun E s (k + 1) = grun E s k := h1.2 q
      rw [e]
      unfold lowOf
      rw [if_neg (by have := grun_rnd (E := E) (s := s) k v; omega)]
  · intro h
    obtain ⟨v, hv⟩ := h1.1 h
    refine ⟨v, ?_⟩
    have hv : (grun E s (k + 1)).rnd v = k + 1 := hv
    unfold lowOf
    rw [if_pos hv]
    exact ((Inv.runEnd E s k).c v).mp (by omega)
def z0 : Su := fun _ => some 0
theorem falling_ok {E : List Ed} {n : Nat} {S : Sto} (hE : ∀ e ∈ E, e.1 < n ∧ e.2.1 < n) (hn : n < 1000) (hl : E.length < 900) {X : Ex → Sto → Prop} {Q : D → Sto → Prop}
    (h0 : chg (passes E z0 n) E = false → Q .non S) (h1 : ∀ ps : List Nat, chg (passes E z0 n) E = true → Falls E ps → Q (.tup (ps.map fun p => .int (p : Nat))) S) : (d_falling_round [.int (n : Nat), .tup (esD E)] S).ok Q X := by
  unfold d_falling_round
  rw [w_fn]
  refine ⟨rfl, ?_⟩
  unfold d_falling_round_b
  simp only [w_var, w_c, w_bin, w_un, w_dB, wt_and, wt_or, wt_not, w_if, w_andV, w_orV, w_notV, w_anil, w_acons, w_call, w_app, w_tup, w_lst, w_dict, w_onone, w_osome, w_sl, w_tru, w_chain, w_meth, w_lc, w_nop, w_brk, w_cnt, w_seq, w_ret, w_retN, w_drop, w_ifS, w_asg, w_gN, w_gN0, w_gT, w_gT0, w_gnil, w_gnil0, w_gcons, w_gnsnil0, w_gnscons0, w_gsub, w_par, w_par3, w_aug, w_for, w_range1, w_range2, w_seqI, w_enum, okO_some, okS_some, okV_some, okB_bl, okI_int, okT_tup, okC_some, okQ_tup, okO_newL, okO_if, okO_ifL, okS_if, ok2_two, ok3_three, f1, f2, br_true, br_false, br_dec, br_not, atI_0, atI_1, atI_2, atI_3, atI_4, Option.map_some, ok_val, List.map_cons, List.map_nil, List.cons_append, List.nil_append, List.replicate_succ, List.replicate_zero, List.getElem?_cons_zero, List.getElem?_cons_succ, List.set_cons_zero, List.set_cons_succ, List.length_cons, List.length_nil, Nat.reduceSub, Nat.reduceAdd, Nat.reduceLeDiff, true_and, and_true, ne_eq, not_true_eq_false, not_false_eq_true, forall_const, wipeE, big0, big1, big2, big3, big4, big5, big6, big7, big8, big9]
  refine ⟨rgOk_nat (by omega), ?_⟩
  refine comp_pure (fun _ => .int 0) (le_big (by simp; omega)) (fun _ => True.intro) (fun i d acc hd => ?_) ?_
  · simp only [w_var, w_c, w_bin, w_un, w_dB, wt_and, wt_or, wt_not, w_if, w_andV, w_orV, w_notV, w_anil, w_acons, w_call, w_app, w_tup, w_lst, w_dict, w_onone, w_osome, w_sl, w_tru, w_chain, w_meth, w_lc, w_nop, w_brk, w_cnt, w_seq, w_ret, w_retN, w_drop, w_ifS, w_asg, w_gN, w_gN0, w_gT, w_gT0, w_gnil, w_gnil0, w_gcons, w_gnsnil0, w_gnscons0, w_gsub, w_par, w_par3, w_aug, w_for, w_range1, w_range2, w_seqI, w_enum, okO_some, okS_some, okV_some, okB_bl, okI_int, okT_tup, okC_some, okQ_tup, okO_newL, okO_if, okO_ifL, okS_if, ok2_two, ok3_three, f1, f2, br_true, br_false, br_dec, br_not, atI_0, atI_1, atI_2, atI_3, atI_4, Option.map_some, ok_val, List.map_cons, List.map_nil, List.cons_append, List.nil_append, List.replicate_succ, List.replicate_zero, List.getElem?_cons_zero, List.getElem?_cons_succ, List.set_cons_zero, List.set_cons_succ, List.length_cons, List.length_nil, Nat.reduceSub, Nat.reduceAdd, Nat.reduceLeDiff, true_and, and_true, ne_eq, not_true_eq_false, not_false_eq_true, forall_const, wipeE, big0, big1, big2, big3, big4, big5, big6, big7, big8, big9, tYesD]
  · unfold d_falling_round_r7 d_falling_round_r6 d_falling_round_r5 d_falling_round_r4
    simp only [w_var, w_c, w_bin, w_un, w_dB, wt_and, wt_or, wt_not, w_if, w_andV, w_orV, w_notV, w_anil, w_acons, w_call, w_app, w_tup, w_lst, w_dict, w_onone, w_osome, w_sl, w_tru, w_chain, w_meth, w_lc, w_nop, w_brk, w_cnt, w_seq, w_ret, w_retN, w_drop, w_ifS, w_asg, w_gN, w_gN0, w_gT, w_gT0, w_gnil, w_gnil0, w_gcons, w_gnsnil0, w_gnscons0, w_gsub, w_par, w_par3, w_aug, w_for, w_range1, w_range2, w_seqI, w_enum, okO_some, okS_some, okV_some, okB_bl, okI_int, okT_tup, okC_some, okQ_tup, okO_newL, okO_if, okO_ifL, okS_if, ok2_two, ok3_three, f1, f2, br_true, br_false, br_dec, br_not, atI_0, atI_1, atI_2, atI_3, atI_4, Option.map_some, ok_val, List.map_cons, List.map_nil, List.cons_append, List.nil_append, List.replicate_succ, List.replicate_zero, List.getElem?_cons_zero, List.getElem?_cons_succ, List.set_cons_zero, List.set_cons_succ, List.length_cons, List.length_nil, Nat.reduceSub, Nat.reduceAdd, Nat.reduceLeDiff, true_and, and_true, ne_eq, not_true_eq_false, not_false_eq_true, forall_const, wipeE, big0, big1, big2, big3, big4, big5, big6, big7, big8, big9, List.append_assoc, List.length_append, Nat.zero_add, Nat.add_zero, Nat.add_assoc, Nat.reduceAdd, fAdd]
    have ez : List.map (fun x => D.int 0) (List.range (List.map (fun i => D.int (0 + ((i : Nat) : Int))) (List.range (n : Int).toNat)).length) = suD n z0 := by
      simp [suD, z0, oD]
    rw [ez]
    have en : ((n : Int) + 1).toNat = n + 1 := by omega
    rw [en]
    refine ⟨rgOk_of (by omega) (by omega), ?_⟩
    refine for_ix (fun i env S' => i ≤ n + 1 ∧ ∃ a5 a6 k kvsA kvsL G, env = [some (.int n), some (.tup (esD E)), some (.loc S.length), some (.loc (S.length + 1)), some (.loc (S.length + (k + 2))), a5, a6] ∧
        S' = S ++ (.lst (suD n (grun E z0 i).s) :: .dct kvsA :: G) ∧ G[k]? = some (.dct kvsL) ∧ LowOk kvsA (grun E z0 i).pred ∧ kvsA.length ≤ i * E.length ∧ LowOk kvsL (lowOf i (grun E z0 i)) ∧ kvsL.length ≤ E.length)
      (fun i e s _ => True.intro) ⟨Nat.zero_le _, none, none, 0, [], [], [.dct []], rfl, rfl, rfl, LowOk.nil, Nat.zero_le _, LowOk.nil.ext fun v => by unfold lowOf; split <;> rfl, Nat.zero_le _⟩ ?_ ?_
    · -- behind the rounds
      rintro env S' ⟨_, a5, a6, k, kvsA, kvsL, G, rfl, rfl, hG, hA, hAl, hL, hLl⟩
      have eL : ({ items := List.map (fun i => D.int (0 + ((i : Nat) : Int))) (List.range (n + 1)), root := none } : Iter).items.length = n + 1 := by simp
      rw [eL] at hA hAl hL ⊢
      rw [w_forD (n := S.length + (k + 2)) rfl (by rw [get_off]; exact hG), set_off]
      simp only [List.set_cons_succ]
      cases kvsL with
      | nil =>
        refine for_nil ⟨True.intro, ?_⟩
        have hno : chg (passes E z0 n) E = false := by
          cases q : chg (passes E z0 n) E with
          | false => rfl
          | true =>
            obtain ⟨v, hv⟩ := low_some.mpr q
            exact absurd (hL.nil_iff.mp rfl v) hv
        refine ⟨by rw [get_off]; simp [lt_of_get hG, List.getElem?_set], ?_⟩
        rw [set_off, gc_flat (Neat.refl S) (by rw [lo_non]; exact True.intro)]
        exact h0 hno
      | cons kv r =>
        obtain ⟨⟨v, hv1, hv2⟩, _⟩ := hL.key kv List.mem_cons_self
        have hch : chg (passes E z0 n) E = true := low_some.mp ⟨v, hv2⟩
        have hrv : (grun E z0 (n + 1)).rnd v = n + 1 := by
          unfold lowOf at hv2
          by_cases e : (grun E z0 (n + 1)).rnd v = n + 1
          · exact e
          · rw [if_neg e] at hv2; exact absurd rfl hv2
        rw [List.map_cons]
        refine for_cons ⟨True.intro, ?_⟩
        rw [hv1]
        simp only [keyD, w_var, w_c, w_bin, w_un, w_dB, wt_and, wt_or, wt_not, w_if, w_andV, w_orV, w_notV, w_anil, w_acons, w_call, w_app, w_tup, w_lst, w_dict, w_onone, w_osome, w_sl, w_tru, w_chain, w_meth, w_lc, w_nop, w_brk, w_cnt, w_seq, w_ret, w_retN, w_drop, w_ifS, w_asg, w_gN, w_gN0, w_gT, w_gT0, w_gnil, w_gnil0, w_gcons, w_gnsnil0, w_gnscons0, w_gsub, w_par, w_par3, w_aug, w_for, w_range1, w_range2, w_seqI, w_enum, okO_some, okS_some, okV_some, okB_bl, okI_int, okT_tup, okC_some, okQ_tup, okO_newL, okO_if, okO_ifL, okS_if, ok2_two, ok3_three, f1, f2, br_true, br_false, br_dec, br_not, atI_0, atI_1, atI_2, atI_3, atI_4, Option.map_some, ok_val, List.map_cons, List.map_nil, List.cons_append, List.nil_append, List.replicate_succ, List.replicate_zero, List.getElem?_cons_zero, List.getElem?_cons_succ, List.set_cons_zero, List.set_cons_succ, List.length_cons, List.length_nil, Nat.reduceSub, Nat.reduceAdd, Nat.reduceLeDiff, true_and, and_true, ne_eq, not_true_eq_false, not_false_eq_true, forall_const, wipeE, big0, big1, big2, big3, big4, big5, big6, big7, big8, big9, d_falling_round_l3]
        refine round_ok hE hn (Inv.runEnd E z0 n) hrv (kvs := kvsA) (by rw [get_off]; rfl) hA fun ps hps => ?_
        refine ⟨by rw [get_off]; simp [lt_of_get hG, List.getElem?_set], ?_⟩
        rw [set_off, gc_flat (Neat.refl S) (by rw [lo_tup]; exact la_map fun a _ => by rw [lo_int]; exact True.intro)]
        exact h1 ps hch hps
    · -- a round
      rintro i d env S' hd ⟨_, a5, a6, k, kvsA, kvsL, G, rfl, rfl, hG, hA, hAl, hL, hLl⟩
      have hi : i < n + 1 := by
        have := (List.getElem?_eq_some_iff.mp hd).1
        simpa using this
      simp only [w_var, w_c, w_bin, w_un, w_dB, wt_and, wt_or, wt_not, w_if, w_andV, w_orV, w_notV, w_anil, w_acons, w_call, w_app, w_tup, w_lst, w_dict, w_onone, w_osome, w_sl, w_tru, w_chain, w_meth, w_lc, w_nop, w_brk, w_cnt, w_seq, w_ret, w_retN, w_drop, w_ifS, w_asg, w_gN, w_gN0, w_gT, w_gT0, w_gnil, w_gnil0, w_gcons, w_gnsnil0, w_gnscons0, w_gsub, w_par, w_par3, w_aug, w_for, w_range1, w_range2, w_seqI, w_enum, okO_some, okS_some, okV_some, okB_bl, okI_int, okT_tup, okC_some, okQ_tup, okO_newL, okO_if, okO_ifL, okS_if, ok2_two, ok3_three, f1, f2, br_true, br_false, br_dec, br_not, atI_0, atI_1, atI_2, atI_3, atI_4, Option.map_some, ok_val, List.map_cons, List.map_nil, List.cons_append, List.nil_append, List.replicate_succ, List.replicate_zero, List.getElem?_cons_zero, List.getElem?_cons_succ, List.set_cons_zero, List.set_cons_succ, List.length_cons, List.length_nil, Nat.reduceSub, Nat.reduceAdd, Nat.reduceLeDiff, true_and, and_true, ne_eq, not_true_eq_false, not_false_eq_true, forall_const, wipeE, big0, big1, big2, big3, big4, big5, big6, big7, big8, big9, d_falling_round_l2]
      refine settle_ok (r := i + 1) (g := grun E z0 i) hE (by omega) (by rw [show S.length = S.length + 0 by omega, get_off]; rfl) (fun v => Nat.lt_succ_of_le (grun_rnd i v)) fun kvs hk hkl => ?_
      have hk : LowOk kvs (lowOf (i + 1) (grun E z0 (i + 1))) := hk
      have es : (S ++ Ob.lst (suD n (grun E z0 i).s) :: Ob.dct kvsA :: G).set S.length (.lst (suD n (gfrom (i + 1) 0 (grun E z0 i) E).s)) ++ [.dct kvs] = S ++ (.lst (suD n (grun E z0 (i + 1)).s) :: .dct kvsA :: (G ++ [.dct kvs])) := by
        rw [show (S ++ Ob.lst (suD n (grun E z0 i).s) :: Ob.dct kvsA :: G).set S.length (.lst (suD n (gfrom (i + 1) 0 (grun E z0 i) E).s)) = S ++ (.lst (suD n (gfrom (i + 1) 0 (grun E z0 i) E).s) :: .dct kvsA :: G) from set_off (k := 0)]
        rw [List.append_assoc]; rfl
      rw [es]
      have el : (S ++ Ob.lst (suD n (grun E z0 i).s) :: Ob.dct kvsA :: G).length = S.length + (G.length + 2) := by simp
      rw [el]
      have hG2 : (G ++ [Ob.dct kvs])[G.length]? = some (.dct kvs) := by rw [List.getElem?_append_right (Nat.le_refl _)]; simp
      try simp only [w_var, w_c, w_bin, w_un, w_dB, wt_and, wt_or, wt_not, w_if, w_andV, w_orV, w_notV, w_anil, w_acons, w_call, w_app, w_tup, w_lst, w_dict, w_onone, w_osome, w_sl, w_tru, w_chain, w_meth, w_lc, w_nop, w_brk, w_cnt, w_seq, w_ret, w_retN, w_drop, w_ifS, w_asg, w_gN, w_gN0, w_gT, w_gT0, w_gnil, w_gnil0, w_gcons, w_gnsnil0, w_gnscons0, w_gsub, w_par, w_par3, w_aug, w_for, w_range1, w_range2, w_seqI, w_enum, okO_some, okS_some, okV_some, okB_bl, okI_int, okT_tup, okC_some, okQ_tup, okO_newL, okO_if, okO_ifL, okS_if, ok2_two, ok3_three, f1, f2, br_true, br_false, br_dec, br_not, atI_0, atI_1, atI_2, atI_3, atI_4, Option.map_some, ok_val, List.map_cons, List.map_nil, List.cons_append, List.nil_append, List.replicate_succ, List.replicate_zero, List.getElem?_cons_zero, List.getElem?_cons_succ, List.set_cons_zero, List.set_cons_succ, List.length_cons, List.length_nil, Nat.reduceSub, Nat.reduceAdd, Nat.reduceLeDiff, true_and, and_true, ne_eq, not_true_eq_false, not_false_eq_true, forall_const, wipeE, big0, big1, big2, big3, big4, big5, big6, big7, big8, big9]
      rw [w_forD (n := S.length + (G.length + 2)) rfl (by rw [get_off]; exact hG2), set_off]
      simp only [List.set_cons_succ]
      refine for_ix (fun j env S' => ∃ a6 f kvsA', env = [some (.int n), some (.tup (esD E)), some (.loc S.length), some (.loc (S.length + 1)), some (.loc (S.length + (G.length + 2))), some d, a6] ∧
          S' = S ++ (.lst (suD n (grun E z0 (i + 1)).s) :: .dct kvsA' :: (G ++ [Ob.dct kvs]).set G.length (.rod kvs)) ∧ LowOk kvsA' f ∧ kvsA'.length ≤ i * E.length + j ∧
          (∀ v, lowOf (i + 1) (grun E z0 (i + 1)) v = none → f v = (grun E z0 i).pred v) ∧ ∀ m kv, m < j → kvs[m]? = some kv → ∀ v : Nat, kv.1 = .inl (v : Nat) → f v = lowOf (i + 1) (grun E z0 (i + 1)) v)
        (fun i e s _ => True.intro) ⟨a6, _, kvsA, rfl, rfl, hA, by omega, fun v _ => rfl, fun m kv h => by omega⟩ ?_ ?_
      · rintro env S' ⟨a6, f, kvsA', rfl, rfl, hA', hAl', fA, fB⟩
        simp only [List.length_map] at hAl' fB
        have hrod : ((G ++ [Ob.dct kvs]).set G.length (.rod kvs))[G.length]? = some (.rod kvs) := by rw [List.getElem?_set]; simp
        refine ⟨by rw [get_off]; exact hrod, by omega, some d, a6, G.length, kvsA', kvs, G ++ [.dct kvs], rfl, ?_, hG2, hA'.ext (merge fA fun v hv => ?_), ?_, hk, hkl⟩
        · rw [set_off]
          simp only [List.set_cons_succ, List.set_set]
          rw [set_self hG2]
        · have h2 := hk.val v
          cases q : lowOf (i + 1) (grun E z0 (i + 1)) v with
          | none => exact absurd q hv
          | some p =>
            rw [q] at h2
            obtain ⟨kv, hkv, ek⟩ := valD_some h2
            obtain ⟨m, hm, em⟩ := List.getElem_of_mem hkv
            have := fB m kv hm (by rw [List.getElem?_eq_getElem hm, em]) v ek
            rw [this, q]
        · rw [Nat.add_mul]; omega
      · rintro j dk env S' hdk ⟨a6, f, kvsA', rfl, rfl, hA', hAl', fA, fB⟩
        have hj : j < kvs.length := by
          have := (List.getElem?_eq_some_iff.mp hdk).1
          simpa using this
        have hdk2 : dk = keyD kvs[j].1 := by
          rw [List.getElem?_map, List.getElem?_eq_getElem hj] at hdk
          exact (Option.some.inj hdk).symm
        subst hdk2
        obtain ⟨⟨v, hv1, hv2⟩, _⟩ := hk.key kvs[j] (List.getElem_mem hj)
        rw [hv1]
        have hval := hk.val v
        cases q : lowOf (i + 1) (grun E z0 (i + 1)) v with
        | none => exact absurd q hv2
        | some p =>
          rw [q] at hval
          have hrod : ((G ++ [Ob.dct kvs]).set G.length (.rod kvs))[G.length]? = some (.rod kvs) := by rw [List.getElem?_set]; simp
          have b1 : kvsA'.length < big := by
            have : i * E.length ≤ 1000 * 900 := Nat.mul_le_mul (by omega) (by omega)
            have : kvsA'.length < 950000 := by omega
            exact Nat.lt_of_lt_of_le this (by decide)
          simp only [w_var, w_c, w_bin, w_un, w_dB, wt_and, wt_or, wt_not, w_if, w_andV, w_orV, w_notV, w_anil, w_acons, w_call, w_app, w_tup, w_lst, w_dict, w_onone, w_osome, w_sl, w_tru, w_chain, w_meth, w_lc, w_nop, w_brk, w_cnt, w_seq, w_ret, w_retN, w_drop, w_ifS, w_asg, w_gN, w_gN0, w_gT, w_gT0, w_gnil, w_gnil0, w_gcons, w_gnsnil0, w_gnscons0, w_gsub, w_par, w_par3, w_aug, w_for, w_range1, w_range2, w_seqI, w_enum, okO_some, okS_some, okV_some, okB_bl, okI_int, okT_tup, okC_some, okQ_tup, okO_newL, okO_if, okO_ifL, okS_if, ok2_two, ok3_three, f1, f2, br_true, br_false, br_dec, br_not, atI_0, atI_1, atI_2, atI_3, atI_4, Option.map_some, ok_val, List.map_cons, List.map_nil, List.cons_append, List.nil_append, List.replicate_succ, List.replicate_zero, List.getElem?_cons_zero, List.getElem?_cons_succ, List.set_cons_zero, List.set_cons_succ, List.length_cons, List.length_nil, Nat.reduceSub, Nat.reduceAdd, Nat.reduceLeDiff, true_and, and_true, ne_eq, not_true_eq_false, not_false_eq_true, forall_const, wipeE, big0, big1, big2, big3, big4, big5, big6, big7, big8, big9, d_falling_round_l1, keyD, fIx, get_off, hrod, hval, fSet, toKey, Option.bind_some, b1, if_true, set_off]
          refine ⟨_, setN f v (some p), _, rfl, rfl, hA'.put v p, Nat.le_trans put_len (by omega), fun u hu => ?_, fun m kv hm hkv u hu => ?_⟩
          · unfold setN
            rw [if_neg (fun e => by subst e; rw [q] at hu; cases hu)]
            exact fA u hu
          · unfold setN
            by_cases e : u = v
            · subst e; rw [if_pos rfl, q]
            · rw [if_neg e]
              by_cases z : m = j
              · subst z
                rw [List.getElem?_eq_getElem hj] at hkv
                cases hkv
                rw [hv1] at hu
                simp only [Sum.inl.injEq] at hu
                omega
              · exact fB m kv (by omega) hkv u hu
end K68

set_option Elab.async false
set_option linter.all false
set_option maxRecDepth 100000
set_option maxHeartbeats 2000000
set_option autoImplicit false
namespace K68
open PySem PySem.Spec PyProof.Rows L2 Sh RX

/-! ### least_ways -/
theorem still_n {E : List Ed} {n : Nat} {s : Su} {h : Nat → Int} (hE : ∀ e ∈ E, e.1 < n ∧ e.2.1 < n) (hp : Pot E h) : chg (passes E s n) E = false := by
  cases q : chg (passes E s n) E with
  | false => rfl
  | true =>
    obtain ⟨v, hv⟩ := low_some.mpr q
    have hrv : (grun E s (n + 1)).rnd v = n + 1 := by
      unfold lowOf at hv
      by_cases e : (grun E s (n + 1)).rnd v = n + 1
      · exact e
      · rw [if_neg e] at hv; exact absurd rfl hv
    obtain ⟨ps, hps⟩ := cycle_of hE (Inv.runEnd E s n) hrv
    exact (hps.noPot hp).elim
def sAt (start : Nat) : Su := up (fun _ => none) start 0
theorem least_ok {E : List Ed} {n start : Nat} {h : Nat → Int} {S : Sto} (hE : ∀ e ∈ E, e.1 < n ∧ e.2.1 < n) (hn : n < 1000) (hl : E.length < 900) (hs : start < n) (hp : Pot E h) {X : Ex → Sto → Prop} {Q : D → Sto → Prop}
    (hQ : Q (.tup (suD n (passes E (sAt start) n))) S) : (d_least_ways [.int (n : Nat), .tup (esD E), .int (start : Nat)] S).ok Q X := by
  have hst : chg (passes E (sAt start) n) E = false := still_n hE hp
  unfold d_least_ways
  rw [w_fn]
  refine ⟨rfl, ?_⟩
  unfold d_least_ways_b
  simp only [w_var, w_c, w_bin, w_un, w_dB, wt_and, wt_or, wt_not, w_if, w_andV, w_orV, w_notV, w_anil, w_acons, w_call, w_app, w_tup, w_lst, w_dict, w_onone, w_osome, w_sl, w_tru, w_chain, w_meth, w_lc, w_nop, w_brk, w_cnt, w_seq, w_ret, w_retN, w_drop, w_ifS, w_asg, w_gN, w_gN0, w_gT, w_gT0, w_gnil, w_gnil0, w_gcons, w_gnsnil0, w_gnscons0, w_gsub, w_par, w_par3, w_aug, w_for, w_range1, w_range2, w_seqI, w_enum, okO_some, okS_some, okV_some, okB_bl, okI_int, okT_tup, okC_some, okQ_tup, okO_newL, okO_if, okO_ifL, okS_if, ok2_two, ok3_three, f1, f2, br_true, br_false, br_dec, br_not, atI_0, atI_1, atI_2, atI_3, atI_4, Option.map_some, ok_val, List.map_cons, List.map_nil, List.cons_append, List.nil_append, List.replicate_succ, List.replicate_zero, List.getElem?_cons_zero, List.getElem?_cons_succ, List.set_cons_zero, List.set_cons_succ, List.length_cons, List.length_nil, Nat.reduceSub, Nat.reduceAdd, Nat.reduceLeDiff, true_and, and_true, ne_eq, not_true_eq_false, not_false_eq_true, forall_const, wipeE, big0, big1, big2, big3, big4, big5, big6, big7, big8, big9]
  refine ⟨rgOk_nat (by omega), ?_⟩
  refine comp_pure (fun _ => .non) (le_big (by simp; omega)) (fun _ => True.intro) (fun i d acc hd => ?_) ?_
  · simp only [w_var, w_c, w_bin, w_un, w_dB, wt_and, wt_or, wt_not, w_if, w_andV, w_orV, w_notV, w_anil, w_acons, w_call, w_app, w_tup, w_lst, w_dict, w_onone, w_osome, w_sl, w_tru, w_chain, w_meth, w_lc, w_nop, w_brk, w_cnt, w_seq, w_ret, w_retN, w_drop, w_ifS, w_asg, w_gN, w_gN0, w_gT, w_gT0, w_gnil, w_gnil0, w_gcons, w_gnsnil0, w_gnscons0, w_gsub, w_par, w_par3, w_aug, w_for, w_range1, w_range2, w_seqI, w_enum, okO_some, okS_some, okV_some, okB_bl, okI_int, okT_tup, okC_some, okQ_tup, okO_newL, okO_if, okO_ifL, okS_if, ok2_two, ok3_three, f1, f2, br_true, br_false, br_dec, br_not, atI_0, atI_1, atI_2, atI_3, atI_4, Option.map_some, ok_val, List.map_cons, List.map_nil, List.cons_append, List.nil_append, List.replicate_succ, List.replicate_zero, List.getElem?_cons_zero, List.getElem?_cons_succ, List.set_cons_zero, List.set_cons_succ, List.length_cons, List.length_nil, Nat.reduceSub, Nat.reduceAdd, Nat.reduceLeDiff, true_and, and_true, ne_eq, not_true_eq_false, not_false_eq_true, forall_const, wipeE, big0, big1, big2, big3, big4, big5, big6, big7, big8, big9, tYesD]
  · have ez : List.map (fun x => D.non) (List.range (List.map (fun i => D.int (0 + ((i : Nat) : Int))) (List.range (n : Int).toNat)).length) = suD n (fun _ => none) := by
      simp [suD, oD]
    rw [ez]
    unfold d_least_ways_r4 d_least_ways_r3 d_least_ways_r2
    simp only [w_var, w_c, w_bin, w_un, w_dB, wt_and, wt_or, wt_not, w_if, w_andV, w_orV, w_notV, w_anil, w_acons, w_call, w_app, w_tup, w_lst, w_dict, w_onone, w_osome, w_sl, w_tru, w_chain, w_meth, w_lc, w_nop, w_brk, w_cnt, w_seq, w_ret, w_retN, w_drop, w_ifS, w_asg, w_gN, w_gN0, w_gT, w_gT0, w_gnil, w_gnil0, w_gcons, w_gnsnil0, w_gnscons0, w_gsub, w_par, w_par3, w_aug, w_for, w_range1, w_range2, w_seqI, w_enum, okO_some, okS_some, okV_some, okB_bl, okI_int, okT_tup, okC_some, okQ_tup, okO_newL, okO_if, okO_ifL, okS_if, ok2_two, ok3_three, f1, f2, br_true, br_false, br_dec, br_not, atI_0, atI_1, atI_2, atI_3, atI_4, Option.map_some, ok_val, List.map_cons, List.map_nil, List.cons_append, List.nil_append, List.replicate_succ, List.replicate_zero, List.getElem?_cons_zero, List.getElem?_cons_succ, List.set_cons_zero, List.set_cons_succ, List.length_cons, List.length_nil, Nat.reduceSub, Nat.reduceAdd, Nat.reduceLeDiff, true_and, and_true, ne_eq, not_true_eq_false, not_false_eq_true, forall_const, wipeE, big0, big1, big2, big3, big4, big5, big6, big7, big8, big9, List.append_assoc, List.length_append, Nat.zero_add, Nat.add_zero, Nat.add_assoc, Nat.reduceAdd, fSet, get_new, suD_len, ixN_nat hs, suD_set hs, set_app_new]
    refine wh_ok (fun m env S' => ∃ k c a5 G, m = n + 2 - k ∧ env = [some (.int n), some (.tup (esD E)), some (.int start), some (.loc S.length), some (.bl c), a5] ∧ S' = S ++ (.lst (suD n (passes E (sAt start) k)) :: G) ∧ ((c = true ∧ k ≤ n) ∨ (c = false ∧ passes E (sAt start) k = passes E (sAt start) n)))
      ⟨0, true, _, [], rfl, rfl, rfl, .inl ⟨rfl, Nat.zero_le _⟩⟩ ?_
    rintro m env S' ⟨k, c, a5, G, rfl, rfl, rfl, hc⟩
    simp only [w_var, w_c, w_bin, w_un, w_dB, wt_and, wt_or, wt_not, w_if, w_andV, w_orV, w_notV, w_anil, w_acons, w_call, w_app, w_tup, w_lst, w_dict, w_onone, w_osome, w_sl, w_tru, w_chain, w_meth, w_lc, w_nop, w_brk, w_cnt, w_seq, w_ret, w_retN, w_drop, w_ifS, w_asg, w_gN, w_gN0, w_gT, w_gT0, w_gnil, w_gnil0, w_gcons, w_gnsnil0, w_gnscons0, w_gsub, w_par, w_par3, w_aug, w_for, w_range1, w_range2, w_seqI, w_enum, okO_some, okS_some, okV_some, okB_bl, okI_int, okT_tup, okC_some, okQ_tup, okO_newL, okO_if, okO_ifL, okS_if, ok2_two, ok3_three, f1, f2, br_true, br_false, br_dec, br_not, atI_0, atI_1, atI_2, atI_3, atI_4, Option.map_some, ok_val, List.map_cons, List.map_nil, List.cons_append, List.nil_append, List.replicate_succ, List.replicate_zero, List.getElem?_cons_zero, List.getElem?_cons_succ, List.set_cons_zero, List.set_cons_succ, List.length_cons, List.length_nil, Nat.reduceSub, Nat.reduceAdd, Nat.reduceLeDiff, true_and, and_true, ne_eq, not_true_eq_false, not_false_eq_true, forall_const, wipeE, big0, big1, big2, big3, big4, big5, big6, big7, big8, big9, fTru]
    rcases hc with ⟨rfl, hk⟩ | ⟨rfl, hk⟩
    · simp only [br_true, d_least_ways_l1, w_var, w_c, w_bin, w_un, w_dB, wt_and, wt_or, wt_not, w_if, w_andV, w_orV, w_notV, w_anil, w_acons, w_call, w_app, w_tup, w_lst, w_dict, w_onone, w_osome, w_sl, w_tru, w_chain, w_meth, w_lc, w_nop, w_brk, w_cnt, w_seq, w_ret, w_retN, w_drop, w_ifS, w_asg, w_gN, w_gN0, w_gT, w_gT0, w_gnil, w_gnil0, w_gcons, w_gnsnil0, w_gnscons0, w_gsub, w_par, w_par3, w_aug, w_for, w_range1, w_range2, w_seqI, w_enum, okO_some, okS_some, okV_some, okB_bl, okI_int, okT_tup, okC_some, okQ_tup, okO_newL, okO_if, okO_ifL, okS_if, ok2_two, ok3_three, f1, f2, br_true, br_false, br_dec, br_not, atI_0, atI_1, atI_2, atI_3, atI_4, Option.map_some, ok_val, List.map_cons, List.map_nil, List.cons_append, List.nil_append, List.replicate_succ, List.replicate_zero, List.getElem?_cons_zero, List.getElem?_cons_succ, List.set_cons_zero, List.set_cons_succ, List.length_cons, List.length_nil, Nat.reduceSub, Nat.reduceAdd, Nat.reduceLeDiff, true_and, and_true, ne_eq, not_true_eq_false, not_false_eq_true, forall_const, wipeE, big0, big1, big2, big3, big4, big5, big6, big7, big8, big9]
      refine settle_ok (r := k + 1) (g := grun E (sAt start) k) hE (by omega) (by rw [grun_s, show S.length = S.length + 0 by omega, get_off]; rfl) (fun v => Nat.lt_succ_of_le (grun_rnd k v)) fun kvs hkv hkl => ?_
      have hkv : LowOk kvs (lowOf (k + 1) (grun E (sAt start) (k + 1))) := hkv
      have es : (S ++ Ob.lst (suD n (passes E (sAt start) k)) :: G).set S.length (.lst (suD n (gfrom (k + 1) 0 (grun E (sAt start) k) E).s)) ++ [.dct kvs] = S ++ (.lst (suD n (passes E (sAt start) (k + 1))) :: (G ++ [.dct kvs])) := by
        rw [show (S ++ Ob.lst (suD n (passes E (sAt start) k)) :: G).set S.length (.lst (suD n (gfrom (k + 1) 0 (grun E (sAt start) k) E).s)) = S ++ (.lst (suD n (gfrom (k + 1) 0 (grun E (sAt start) k) E).s) :: G) from set_off (k := 0)]
        rw [List.append_assoc, gfrom_s, grun_s]; rfl
      rw [es]
      have el : (S ++ Ob.lst (suD n (passes E (sAt start) k)) :: G).length = S.length + (G.length + 1) := by simp
      rw [el]
      have hG2 : (G ++ [Ob.dct kvs])[G.length]? = some (.dct kvs) := by rw [List.getElem?_append_right (Nat.le_refl _)]; simp
      simp only [w_var, w_c, w_bin, w_un, w_dB, wt_and, wt_or, wt_not, w_if, w_andV, w_orV, w_notV, w_anil, w_acons, w_call, w_app, w_tup, w_lst, w_dict, w_onone, w_osome, w_sl, w_tru, w_chain, w_meth, w_lc, w_nop, w_brk, w_cnt, w_seq, w_ret, w_retN, w_drop, w_ifS, w_asg, w_gN, w_gN0, w_gT, w_gT0, w_gnil, w_gnil0, w_gcons, w_gnsnil0, w_gnscons0, w_gsub, w_par, w_par3, w_aug, w_for, w_range1, w_range2, w_seqI, w_enum, okO_some, okS_some, okV_some, okB_bl, okI_int, okT_tup, okC_some, okQ_tup, okO_newL, okO_if, okO_ifL, okS_if, ok2_two, ok3_three, f1, f2, br_true, br_false, br_dec, br_not, atI_0, atI_1, atI_2, atI_3, atI_4, Option.map_some, ok_val, List.map_cons, List.map_nil, List.cons_append, List.nil_append, List.replicate_succ, List.replicate_zero, List.getElem?_cons_zero, List.getElem?_cons_succ, List.set_cons_zero, List.set_cons_succ, List.length_cons, List.length_nil, Nat.reduceSub, Nat.reduceAdd, Nat.reduceLeDiff, true_and, and_true, ne_eq, not_true_eq_false, not_false_eq_true, forall_const, wipeE, big0, big1, big2, big3, big4, big5, big6, big7, big8, big9, fLen, get_off, hG2, fGt, fCmp]
      have hch : decide (0 < (kvs.length : Int)) = chg (passes E (sAt start) k) E := by
        cases q : chg (passes E (sAt start) k) E with
        | true =>
          obtain ⟨v, hv⟩ := low_some.mpr q
          have : kvs ≠ [] := fun e => hv (hkv.nil_iff.mp e v)
          have : 0 < kvs.length := List.length_pos_iff.mpr this
          simp; omega
        | false =>
          have : kvs = [] := hkv.nil_iff.mpr fun v => by
            cases q2 : lowOf (k + 1) (grun E (sAt start) (k + 1)) v with
            | none => rfl
            | some p =>
              have := low_some.mp ⟨v, by rw [q2]; simp⟩
              rw [q] at this; cases this
          rw [this]; rfl
      rw [hch]
      refine ⟨n + 2 - (k + 1), by omega, k + 1, _, a5, _, rfl, rfl, rfl, ?_⟩
      cases q : chg (passes E (sAt start) k) E with
      | true =>
        refine .inl ⟨rfl, ?_⟩
        by_cases e : k = n
        · subst e; rw [hst] at q; cases q
        · omega
      | false =>
        refine .inr ⟨rfl, ?_⟩
        exact (passes_still q (k + 1) (by omega)).1.trans (passes_still q n hk).1.symm
    · simp only [br_false, w_var, w_c, w_bin, w_un, w_dB, wt_and, wt_or, wt_not, w_if, w_andV, w_orV, w_notV, w_anil, w_acons, w_call, w_app, w_tup, w_lst, w_dict, w_onone, w_osome, w_sl, w_tru, w_chain, w_meth, w_lc, w_nop, w_brk, w_cnt, w_seq, w_ret, w_retN, w_drop, w_ifS, w_asg, w_gN, w_gN0, w_gT, w_gT0, w_gnil, w_gnil0, w_gcons, w_gnsnil0, w_gnscons0, w_gsub, w_par, w_par3, w_aug, w_for, w_range1, w_range2, w_seqI, w_enum, okO_some, okS_some, okV_some, okB_bl, okI_int, okT_tup, okC_some, okQ_tup, okO_newL, okO_if, okO_ifL, okS_if, ok2_two, ok3_three, f1, f2, br_true, br_false, br_dec, br_not, atI_0, atI_1, atI_2, atI_3, atI_4, Option.map_some, ok_val, List.map_cons, List.map_nil, List.cons_append, List.nil_append, List.replicate_succ, List.replicate_zero, List.getElem?_cons_zero, List.getElem?_cons_succ, List.set_cons_zero, List.set_cons_succ, List.length_cons, List.length_nil, Nat.reduceSub, Nat.reduceAdd, Nat.reduceLeDiff, true_and, and_true, ne_eq, not_true_eq_false, not_false_eq_true, forall_const, wipeE, big0, big1, big2, big3, big4, big5, big6, big7, big8, big9, fTuple, seqOf, lstAt]
      rw [show S.length = S.length + 0 by omega, get_off]
      simp only [w_var, w_c, w_bin, w_un, w_dB, wt_and, wt_or, wt_not, w_if, w_andV, w_orV, w_notV, w_anil, w_acons, w_call, w_app, w_tup, w_lst, w_dict, w_onone, w_osome, w_sl, w_tru, w_chain, w_meth, w_lc, w_nop, w_brk, w_cnt, w_seq, w_ret, w_retN, w_drop, w_ifS, w_asg, w_gN, w_gN0, w_gT, w_gT0, w_gnil, w_gnil0, w_gcons, w_gnsnil0, w_gnscons0, w_gsub, w_par, w_par3, w_aug, w_for, w_range1, w_range2, w_seqI, w_enum, okO_some, okS_some, okV_some, okB_bl, okI_int, okT_tup, okC_some, okQ_tup, okO_newL, okO_if, okO_ifL, okS_if, ok2_two, ok3_three, f1, f2, br_true, br_false, br_dec, br_not, atI_0, atI_1, atI_2, atI_3, atI_4, Option.map_some, ok_val, List.map_cons, List.map_nil, List.cons_append, List.nil_append, List.replicate_succ, List.replicate_zero, List.getElem?_cons_zero, List.getElem?_cons_succ, List.set_cons_zero, List.set_cons_succ, List.length_cons, List.length_nil, Nat.reduceSub, Nat.reduceAdd, Nat.reduceLeDiff, true_and, and_true, ne_eq, not_true_eq_false, not_false_eq_true, forall_const, wipeE, big0, big1, big2, big3, big4, big5, big6, big7, big8, big9, hk]
      rw [gc_flat (Neat.refl S) (by rw [lo_tup]; exact suD_lo)]
      exact hQ

/-! ### is_potentials -/
theorem tyOf_app {d : D} {S : Sto} {t : String} {G : Sto} (h : tyOf d S = some t) : tyOf d (S ++ G) = some t := by
  cases d with
  | loc n =>
    simp only [tyOf] at h ⊢
    cases q : S[n]? with
    | none => rw [q] at h; cases h
    | some o =>
      rw [q] at h
      rw [get_app q]
      exact h
  | _ => exact h
theorem blsOf_map : ∀ l : List Bool, blsOf (l.map D.bl) = some l
  | [] => rfl
  | b :: l => by
    show (blsOf (l.map D.bl)).map (b :: ·) = _
    rw [blsOf_map l]; rfl
theorem pot_no {E : List Ed} {n : Nat} {d : D} {t : String} {S : Sto} (ht : tyOf d S = some t) (hno : t ≠ "tuple" ∨ ∃ xs, d = .tup xs ∧ xs.length ≠ n) {X : Ex → Sto → Prop} {Q : D → Sto → Prop}
    (hQ : Q (.bl false) S) : (d_is_potentials [.int (n : Nat), .tup (esD E), d] S).ok Q X := by
  unfold d_is_potentials
  rw [w_fn]
  refine ⟨rfl, ?_⟩
  unfold d_is_potentials_b
  simp only [w_var, w_c, w_bin, w_un, w_dB, wt_and, wt_or, wt_not, w_if, w_andV, w_orV, w_notV, w_anil, w_acons, w_call, w_app, w_tup, w_lst, w_dict, w_onone, w_osome, w_sl, w_tru, w_chain, w_meth, w_lc, w_nop, w_brk, w_cnt, w_seq, w_ret, w_retN, w_drop, w_ifS, w_asg, w_gN, w_gN0, w_gT, w_gT0, w_gnil, w_gnil0, w_gcons, w_gnsnil0, w_gnscons0, w_gsub, w_par, w_par3, w_aug, w_for, w_range1, w_range2, w_seqI, w_enum, okO_some, okS_some, okV_some, okB_bl, okI_int, okT_tup, okC_some, okQ_tup, okO_newL, okO_if, okO_ifL, okS_if, ok2_two, ok3_three, f1, f2, br_true, br_false, br_dec, br_not, atI_0, atI_1, atI_2, atI_3, atI_4, Option.map_some, ok_val, List.map_cons, List.map_nil, List.cons_append, List.nil_append, List.replicate_succ, List.replicate_zero, List.getElem?_cons_zero, List.getElem?_cons_succ, List.set_cons_zero, List.set_cons_succ, List.length_cons, List.length_nil, Nat.reduceSub, Nat.reduceAdd, Nat.reduceLeDiff, true_and, and_true, ne_eq, not_true_eq_false, not_false_eq_true, forall_const, wipeE, big0, big1, big2, big3, big4, big5, big6, big7, big8, big9]
  have fin : ∀ S1 : Sto, S1 = S → Q (gc S (.bl false) S1).1 (gc S (.bl false) S1).2 := fun S1 e => by
    subst e
    rw [gc_non (by rw [lo_bl]; exact True.intro)]; exact hQ
  refine is_tuple_ok ht (fun xs e => ?_) fun hn => ?_
  · subst e
    rcases hno with h | ⟨ys, h1, h2⟩
    · simp only [tyOf, Option.some.injEq] at ht
      exact absurd ht.symm h
    · cases h1
      simp [fTru, h2, okC, br]
      exact fin S rfl
  · simp [fTru, okC, br]
    exact fin S rfl
/-- ds: the entries, with their types -/
theorem pot_tup {E : List Ed} {n : Nat} {ds : List D} {S : Sto} (hn : n < 1000) (hl : E.length < 900) (hd : ds.length = n) (ty : ∀ d ∈ ds, ∃ t, tyOf d S = some t) {X : Ex → Sto → Prop} {Q : D → Sto → Prop}
    (hbad : (∃ d ∈ ds, tyOf d S ≠ some "int") → Q (.bl false) S)
    (hgood : ∀ hs : List Int, ds = hs.map .int → Q (.bl (E.all fun e => decide (hs.getD e.2.1 0 ≤ hs.getD e.1 0 + e.2.2))) S) (hE : ∀ e ∈ E, e.1 < n ∧ e.2.1 < n) : (d_is_potentials [.int (n : Nat), .tup (esD E), .tup ds] S).ok Q X := by
  unfold d_is_potentials
  rw [w_fn]
  refine ⟨rfl, ?_⟩
  unfold d_is_potentials_b
  simp only [w_var, w_c, w_bin, w_un, w_dB, wt_and, wt_or, wt_not, w_if, w_andV, w_orV, w_notV, w_anil, w_acons, w_call, w_app, w_tup, w_lst, w_dict, w_onone, w_osome, w_sl, w_tru, w_chain, w_meth, w_lc, w_nop, w_brk, w_cnt, w_seq, w_ret, w_retN, w_drop, w_ifS, w_asg, w_gN, w_gN0, w_gT, w_gT0, w_gnil, w_gnil0, w_gcons, w_gnsnil0, w_gnscons0, w_gsub, w_par, w_par3, w_aug, w_for, w_range1, w_range2, w_seqI, w_enum, okO_some, okS_some, okV_some, okB_bl, okI_int, okT_tup, okC_some, okQ_tup, okO_newL, okO_if, okO_ifL, okS_if, ok2_two, ok3_three, f1, f2, br_true, br_false, br_dec, br_not, atI_0, atI_1, atI_2, atI_3, atI_4, Option.map_some, ok_val, List.map_cons, List.map_nil, List.cons_append, List.nil_append, List.replicate_succ, List.replicate_zero, List.getElem?_cons_zero, List.getElem?_cons_succ, List.set_cons_zero, List.set_cons_succ, List.length_cons, List.length_nil, Nat.reduceSub, Nat.reduceAdd, Nat.reduceLeDiff, true_and, and_true, ne_eq, not_true_eq_false, not_false_eq_true, forall_const, wipeE, big0, big1, big2, big3, big4, big5, big6, big7, big8, big9]
  refine is_tuple_ok (t := "tuple") rfl (fun xs e => ?_) fun hn => absurd rfl hn
  cases e
  simp only [hd, decide_true, fTru, okC_some, br_true, br_not, w_var, w_c, w_bin, w_un, w_dB, wt_and, wt_or, wt_not, w_if, w_andV, w_orV, w_notV, w_anil, w_acons, w_call, w_app, w_tup, w_lst, w_dict, w_onone, w_osome, w_sl, w_tru, w_chain, w_meth, w_lc, w_nop, w_brk, w_cnt, w_seq, w_ret, w_retN, w_drop, w_ifS, w_asg, w_gN, w_gN0, w_gT, w_gT0, w_gnil, w_gnil0, w_gcons, w_gnsnil0, w_gnscons0, w_gsub, w_par, w_par3, w_aug, w_for, w_range1, w_range2, w_seqI, w_enum, okO_some, okS_some, okV_some, okB_bl, okI_int, okT_tup, okC_some, okQ_tup, okO_newL, okO_if, okO_ifL, okS_if, ok2_two, ok3_three, f1, f2, br_true, br_false, br_dec, br_not, atI_0, atI_1, atI_2, atI_3, atI_4, Option.map_some, ok_val, List.map_cons, List.map_nil, List.cons_append, List.nil_append, List.replicate_succ, List.replicate_zero, List.getElem?_cons_zero, List.getElem?_cons_succ, List.set_cons_zero, List.set_cons_succ, List.length_cons, List.length_nil, Nat.reduceSub, Nat.reduceAdd, Nat.reduceLeDiff, true_and, and_true, ne_eq, not_true_eq_false, not_false_eq_true, forall_const, wipeE, big0, big1, big2, big3, big4, big5, big6, big7, big8, big9]
  refine comp_pure (fun i => .bl (decide (tyOf (ds.getD i .non) S = some "int"))) (le_big (by omega)) (fun _ => True.intro) (fun i d acc hdi => ?_) ?_
  · simp only [w_var, w_c, w_bin, w_un, w_dB, wt_and, wt_or, wt_not, w_if, w_andV, w_orV, w_notV, w_anil, w_acons, w_call, w_app, w_tup, w_lst, w_dict, w_onone, w_osome, w_sl, w_tru, w_chain, w_meth, w_lc, w_nop, w_brk, w_cnt, w_seq, w_ret, w_retN, w_drop, w_ifS, w_asg, w_gN, w_gN0, w_gT, w_gT0, w_gnil, w_gnil0, w_gcons, w_gnsnil0, w_gnscons0, w_gsub, w_par, w_par3, w_aug, w_for, w_range1, w_range2, w_seqI, w_enum, okO_some, okS_some, okV_some, okB_bl, okI_int, okT_tup, okC_some, okQ_tup, okO_newL, okO_if, okO_ifL, okS_if, ok2_two, ok3_three, f1, f2, br_true, br_false, br_dec, br_not, atI_0, atI_1, atI_2, atI_3, atI_4, Option.map_some, ok_val, List.map_cons, List.map_nil, List.cons_append, List.nil_append, List.replicate_succ, List.replicate_zero, List.getElem?_cons_zero, List.getElem?_cons_succ, List.set_cons_zero, List.set_cons_succ, List.length_cons, List.length_nil, Nat.reduceSub, Nat.reduceAdd, Nat.reduceLeDiff, true_and, and_true, ne_eq, not_true_eq_false, not_false_eq_true, forall_const, wipeE, big0, big1, big2, big3, big4, big5, big6, big7, big8, big9, tYesD]
    obtain ⟨t, ht⟩ := ty d (List.mem_of_getElem? hdi)
    refine is_integer_ok (tyOf_app ht) ⟨?_, rfl⟩
    simp [List.getD_eq_getElem?_getD, hdi, ht]
  · have eb : List.map (fun i => D.bl (decide (tyOf (ds.getD i .non) S = some "int"))) (List.range ds.length) = ((ds.map fun d => decide (tyOf d S = some "int"))).map D.bl := by
      apply List.ext_getElem
      · simp
      · intro k h1 h2
        simp at h1
        simp [List.getD_eq_getElem?_getD, h1]
    rw [eb]
    simp only [w_var, w_c, w_bin, w_un, w_dB, wt_and, wt_or, wt_not, w_if, w_andV, w_orV, w_notV, w_anil, w_acons, w_call, w_app, w_tup, w_lst, w_dict, w_onone, w_osome, w_sl, w_tru, w_chain, w_meth, w_lc, w_nop, w_brk, w_cnt, w_seq, w_ret, w_retN, w_drop, w_ifS, w_asg, w_gN, w_gN0, w_gT, w_gT0, w_gnil, w_gnil0, w_gcons, w_gnsnil0, w_gnscons0, w_gsub, w_par, w_par3, w_aug, w_for, w_range1, w_range2, w_seqI, w_enum, okO_some, okS_some, okV_some, okB_bl, okI_int, okT_tup, okC_some, okQ_tup, okO_newL, okO_if, okO_ifL, okS_if, ok2_two, ok3_three, f1, f2, br_true, br_false, br_dec, br_not, atI_0, atI_1, atI_2, atI_3, atI_4, Option.map_some, ok_val, List.map_cons, List.map_nil, List.cons_append, List.nil_append, List.replicate_succ, List.replicate_zero, List.getElem?_cons_zero, List.getElem?_cons_succ, List.set_cons_zero, List.set_cons_succ, List.length_cons, List.length_nil, Nat.reduceSub, Nat.reduceAdd, Nat.reduceLeDiff, true_and, and_true, ne_eq, not_true_eq_false, not_false_eq_true, forall_const, wipeE, big0, big1, big2, big3, big4, big5, big6, big7, big8, big9, fAll, lstAt, get_new, blsOf_map, fTru]
    cases q : (ds.map fun d => decide (tyOf d S = some "int")).all id with
    | false =>
      simp only [Bool.not_false, br_true, br_false, w_var, w_c, w_bin, w_un, w_dB, wt_and, wt_or, wt_not, w_if, w_andV, w_orV, w_notV, w_anil, w_acons, w_call, w_app, w_tup, w_lst, w_dict, w_onone, w_osome, w_sl, w_tru, w_chain, w_meth, w_lc, w_nop, w_brk, w_cnt, w_seq, w_ret, w_retN, w_drop, w_ifS, w_asg, w_gN, w_gN0, w_gT, w_gT0, w_gnil, w_gnil0, w_gcons, w_gnsnil0, w_gnscons0, w_gsub, w_par, w_par3, w_aug, w_for, w_range1, w_range2, w_seqI, w_enum, okO_some, okS_some, okV_some, okB_bl, okI_int, okT_tup, okC_some, okQ_tup, okO_newL, okO_if, okO_ifL, okS_if, ok2_two, ok3_three, f1, f2, br_true, br_false, br_dec, br_not, atI_0, atI_1, atI_2, atI_3, atI_4, Option.map_some, ok_val, List.map_cons, List.map_nil, List.cons_append, List.nil_append, List.replicate_succ, List.replicate_zero, List.getElem?_cons_zero, List.getElem?_cons_succ, List.set_cons_zero, List.set_cons_succ, List.length_cons, List.length_nil, Nat.reduceSub, Nat.reduceAdd, Nat.reduceLeDiff, true_and, and_true, ne_eq, not_true_eq_false, not_false_eq_true, forall_const, wipeE, big0, big1, big2, big3, big4, big5, big6, big7, big8, big9]
      rw [gc_flat (Neat.refl S) (by rw [lo_bl]; exact True.intro)]
      refine hbad ?_
      rw [List.all_eq_false] at q
      obtain ⟨x, hx, hx2⟩ := q
      obtain ⟨d, hd1, rfl⟩ := List.mem_map.mp hx
      exact ⟨d, hd1, by simpa using hx2⟩
    | true =>
      simp only [Bool.not_true, br_true, br_false, w_var, w_c, w_bin, w_un, w_dB, wt_and, wt_or, wt_not, w_if, w_andV, w_orV, w_notV, w_anil, w_acons, w_call, w_app, w_tup, w_lst, w_dict, w_onone, w_osome, w_sl, w_tru, w_chain, w_meth, w_lc, w_nop, w_brk, w_cnt, w_seq, w_ret, w_retN, w_drop, w_ifS, w_asg, w_gN, w_gN0, w_gT, w_gT0, w_gnil, w_gnil0, w_gcons, w_gnsnil0, w_gnscons0, w_gsub, w_par, w_par3, w_aug, w_for, w_range1, w_range2, w_seqI, w_enum, okO_some, okS_some, okV_some, okB_bl, okI_int, okT_tup, okC_some, okQ_tup, okO_newL, okO_if, okO_ifL, okS_if, ok2_two, ok3_three, f1, f2, br_true, br_false, br_dec, br_not, atI_0, atI_1, atI_2, atI_3, atI_4, Option.map_some, ok_val, List.map_cons, List.map_nil, List.cons_append, List.nil_append, List.replicate_succ, List.replicate_zero, List.getElem?_cons_zero, List.getElem?_cons_succ, List.set_cons_zero, List.set_cons_succ, List.length_cons, List.length_nil, Nat.reduceSub, Nat.reduceAdd, Nat.reduceLeDiff, true_and, and_true, ne_eq, not_true_eq_false, not_false_eq_true, forall_const, wipeE, big0, big1, big2, big3, big4, big5, big6, big7, big8, big9]
      have all_int : ∀ d ∈ ds, tyOf d S = some "int" := by
        intro d hd1
        have := List.all_eq_true.mp q _ (List.mem_map.mpr ⟨d, hd1, rfl⟩)
        simpa using this
      have isint : ∃ hs : List Int, ds = hs.map D.int := by
        have gen : ∀ l : List D, (∀ d ∈ l, tyOf d S = some "int") → ∃ hs : List Int, l = hs.map D.int := by
          intro l
          induction l with
          | nil => intro _; exact ⟨[], rfl⟩
          | cons d l ih =>
            intro h
            obtain ⟨hs, e⟩ := ih fun d hd => h d (List.mem_cons_of_mem _ hd)
            have h1 := h d List.mem_cons_self
            have : ∃ i, d = .int i := by
              cases d with
              | int i => exact ⟨i, rfl⟩
              | loc m =>
                simp only [tyOf] at h1
                split at h1 <;> first | (cases h1; done) | (simp at h1)
              | _ => first | (cases h1; done) | (simp [tyOf] at h1)
            obtain ⟨i, rfl⟩ := this
            exact ⟨i :: hs, by rw [e]; rfl⟩
        exact gen ds all_int
      obtain ⟨hs, rfl⟩ := isint
      have hlen : hs.length = n := by simpa using hd
      have at_ : ∀ u : Nat, u < n → atI (hs.map D.int) (u : Nat) = some (.int (hs.getD u 0)) := fun u hu => by
        refine atI_nat rfl ?_
        rw [List.getElem?_map, List.getElem?_eq_getElem (by omega)]
        simp [List.getD_eq_getElem?_getD, hlen, hu]
      refine comp_pure (fun i => .bl (decide (hs.getD (E.getD i (0, 0, 0)).2.1 0 ≤ hs.getD (E.getD i (0, 0, 0)).1 0 + (E.getD i (0, 0, 0)).2.2))) (le_big (by simp; omega)) (fun _ => True.intro) (fun i d acc hdi => ?_) ?_
      · rw [List.getElem?_map] at hdi
        cases q2 : E[i]? with
        | none => rw [q2] at hdi; cases hdi
        | some e =>
          rw [q2] at hdi
          cases hdi
          obtain ⟨h1, h2⟩ := hE e (List.mem_of_getElem? q2)
          simp only [w_var, w_c, w_bin, w_un, w_dB, wt_and, wt_or, wt_not, w_if, w_andV, w_orV, w_notV, w_anil, w_acons, w_call, w_app, w_tup, w_lst, w_dict, w_onone, w_osome, w_sl, w_tru, w_chain, w_meth, w_lc, w_nop, w_brk, w_cnt, w_seq, w_ret, w_retN, w_drop, w_ifS, w_asg, w_gN, w_gN0, w_gT, w_gT0, w_gnil, w_gnil0, w_gcons, w_gnsnil0, w_gnscons0, w_gsub, w_par, w_par3, w_aug, w_for, w_range1, w_range2, w_seqI, w_enum, okO_some, okS_some, okV_some, okB_bl, okI_int, okT_tup, okC_some, okQ_tup, okO_newL, okO_if, okO_ifL, okS_if, ok2_two, ok3_three, f1, f2, br_true, br_false, br_dec, br_not, atI_0, atI_1, atI_2, atI_3, atI_4, Option.map_some, ok_val, List.map_cons, List.map_nil, List.cons_append, List.nil_append, List.replicate_succ, List.replicate_zero, List.getElem?_cons_zero, List.getElem?_cons_succ, List.set_cons_zero, List.set_cons_succ, List.length_cons, List.length_nil, Nat.reduceSub, Nat.reduceAdd, Nat.reduceLeDiff, true_and, and_true, ne_eq, not_true_eq_false, not_false_eq_true, forall_const, wipeE, big0, big1, big2, big3, big4, big5, big6, big7, big8, big9, tYesD, eD, fIx, at_ _ h1, at_ _ h2, fAdd, fGe, fCmp]
          simp [List.getD_eq_getElem?_getD, q2]
      · have eb2 : List.map (fun i => D.bl (decide (hs.getD (E.getD i (0, 0, 0)).2.1 0 ≤ hs.getD (E.getD i (0, 0, 0)).1 0 + (E.getD i (0, 0, 0)).2.2))) (List.range (esD E).length) = (E.map fun e => decide (hs.getD e.2.1 0 ≤ hs.getD e.1 0 + e.2.2)).map D.bl := by
          apply List.ext_getElem
          · simp
          · intro k h1 h2
            simp at h1
            simp [List.getD_eq_getElem?_getD, h1]
        rw [eb2]
        simp only [w_var, w_c, w_bin, w_un, w_dB, wt_and, wt_or, wt_not, w_if, w_andV, w_orV, w_notV, w_anil, w_acons, w_call, w_app, w_tup, w_lst, w_dict, w_onone, w_osome, w_sl, w_tru, w_chain, w_meth, w_lc, w_nop, w_brk, w_cnt, w_seq, w_ret, w_retN, w_drop, w_ifS, w_asg, w_gN, w_gN0, w_gT, w_gT0, w_gnil, w_gnil0, w_gcons, w_gnsnil0, w_gnscons0, w_gsub, w_par, w_par3, w_aug, w_for, w_range1, w_range2, w_seqI, w_enum, okO_some, okS_some, okV_some, okB_bl, okI_int, okT_tup, okC_some, okQ_tup, okO_newL, okO_if, okO_ifL, okS_if, ok2_two, ok3_three, f1, f2, br_true, br_false, br_dec, br_not, atI_0, atI_1, atI_2, atI_3, atI_4, Option.map_some, ok_val, List.map_cons, List.map_nil, List.cons_append, List.nil_append, List.replicate_succ, List.replicate_zero, List.getElem?_cons_zero, List.getElem?_cons_succ, List.set_cons_zero, List.set_cons_succ, List.length_cons, List.length_nil, Nat.reduceSub, Nat.reduceAdd, Nat.reduceLeDiff, true_and, and_true, ne_eq, not_true_eq_false, not_false_eq_true, forall_const, wipeE, big0, big1, big2, big3, big4, big5, big6, big7, big8, big9, fAll, lstAt, get_new, blsOf_map]
        rw [List.append_assoc, gc_flat (Neat.refl S) (by rw [lo_bl]; exact True.intro)]
        have := hgood hs rfl
        rw [List.all_map]
        exact this
end K68

set_option Elab.async false
set_option linter.all false
set_option maxRecDepth 100000
set_option maxHeartbeats 2000000
set_option autoImplicit false
namespace K68
open PySem PySem.Spec PyProof.Rows L2 Sh RX

theorem mulOk_r {a b : Int} (h : b.natAbs < 1000000000000000000) : IntMulOk a b := IntMulOk.of_right (PySem.intBits_le_64 (by omega) (by omega))
theorem mulOk_l {a b : Int} (h : a.natAbs < 1000000000000000000) : IntMulOk a b := IntMulOk.of_left (PySem.intBits_le_64 (by omega) (by omega))
theorem divOk {i j : Int} (h1 : j ≠ 0) (h2 : j.natAbs < 2 ^ 100) : DivOk i j := by
  refine ⟨h1, ?_⟩
  unfold Builtin.divisionGoesByPylong
  have hl : j.natAbs.log2 < 100 := (Nat.log2_lt (by omega)).mpr h2
  have : ¬ ((if (j == 0) = true then 0 else j.natAbs.log2 / 30 + 1) > 300) := by
    split
    · omega
    · omega
  simp only [decide_eq_false this, Bool.false_and]

/-! ### the mill -/
structure Mil where
  m : Nat
  c : Nat
  w : Nat
  corn : List Int
  wide : List Int
structure MS (M : Mil) (S : Sto) : Prop where
  mc : M.m ≠ M.c
  mw : M.m ≠ M.w
  c : S[M.c]? = some (.lst (M.corn.map D.int))
  w : S[M.w]? = some (.lst (M.wide.map D.int))
  ne : M.corn ≠ []
  pos : ∀ x ∈ M.wide, 0 ≤ x
  len : M.corn.length < 1000 ∧ M.wide.length < 1000
  st : ∃ (a : Int) (b : Nat) (e : Int), b ≤ M.wide.length ∧ 0 ≤ e ∧ S[M.m]? = some (.lst [.loc M.c, .loc M.w, .int a, .int (b : Nat), .int e])
theorem MS.lt {M : Mil} {S : Sto} (h : MS M S) : M.m < S.length ∧ M.c < S.length ∧ M.w < S.length := by
  obtain ⟨a, b, e, _, _, h1⟩ := h.st
  exact ⟨lt_of_get h1, lt_of_get h.c, lt_of_get h.w⟩
theorem MS.app {M : Mil} {S : Sto} (h : MS M S) (G : Sto) : MS M (S ++ G) := by
  obtain ⟨a, b, e, h1, h2, h3⟩ := h.st
  exact ⟨h.mc, h.mw, get_app h.c, get_app h.w, h.ne, h.pos, h.len, a, b, e, h1, h2, get_app h3⟩
theorem ixN_5 : ixN 5 2 = some 2 ∧ ixN 5 3 = some 3 ∧ ixN 5 4 = some 4 := by decide
theorem MS.mk' {M : Mil} {S : Sto} (h : MS M S) {a : Int} {b : Nat} {e : Int} (hb : b ≤ M.wide.length) (he : 0 ≤ e) : MS M (S.set M.m (.lst [.loc M.c, .loc M.w, .int a, .int (b : Nat), .int e])) :=
  ⟨h.mc, h.mw, by rw [get_set_ne h.mc]; exact h.c, by rw [get_set_ne h.mw]; exact h.w, h.ne, h.pos, h.len, a, b, e, hb, he, get_set h.lt.1⟩
theorem grind_ok {M : Mil} {S : Sto} {k : Int} (h : MS M S) (hk : 0 < k) (hk2 : k.natAbs < 2 ^ 100) {X : Ex → Sto → Prop} {Q : D → Sto → Prop}
    (hQ : ∀ (r : Nat) (o : Ob), (r : Int) < k → MS M (S.set M.m o) → (∀ n, M.c < n → M.w < n → o.lo n) → Q (.int (r : Nat)) (S.set M.m o)) : (d_law_grind [.loc M.m, .int k] S).ok Q X := by
  obtain ⟨hm, hc, hw⟩ := h.lt
  obtain ⟨a, b, e, hb, he, hst⟩ := h.st
  have gm : ∀ o, (S.set M.m o)[M.m]? = some o := fun o => get_set hm
  have gc_ : ∀ o, (S.set M.m o)[M.c]? = some (.lst (M.corn.map D.int)) := fun o => by rw [get_set_ne h.mc]; exact h.c
  have gw : ∀ o, (S.set M.m o)[M.w]? = some (.lst (M.wide.map D.int)) := fun o => by rw [get_set_ne h.mw]; exact h.w
  have olo : ∀ (a : Int) (b : Nat) (e : Int) n, M.c < n → M.w < n → Ob.lo n (.lst [.loc M.c, .loc M.w, .int a, .int (b : Nat), .int e]) := fun a b e n h1 h2 => by
    rw [lo_lst]; simp [la_cons, la_nil, lo_loc, lo_int, h1, h2]
  have fin : ∀ (x : Int) (a : Int) (b : Nat) (e : Int), b ≤ M.wide.length → 0 ≤ e → Q (gc S (.int (x.fmod k)) (S.set M.m (.lst [.loc M.c, .loc M.w, .int a, .int (b : Nat), .int e]))).1 (gc S (.int (x.fmod k)) (S.set M.m (.lst [.loc M.c, .loc M.w, .int a, .int (b : Nat), .int e]))).2 := fun x a b e hb he => by
    rw [gc_flat0 (Neat.set1 S (olo a b e _ hc hw)) (by rw [lo_int]; exact True.intro)]
    have h1 := Int.fmod_nonneg_of_pos x hk
    have h2 := Int.fmod_lt_of_pos x hk
    have e1 : x.fmod k = ((x.fmod k).toNat : Int) := by omega
    rw [e1]
    exact hQ _ _ (by omega) (h.mk' hb he) (olo a b e)
  -- the second half, from any b, e
  have half : ∀ (b : Nat) (e : Int), b ≤ M.wide.length → 0 ≤ e → (d_law_grind_r6 [some (.loc M.m), some (.int k), none, none, none, none, none] (S.set M.m (.lst [.loc M.c, .loc M.w, .int (a + 1), .int (b : Nat), .int e]))).ok (fun _ S' => Q .non (gc S .non S').2) ⟨fun d S' => Q (gc S d S').1 (gc S d S').2, fun _ _ => False, fun _ _ => False, fun x _ S' => X x S'⟩ := by
    intro b e hb he
    unfold d_law_grind_r6 d_law_grind_r5 d_law_grind_r4 d_law_grind_r3 d_law_grind_r2 d_law_grind_r1
    simp only [w_var, w_c, w_bin, w_un, w_dB, wt_and, wt_or, wt_not, w_if, w_andV, w_orV, w_notV, w_anil, w_acons, w_call, w_app, w_tup, w_lst, w_dict, w_onone, w_osome, w_sl, w_tru, w_chain, w_meth, w_lc, w_nop, w_brk, w_cnt, w_seq, w_ret, w_retN, w_drop, w_ifS, w_asg, w_gN, w_gN0, w_gT, w_gT0, w_gnil, w_gnil0, w_gcons, w_gnsnil0, w_gnscons0, w_gsub, w_par, w_par3, w_aug, w_for, w_range1, w_range2, w_seqI, w_enum, okO_some, okS_some, okV_some, okB_bl, okI_int, okT_tup, okC_some, okQ_tup, okO_newL, okO_if, okO_ifL, okS_if, ok2_two, ok3_three, f1, f2, br_true, br_false, br_dec, br_not, atI_0, atI_1, atI_2, atI_3, atI_4, Option.map_some, ok_val, List.map_cons, List.map_nil, List.cons_append, List.nil_append, List.replicate_succ, List.replicate_zero, List.getElem?_cons_zero, List.getElem?_cons_succ, List.set_cons_zero, List.set_cons_succ, List.length_cons, List.length_nil, Nat.reduceSub, Nat.reduceAdd, Nat.reduceLeDiff, true_and, and_true, ne_eq, not_true_eq_false, not_false_eq_true, forall_const, wipeE, big0, big1, big2, big3, big4, big5, big6, big7, big8, big9, fIx, gm, gc_, gw, fGt, fCmp, fIntC, fMod, fInt, fSet, ixN_5, List.set_set, fDiv]
    refine ⟨fun hpos => ?_, fun hz => ?_⟩
    · refine ⟨by omega, divOk (by omega) hk2, ?_⟩
      exact fin e (a + 1) b (e.fdiv k) hb (Int.fdiv_nonneg he (by omega))
    · simp only [fMul, fInt, fAdd, fLen, w_var, w_c, w_bin, w_un, w_dB, wt_and, wt_or, wt_not, w_if, w_andV, w_orV, w_notV, w_anil, w_acons, w_call, w_app, w_tup, w_lst, w_dict, w_onone, w_osome, w_sl, w_tru, w_chain, w_meth, w_lc, w_nop, w_brk, w_cnt, w_seq, w_ret, w_retN, w_drop, w_ifS, w_asg, w_gN, w_gN0, w_gT, w_gT0, w_gnil, w_gnil0, w_gcons, w_gnsnil0, w_gnscons0, w_gsub, w_par, w_par3, w_aug, w_for, w_range1, w_range2, w_seqI, w_enum, okO_some, okS_some, okV_some, okB_bl, okI_int, okT_tup, okC_some, okQ_tup, okO_newL, okO_if, okO_ifL, okS_if, ok2_two, ok3_three, f1, f2, br_true, br_false, br_dec, br_not, atI_0, atI_1, atI_2, atI_3, atI_4, Option.map_some, ok_val, List.map_cons, List.map_nil, List.cons_append, List.nil_append, List.replicate_succ, List.replicate_zero, List.getElem?_cons_zero, List.getElem?_cons_succ, List.set_cons_zero, List.set_cons_succ, List.length_cons, List.length_nil, Nat.reduceSub, Nat.reduceAdd, Nat.reduceLeDiff, true_and, and_true, ne_eq, not_true_eq_false, not_false_eq_true, forall_const, wipeE, big0, big1, big2, big3, big4, big5, big6, big7, big8, big9, gc_, gm]
      have hlen : (0 : Int) < (M.corn.length : Int) := by
        have : M.corn.length ≠ 0 := fun z => h.ne (List.length_eq_zero_iff.mp z)
        omega
      simp only [List.length_map]
      refine ⟨mulOk_r (by decide), by omega, ?_⟩
      have h1 := Int.fmod_nonneg_of_pos ((a + 1) * 5 + 2) hlen
      have h2 := Int.fmod_lt_of_pos ((a + 1) * 5 + 2) hlen
      obtain ⟨cell, hcell⟩ : ∃ cell, atI (M.corn.map D.int) (((a + 1) * 5 + 2).fmod (M.corn.length : Int)) = some (.int cell) := by
        have hlt : (((a + 1) * 5 + 2).fmod (M.corn.length : Int)).toNat < M.corn.length := by omega
        exact ⟨M.corn[(((a + 1) * 5 + 2).fmod (M.corn.length : Int)).toNat], atI_nat (j := (((a + 1) * 5 + 2).fmod (M.corn.length : Int)).toNat) (by omega) (by rw [List.getElem?_map, List.getElem?_eq_getElem hlt]; rfl)⟩
      simp only [hcell, Option.map_some, okO_some, w_var, w_c, w_bin, w_un, w_dB, wt_and, wt_or, wt_not, w_if, w_andV, w_orV, w_notV, w_anil, w_acons, w_call, w_app, w_tup, w_lst, w_dict, w_onone, w_osome, w_sl, w_tru, w_chain, w_meth, w_lc, w_nop, w_brk, w_cnt, w_seq, w_ret, w_retN, w_drop, w_ifS, w_asg, w_gN, w_gN0, w_gT, w_gT0, w_gnil, w_gnil0, w_gcons, w_gnsnil0, w_gnscons0, w_gsub, w_par, w_par3, w_aug, w_for, w_range1, w_range2, w_seqI, w_enum, okO_some, okS_some, okV_some, okB_bl, okI_int, okT_tup, okC_some, okQ_tup, okO_newL, okO_if, okO_ifL, okS_if, ok2_two, ok3_three, f1, f2, br_true, br_false, br_dec, br_not, atI_0, atI_1, atI_2, atI_3, atI_4, Option.map_some, ok_val, List.map_cons, List.map_nil, List.cons_append, List.nil_append, List.replicate_succ, List.replicate_zero, List.getElem?_cons_zero, List.getElem?_cons_succ, List.set_cons_zero, List.set_cons_succ, List.length_cons, List.length_nil, Nat.reduceSub, Nat.reduceAdd, Nat.reduceLeDiff, true_and, and_true, ne_eq, not_true_eq_false, not_false_eq_true, forall_const, wipeE, big0, big1, big2, big3, big4, big5, big6, big7, big8, big9, fMul, fInt, fAdd, fIntC]
      refine ⟨mulOk_r (by decide), mulOk_r (by decide), by decide, ?_⟩
      have f1 := Int.fmod_nonneg_of_pos (cell * 28657 + (a + 1) * 128021 + 4421) (show (0 : Int) < 1000159 by decide)
      have f2 := Int.fmod_lt_of_pos (cell * 28657 + (a + 1) * 128021 + 4421) (show (0 : Int) < 1000159 by decide)
      generalize (cell * 28657 + (a + 1) * 128021 + 4421).fmod 1000159 = first at *
      refine ⟨mulOk_r (by omega), mulOk_r (by decide), mulOk_r (by decide), by decide, divOk (by decide) (by decide), by omega, ?_⟩
      exact fin _ (a + 1) b e hb he
  unfold d_law_grind
  rw [w_fn]
  refine ⟨rfl, ?_⟩
  unfold d_law_grind_b d_law_grind_r7
  simp only [w_var, w_c, w_bin, w_un, w_dB, wt_and, wt_or, wt_not, w_if, w_andV, w_orV, w_notV, w_anil, w_acons, w_call, w_app, w_tup, w_lst, w_dict, w_onone, w_osome, w_sl, w_tru, w_chain, w_meth, w_lc, w_nop, w_brk, w_cnt, w_seq, w_ret, w_retN, w_drop, w_ifS, w_asg, w_gN, w_gN0, w_gT, w_gT0, w_gnil, w_gnil0, w_gcons, w_gnsnil0, w_gnscons0, w_gsub, w_par, w_par3, w_aug, w_for, w_range1, w_range2, w_seqI, w_enum, okO_some, okS_some, okV_some, okB_bl, okI_int, okT_tup, okC_some, okQ_tup, okO_newL, okO_if, okO_ifL, okS_if, ok2_two, ok3_three, f1, f2, br_true, br_false, br_dec, br_not, atI_0, atI_1, atI_2, atI_3, atI_4, Option.map_some, ok_val, List.map_cons, List.map_nil, List.cons_append, List.nil_append, List.replicate_succ, List.replicate_zero, List.getElem?_cons_zero, List.getElem?_cons_succ, List.set_cons_zero, List.set_cons_succ, List.length_cons, List.length_nil, Nat.reduceSub, Nat.reduceAdd, Nat.reduceLeDiff, true_and, and_true, ne_eq, not_true_eq_false, not_false_eq_true, forall_const, wipeE, big0, big1, big2, big3, big4, big5, big6, big7, big8, big9, fIx, hst, fAdd, fSet, ixN_5, gm, gc_, gw, List.set_set, fEq, scalD, fLt, fCmp, fLen]
  refine ⟨fun hz => ⟨fun hlt => ?_, fun hge => half b e hb he⟩, fun hz => half b e hb he⟩
  have hlt2 : b < M.wide.length := by simpa using hlt
  have hw1 : atI (M.wide.map D.int) (b : Nat) = some (.int (M.wide.getD b 0)) := atI_nat rfl (by rw [List.getElem?_map, List.getElem?_eq_getElem hlt2]; simp [List.getD_eq_getElem?_getD, hlt2])
  have hw0 : 0 ≤ M.wide.getD b 0 := h.pos _ (by rw [List.getD_eq_getElem?_getD, List.getElem?_eq_getElem hlt2]; exact List.getElem_mem hlt2)
  simp only [hw1, w_var, w_c, w_bin, w_un, w_dB, wt_and, wt_or, wt_not, w_if, w_andV, w_orV, w_notV, w_anil, w_acons, w_call, w_app, w_tup, w_lst, w_dict, w_onone, w_osome, w_sl, w_tru, w_chain, w_meth, w_lc, w_nop, w_brk, w_cnt, w_seq, w_ret, w_retN, w_drop, w_ifS, w_asg, w_gN, w_gN0, w_gT, w_gT0, w_gnil, w_gnil0, w_gcons, w_gnsnil0, w_gnscons0, w_gsub, w_par, w_par3, w_aug, w_for, w_range1, w_range2, w_seqI, w_enum, okO_some, okS_some, okV_some, okB_bl, okI_int, okT_tup, okC_some, okQ_tup, okO_newL, okO_if, okO_ifL, okS_if, ok2_two, ok3_three, f1, f2, br_true, br_false, br_dec, br_not, atI_0, atI_1, atI_2, atI_3, atI_4, Option.map_some, ok_val, List.map_cons, List.map_nil, List.cons_append, List.nil_append, List.replicate_succ, List.replicate_zero, List.getElem?_cons_zero, List.getElem?_cons_succ, List.set_cons_zero, List.set_cons_succ, List.length_cons, List.length_nil, Nat.reduceSub, Nat.reduceAdd, Nat.reduceLeDiff, true_and, and_true, ne_eq, not_true_eq_false, not_false_eq_true, forall_const, wipeE, big0, big1, big2, big3, big4, big5, big6, big7, big8, big9, gm, ixN_5, List.set_set, fAdd, fSet, fIx]
  have := half (b + 1) (M.wide.getD b 0) (by omega) hw0
  simpa using this
end K68

set_option Elab.async false
set_option linter.all false
set_option maxRecDepth 100000
set_option maxHeartbeats 2000000
set_option autoImplicit false
namespace K68
open PySem PySem.Spec PyProof.Rows L2 Sh RX

theorem oD_none : oD none = .non := rfl
theorem oD_some {x : Int} : oD (some x) = .int x := rfl
theorem number_ok {d : D} {S : Sto} {t : String} (h : tyOf d S = some t) {X : Ex → Sto → Prop} {Q : D → Sto → Prop} (hQ : Q (.bl (decide (t = "int"))) S) : (d_law_number [d] S).ok Q X := is_integer_ok h hQ
theorem gc_deep {S0 S1 : Sto} {l : Nat} {o : Ob} (hl : S0.length ≤ l) (h : S1[l]? = some o) (ho : ¬ o.lo S0.length) : gc S0 (.loc l) S1 = (.loc l, S1) := by
  unfold gc
  split
  · rw [if_neg (by rw [lo_loc]; omega)]
    simp only [h]
    rw [if_neg ho]
  · rfl
theorem mill_ok {ns : List Int} (hl : ns.length ≤ 63) {X : Ex → Sto → Prop} {Q : D → Sto → Prop}
    (hQ : ∀ (M : Mil) (S : Sto), M.m = 5 → M.c = 4 → M.w = 1 → MS M S → S.length = 6 → Q (.loc 5) S) : (d_law_mill [.loc 0] [.ro (ns.map D.int)]).ok Q X := by
  unfold d_law_mill
  rw [w_fn]
  refine ⟨rfl, ?_⟩
  unfold d_law_mill_b
  simp only [w_var, w_c, w_bin, w_un, w_dB, wt_and, wt_or, wt_not, w_if, w_andV, w_orV, w_notV, w_anil, w_acons, w_call, w_app, w_tup, w_lst, w_dict, w_onone, w_osome, w_sl, w_tru, w_chain, w_meth, w_lc, w_nop, w_brk, w_cnt, w_seq, w_ret, w_retN, w_drop, w_ifS, w_asg, w_gN, w_gN0, w_gT, w_gT0, w_gnil, w_gnil0, w_gcons, w_gnsnil0, w_gnscons0, w_gsub, w_par, w_par3, w_aug, w_for, w_range1, w_range2, w_seqI, w_enum, okO_some, okS_some, okV_some, okB_bl, okI_int, okT_tup, okC_some, okQ_tup, okO_newL, okO_if, okO_ifL, okS_if, ok2_two, ok3_three, f1, f2, br_true, br_false, br_dec, br_not, atI_0, atI_1, atI_2, atI_3, atI_4, Option.map_some, ok_val, List.map_cons, List.map_nil, List.cons_append, List.nil_append, List.replicate_succ, List.replicate_zero, List.getElem?_cons_zero, List.getElem?_cons_succ, List.set_cons_zero, List.set_cons_succ, List.length_cons, List.length_nil, Nat.reduceSub, Nat.reduceAdd, Nat.reduceLeDiff, true_and, and_true, ne_eq, not_true_eq_false, not_false_eq_true, forall_const, wipeE, big0, big1, big2, big3, big4, big5, big6, big7, big8, big9]
  rw [okQ_loc (xs := ns.map D.int) rfl]
  refine ok_mono (comp_ix (fun i s => i ≤ ns.length ∧ ∃ wide : List Int, s = [.ro (ns.map D.int), .lst (wide.map D.int)] ∧ (∀ x ∈ wide, 0 ≤ x) ∧ wide.length ≤ i) (fun i s ⟨_, w, e, _⟩ => by rw [e]; rfl) ⟨Nat.zero_le _, [], rfl, fun x h => (by cases h), Nat.le_refl _⟩ fun i d s hd hs => ?_) fun _ S2 hS2 => ?_
  · obtain ⟨_, wide, rfl, hpos, hwl⟩ := hs
    have hi : i < ns.length := by
      have := (List.getElem?_eq_some_iff.mp hd).1
      simpa using this
    obtain ⟨n, rfl⟩ : ∃ n, d = .int n := by
      rw [List.getElem?_map, List.getElem?_eq_getElem hi] at hd
      exact ⟨_, (Option.some.inj hd).symm⟩
    simp only [w_var, w_c, w_bin, w_un, w_dB, wt_and, wt_or, wt_not, w_if, w_andV, w_orV, w_notV, w_anil, w_acons, w_call, w_app, w_tup, w_lst, w_dict, w_onone, w_osome, w_sl, w_tru, w_chain, w_meth, w_lc, w_nop, w_brk, w_cnt, w_seq, w_ret, w_retN, w_drop, w_ifS, w_asg, w_gN, w_gN0, w_gT, w_gT0, w_gnil, w_gnil0, w_gcons, w_gnsnil0, w_gnscons0, w_gsub, w_par, w_par3, w_aug, w_for, w_range1, w_range2, w_seqI, w_enum, okO_some, okS_some, okV_some, okB_bl, okI_int, okT_tup, okC_some, okQ_tup, okO_newL, okO_if, okO_ifL, okS_if, ok2_two, ok3_three, f1, f2, br_true, br_false, br_dec, br_not, atI_0, atI_1, atI_2, atI_3, atI_4, Option.map_some, ok_val, List.map_cons, List.map_nil, List.cons_append, List.nil_append, List.replicate_succ, List.replicate_zero, List.getElem?_cons_zero, List.getElem?_cons_succ, List.set_cons_zero, List.set_cons_succ, List.length_cons, List.length_nil, Nat.reduceSub, Nat.reduceAdd, Nat.reduceLeDiff, true_and, and_true, ne_eq, not_true_eq_false, not_false_eq_true, forall_const, wipeE, big0, big1, big2, big3, big4, big5, big6, big7, big8, big9, fPow, fInt, fGe, fLe, fCmp, fNeg]
    refine ⟨by decide, ?_⟩
    have e18 : (10 : Int) ^ (18 : Int).toNat = 1000000000000000000 := by decide
    simp only [e18]
    have put : ∀ x : Int, 0 ≤ x → ∃ acc, ([Ob.ro (ns.map D.int), .lst (wide.map D.int)] : Sto)[([Ob.ro (ns.map D.int)] : Sto).length]? = some (.lst acc) ∧ acc.length < big ∧ i + 1 ≤ ns.length ∧ ∃ wide_1 : List Int, ([Ob.ro (ns.map D.int), .lst (wide.map D.int)] : Sto).set ([Ob.ro (ns.map D.int)] : Sto).length (.lst (acc ++ [.int x])) = [.ro (ns.map D.int), .lst (wide_1.map D.int)] ∧ (∀ x ∈ wide_1, 0 ≤ x) ∧ wide_1.length ≤ i + 1 := fun x hx => by
      refine ⟨wide.map D.int, rfl, by simp; exact lt_big (by omega), hi, wide ++ [x], by simp, fun y hy => ?_, by simp; omega⟩
      rcases List.mem_append.mp hy with h | h
      · exact hpos y h
      · simp at h; omega
    have skip : i + 1 ≤ ns.length ∧ ∃ wide_1 : List Int, ([Ob.ro (ns.map D.int), .lst (wide.map D.int)] : Sto) = [.ro (ns.map D.int), .lst (wide_1.map D.int)] ∧ (∀ x ∈ wide_1, 0 ≤ x) ∧ wide_1.length ≤ i + 1 := ⟨hi, wide, rfl, hpos, by omega⟩
    refine ⟨fun h1 => ⟨fun h2 => put n h2, fun h2 => put (-n) (by omega)⟩, fun h1 => ⟨by decide, fun h2 => ⟨fun h3 => put n h3, fun h3 => put (-n) (by omega)⟩, fun h2 => skip⟩⟩
  · obtain ⟨_, wide, rfl, hpos, hwl⟩ := hS2
    simp only [List.length_map] at hwl
    unfold d_law_mill_r1
    simp only [w_var, w_c, w_bin, w_un, w_dB, wt_and, wt_or, wt_not, w_if, w_andV, w_orV, w_notV, w_anil, w_acons, w_call, w_app, w_tup, w_lst, w_dict, w_onone, w_osome, w_sl, w_tru, w_chain, w_meth, w_lc, w_nop, w_brk, w_cnt, w_seq, w_ret, w_retN, w_drop, w_ifS, w_asg, w_gN, w_gN0, w_gT, w_gT0, w_gnil, w_gnil0, w_gcons, w_gnsnil0, w_gnscons0, w_gsub, w_par, w_par3, w_aug, w_for, w_range1, w_range2, w_seqI, w_enum, okO_some, okS_some, okV_some, okB_bl, okI_int, okT_tup, okC_some, okQ_tup, okO_newL, okO_if, okO_ifL, okS_if, ok2_two, ok3_three, f1, f2, br_true, br_false, br_dec, br_not, atI_0, atI_1, atI_2, atI_3, atI_4, Option.map_some, ok_val, List.map_cons, List.map_nil, List.cons_append, List.nil_append, List.replicate_succ, List.replicate_zero, List.getElem?_cons_zero, List.getElem?_cons_succ, List.set_cons_zero, List.set_cons_succ, List.length_cons, List.length_nil, Nat.reduceSub, Nat.reduceAdd, Nat.reduceLeDiff, true_and, and_true, ne_eq, not_true_eq_false, not_false_eq_true, forall_const, wipeE, big0, big1, big2, big3, big4, big5, big6, big7, big8, big9]
    rw [okQ_loc (xs := ns.map D.int) rfl]
    refine comp_pure (S := [Ob.ro (ns.map D.int), .lst (wide.map D.int)]) (fun i => .int ((ns.getD i 0).fmod 2147483477)) (le_big (by simp; omega)) (fun _ => rfl) (fun i d acc hd => ?_) ?_
    · have hi : i < ns.length := by
        have := (List.getElem?_eq_some_iff.mp hd).1
        simpa using this
      rw [List.getElem?_map, List.getElem?_eq_getElem hi] at hd
      cases hd
      simp only [w_var, w_c, w_bin, w_un, w_dB, wt_and, wt_or, wt_not, w_if, w_andV, w_orV, w_notV, w_anil, w_acons, w_call, w_app, w_tup, w_lst, w_dict, w_onone, w_osome, w_sl, w_tru, w_chain, w_meth, w_lc, w_nop, w_brk, w_cnt, w_seq, w_ret, w_retN, w_drop, w_ifS, w_asg, w_gN, w_gN0, w_gT, w_gT0, w_gnil, w_gnil0, w_gcons, w_gnsnil0, w_gnscons0, w_gsub, w_par, w_par3, w_aug, w_for, w_range1, w_range2, w_seqI, w_enum, okO_some, okS_some, okV_some, okB_bl, okI_int, okT_tup, okC_some, okQ_tup, okO_newL, okO_if, okO_ifL, okS_if, ok2_two, ok3_three, f1, f2, br_true, br_false, br_dec, br_not, atI_0, atI_1, atI_2, atI_3, atI_4, Option.map_some, ok_val, List.map_cons, List.map_nil, List.cons_append, List.nil_append, List.replicate_succ, List.replicate_zero, List.getElem?_cons_zero, List.getElem?_cons_succ, List.set_cons_zero, List.set_cons_succ, List.length_cons, List.length_nil, Nat.reduceSub, Nat.reduceAdd, Nat.reduceLeDiff, true_and, and_true, ne_eq, not_true_eq_false, not_false_eq_true, forall_const, wipeE, big0, big1, big2, big3, big4, big5, big6, big7, big8, big9, tYesD, fIntC, fMod, fInt]
      simp [List.getD_eq_getElem?_getD, hi]
    · have ec : (List.range (ns.map D.int).length).map (fun i => D.int ((ns.getD i 0).fmod 2147483477)) = (ns.map fun n => n.fmod 2147483477).map D.int := by
        apply List.ext_getElem
        · simp
        · intro k h1 h2
          simp at h1
          simp [List.getD_eq_getElem?_getD, h1]
      rw [ec]
      simp only [w_var, w_c, w_bin, w_un, w_dB, wt_and, wt_or, wt_not, w_if, w_andV, w_orV, w_notV, w_anil, w_acons, w_call, w_app, w_tup, w_lst, w_dict, w_onone, w_osome, w_sl, w_tru, w_chain, w_meth, w_lc, w_nop, w_brk, w_cnt, w_seq, w_ret, w_retN, w_drop, w_ifS, w_asg, w_gN, w_gN0, w_gT, w_gT0, w_gnil, w_gnil0, w_gcons, w_gnsnil0, w_gnscons0, w_gsub, w_par, w_par3, w_aug, w_for, w_range1, w_range2, w_seqI, w_enum, okO_some, okS_some, okV_some, okB_bl, okI_int, okT_tup, okC_some, okQ_tup, okO_newL, okO_if, okO_ifL, okS_if, ok2_two, ok3_three, f1, f2, br_true, br_false, br_dec, br_not, atI_0, atI_1, atI_2, atI_3, atI_4, Option.map_some, ok_val, List.map_cons, List.map_nil, List.cons_append, List.nil_append, List.replicate_succ, List.replicate_zero, List.getElem?_cons_zero, List.getElem?_cons_succ, List.set_cons_zero, List.set_cons_succ, List.length_cons, List.length_nil, Nat.reduceSub, Nat.reduceAdd, Nat.reduceLeDiff, true_and, and_true, ne_eq, not_true_eq_false, not_false_eq_true, forall_const, wipeE, big0, big1, big2, big3, big4, big5, big6, big7, big8, big9, fAdd]
      simp only [List.length_map]
      refine ⟨le_big (by omega), ?_⟩
      rw [gc_deep (o := .lst [.loc 4, .loc 1, .int 0, .int 0, .int 0]) (by simp) rfl (by rw [lo_lst]; simp [la_cons, lo_loc])]
      refine hQ ⟨5, 4, 1, (ns.map fun n => n.fmod 2147483477) ++ [70249], wide⟩ _ rfl rfl rfl ⟨show (5 : Nat) ≠ 4 by decide, show (5 : Nat) ≠ 1 by decide, ?_, rfl, by simp, hpos, ⟨by simp; omega, by show wide.length < 1000; omega⟩, 0, 0, 0, Nat.zero_le _, Int.le_refl _, rfl⟩ rfl
      show some _ = some _
      rw [List.map_append]; rfl

/-! ### the same -/
def Sq (d : D) (S : Sto) (ds : List D) : Prop := d = .tup ds ∨ ∃ p, d = .loc p ∧ S[p]? = some (.lst ds)
theorem Sq.len {d : D} {S : Sto} {ds : List D} (h : Sq d S ds) : fLen d S = some (.int (ds.length : Nat), S) := by
  rcases h with rfl | ⟨p, rfl, h⟩
  · rfl
  · simp only [fLen, h]
theorem Sq.ix {d : D} {S : Sto} {ds : List D} (h : Sq d S ds) (i : Int) : fIx d (.int i) S = (atI ds i).map fun d => (d, S) := by
  rcases h with rfl | ⟨p, rfl, h⟩
  · rfl
  · simp only [fIx, h]
theorem same_ok {f : Nat → Option Int} {n : Nat} {d : D} {S : Sto} (hn : n < 1000) (h : Sq d S ((List.range n).map fun i => oD (f i))) {X : Ex → Sto → Prop} {Q : D → Sto → Prop} (hQ : Q (.bl true) S) :
    (d_law_same [.tup ((List.range n).map fun i => oD (f i)), d] S).ok Q X := by
  unfold d_law_same
  rw [w_fn]
  refine ⟨rfl, ?_⟩
  unfold d_law_same_b
  have t1 : fIsi (.tup ((List.range n).map fun i => oD (f i))) (.ty "tuple") S = some (.bl true, S) := rfl
  have t2 : fLen (.tup ((List.range n).map fun i => oD (f i))) S = some (.int (n : Nat), S) := by simp [fLen]
  have t3 : fLen d S = some (.int (n : Nat), S) := by rw [h.len]; simp
  simp only [w_var, w_c, w_bin, w_un, w_dB, wt_and, wt_or, wt_not, w_if, w_andV, w_orV, w_notV, w_anil, w_acons, w_call, w_app, w_tup, w_lst, w_dict, w_onone, w_osome, w_sl, w_tru, w_chain, w_meth, w_lc, w_nop, w_brk, w_cnt, w_seq, w_ret, w_retN, w_drop, w_ifS, w_asg, w_gN, w_gN0, w_gT, w_gT0, w_gnil, w_gnil0, w_gcons, w_gnsnil0, w_gnscons0, w_gsub, w_par, w_par3, w_aug, w_for, w_range1, w_range2, w_seqI, w_enum, okO_some, okS_some, okV_some, okB_bl, okI_int, okT_tup, okC_some, okQ_tup, okO_newL, okO_if, okO_ifL, okS_if, ok2_two, ok3_three, f1, f2, br_true, br_false, br_dec, br_not, atI_0, atI_1, atI_2, atI_3, atI_4, Option.map_some, ok_val, List.map_cons, List.map_nil, List.cons_append, List.nil_append, List.replicate_succ, List.replicate_zero, List.getElem?_cons_zero, List.getElem?_cons_succ, List.set_cons_zero, List.set_cons_succ, List.length_cons, List.length_nil, Nat.reduceSub, Nat.reduceAdd, Nat.reduceLeDiff, true_and, and_true, ne_eq, not_true_eq_false, not_false_eq_true, forall_const, wipeE, big0, big1, big2, big3, big4, big5, big6, big7, big8, big9, t1, t2, t3, fTru, Bool.not_true, fNe, scalD]
  refine ⟨?_, False.elim⟩
  unfold d_law_same_r2
  simp only [w_var, w_c, w_bin, w_un, w_dB, wt_and, wt_or, wt_not, w_if, w_andV, w_orV, w_notV, w_anil, w_acons, w_call, w_app, w_tup, w_lst, w_dict, w_onone, w_osome, w_sl, w_tru, w_chain, w_meth, w_lc, w_nop, w_brk, w_cnt, w_seq, w_ret, w_retN, w_drop, w_ifS, w_asg, w_gN, w_gN0, w_gT, w_gT0, w_gnil, w_gnil0, w_gcons, w_gnsnil0, w_gnscons0, w_gsub, w_par, w_par3, w_aug, w_for, w_range1, w_range2, w_seqI, w_enum, okO_some, okS_some, okV_some, okB_bl, okI_int, okT_tup, okC_some, okQ_tup, okO_newL, okO_if, okO_ifL, okS_if, ok2_two, ok3_three, f1, f2, br_true, br_false, br_dec, br_not, atI_0, atI_1, atI_2, atI_3, atI_4, Option.map_some, ok_val, List.map_cons, List.map_nil, List.cons_append, List.nil_append, List.replicate_succ, List.replicate_zero, List.getElem?_cons_zero, List.getElem?_cons_succ, List.set_cons_zero, List.set_cons_succ, List.length_cons, List.length_nil, Nat.reduceSub, Nat.reduceAdd, Nat.reduceLeDiff, true_and, and_true, ne_eq, not_true_eq_false, not_false_eq_true, forall_const, wipeE, big0, big1, big2, big3, big4, big5, big6, big7, big8, big9, t3]
  refine ⟨rgOk_nat (by omega), ?_⟩
  refine for_ix (fun i env S' => ∃ a, env = [some (.tup ((List.range n).map fun i => oD (f i))), some d, a] ∧ S' = S) (fun _ _ _ _ => True.intro) ⟨none, rfl, rfl⟩ ?_ ?_
  · rintro env S' ⟨a, rfl, rfl⟩
    rw [gc_non (by rw [lo_bl]; exact True.intro)]
    exact hQ
  · rintro i dk env S' hd ⟨a, rfl, rfl⟩
    have hi : i < n := by
      have := (List.getElem?_eq_some_iff.mp hd).1
      simpa using this
    have hdk : dk = .int (i : Nat) := by
      rw [List.getElem?_map, List.getElem?_range (by simpa using hi)] at hd
      have := Option.some.inj hd
      rw [← this]; simp
    subst hdk
    have a1 : atI ((List.range n).map fun i => oD (f i)) (i : Nat) = some (oD (f i)) := atI_nat rfl (by simp [hi])
    have t4 : ∀ i : Int, fIx (.tup ((List.range n).map fun i => oD (f i))) (.int i) S' = (atI ((List.range n).map fun i => oD (f i)) i).map fun d => (d, S') := fun i => rfl
    simp only [w_var, w_c, w_bin, w_un, w_dB, wt_and, wt_or, wt_not, w_if, w_andV, w_orV, w_notV, w_anil, w_acons, w_call, w_app, w_tup, w_lst, w_dict, w_onone, w_osome, w_sl, w_tru, w_chain, w_meth, w_lc, w_nop, w_brk, w_cnt, w_seq, w_ret, w_retN, w_drop, w_ifS, w_asg, w_gN, w_gN0, w_gT, w_gT0, w_gnil, w_gnil0, w_gcons, w_gnsnil0, w_gnscons0, w_gsub, w_par, w_par3, w_aug, w_for, w_range1, w_range2, w_seqI, w_enum, okO_some, okS_some, okV_some, okB_bl, okI_int, okT_tup, okC_some, okQ_tup, okO_newL, okO_if, okO_ifL, okS_if, ok2_two, ok3_three, f1, f2, br_true, br_false, br_dec, br_not, atI_0, atI_1, atI_2, atI_3, atI_4, Option.map_some, ok_val, List.map_cons, List.map_nil, List.cons_append, List.nil_append, List.replicate_succ, List.replicate_zero, List.getElem?_cons_zero, List.getElem?_cons_succ, List.set_cons_zero, List.set_cons_succ, List.length_cons, List.length_nil, Nat.reduceSub, Nat.reduceAdd, Nat.reduceLeDiff, true_and, and_true, ne_eq, not_true_eq_false, not_false_eq_true, forall_const, wipeE, big0, big1, big2, big3, big4, big5, big6, big7, big8, big9, d_law_same_l1, h.ix, a1, fIsN, fIsNotN, t4, fNe]
    cases q : f i with
    | none => simp only [oD_none, isNon, br_true, Bool.not_true, br_false]; exact ⟨_, rfl⟩
    | some x =>
      simp only [oD_some, isNon, br_false]
      refine number_ok (t := "int") rfl ?_
      simp only [decide_true, fTru, okC_some, Bool.not_true, br_false, scalD, w_var, w_c, w_bin, w_un, w_dB, wt_and, wt_or, wt_not, w_if, w_andV, w_orV, w_notV, w_anil, w_acons, w_call, w_app, w_tup, w_lst, w_dict, w_onone, w_osome, w_sl, w_tru, w_chain, w_meth, w_lc, w_nop, w_brk, w_cnt, w_seq, w_ret, w_retN, w_drop, w_ifS, w_asg, w_gN, w_gN0, w_gT, w_gT0, w_gnil, w_gnil0, w_gcons, w_gnsnil0, w_gnscons0, w_gsub, w_par, w_par3, w_aug, w_for, w_range1, w_range2, w_seqI, w_enum, okO_some, okS_some, okV_some, okB_bl, okI_int, okT_tup, okC_some, okQ_tup, okO_newL, okO_if, okO_ifL, okS_if, ok2_two, ok3_three, f1, f2, br_true, br_false, br_dec, br_not, atI_0, atI_1, atI_2, atI_3, atI_4, Option.map_some, ok_val, List.map_cons, List.map_nil, List.cons_append, List.nil_append, List.replicate_succ, List.replicate_zero, List.getElem?_cons_zero, List.getElem?_cons_succ, List.set_cons_zero, List.set_cons_succ, List.length_cons, List.length_nil, Nat.reduceSub, Nat.reduceAdd, Nat.reduceLeDiff, true_and, and_true, ne_eq, not_true_eq_false, not_false_eq_true, forall_const, wipeE, big0, big1, big2, big3, big4, big5, big6, big7, big8, big9, t4, a1, q, oD_some, h.ix]
      exact ⟨_, rfl⟩
theorem truth_ok {b c : Bool} {S : Sto} (h : b = c) {X : Ex → Sto → Prop} {Q : D → Sto → Prop} (hQ : Q (.bl true) S) : (d_law_truth [.bl b, .bl c] S).ok Q X := by
  unfold d_law_truth
  rw [w_fn]
  refine ⟨rfl, ?_⟩
  unfold d_law_truth_b
  subst h
  simp only [w_var, w_c, w_bin, w_un, w_dB, wt_and, wt_or, wt_not, w_if, w_andV, w_orV, w_notV, w_anil, w_acons, w_call, w_app, w_tup, w_lst, w_dict, w_onone, w_osome, w_sl, w_tru, w_chain, w_meth, w_lc, w_nop, w_brk, w_cnt, w_seq, w_ret, w_retN, w_drop, w_ifS, w_asg, w_gN, w_gN0, w_gT, w_gT0, w_gnil, w_gnil0, w_gcons, w_gnsnil0, w_gnscons0, w_gsub, w_par, w_par3, w_aug, w_for, w_range1, w_range2, w_seqI, w_enum, okO_some, okS_some, okV_some, okB_bl, okI_int, okT_tup, okC_some, okQ_tup, okO_newL, okO_if, okO_ifL, okS_if, ok2_two, ok3_three, f1, f2, br_true, br_false, br_dec, br_not, atI_0, atI_1, atI_2, atI_3, atI_4, Option.map_some, ok_val, List.map_cons, List.map_nil, List.cons_append, List.nil_append, List.replicate_succ, List.replicate_zero, List.getElem?_cons_zero, List.getElem?_cons_succ, List.set_cons_zero, List.set_cons_succ, List.length_cons, List.length_nil, Nat.reduceSub, Nat.reduceAdd, Nat.reduceLeDiff, true_and, and_true, ne_eq, not_true_eq_false, not_false_eq_true, forall_const, wipeE, big0, big1, big2, big3, big4, big5, big6, big7, big8, big9, fIsi, tyOf, isTy, fEq, scalD]
  simp [gc_non, lo_bl, okO, okB, br]
  exact hQ
end K68

set_option Elab.async false
set_option linter.all false
set_option maxRecDepth 100000
set_option maxHeartbeats 2000000
set_option autoImplicit false
namespace K68
open PySem PySem.Spec PyProof.Rows L2 Sh RX

theorem range_at {n i : Nat} {d : D} (h : ((List.range n).map fun i => D.int (0 + ((i : Nat) : Int)))[i]? = some d) : i < n ∧ d = .int (i : Nat) := by
  have hi : i < n := by
    have := (List.getElem?_eq_some_iff.mp h).1
    simpa using this
  refine ⟨hi, ?_⟩
  rw [List.getElem?_map, List.getElem?_range hi] at h
  have := Option.some.inj h
  rw [← this]; simp
theorem es_at {E : List Ed} {i : Nat} {d : D} (h : (esD E)[i]? = some d) : ∃ e, E[i]? = some e ∧ d = eD e := by
  rw [List.getElem?_map] at h
  cases q : E[i]? with
  | none => rw [q] at h; cases h
  | some e => rw [q] at h; exact ⟨e, rfl, (Option.some.inj h).symm⟩
theorem take_snoc {α : Type} {E : List α} {i : Nat} {e : α} (h : E[i]? = some e) : E.take (i + 1) = E.take i ++ [e] := by
  have hi := (List.getElem?_eq_some_iff.mp h).1
  have he := (List.getElem?_eq_some_iff.mp h).2
  rw [List.take_succ_eq_append_getElem hi, he]

/-! ### ways -/
theorem ways_ok {E : List Ed} {n p : Nat} {start : Int} {s0 : Su} {S : Sto} (hE : ∀ e ∈ E, e.1 < n ∧ e.2.1 < n) (hn : n < 1000) (hS : S[p]? = some (.lst (esD E))) (hs : ∀ k : Nat, k < n → s0 k = if ((k : Int) ≠ start ∧ 0 ≤ start) then none else some 0)
    {X : Ex → Sto → Prop} {Q : D → Sto → Prop} (h1 : chg (passes E s0 n) E = false → Q (.loc S.length) (S ++ [.lst (suD n (passes E s0 n))])) (h0 : chg (passes E s0 n) E = true → Q .non S) : (d_law_ways [.int (n : Nat), .loc p, .int start] S).ok Q X := by
  unfold d_law_ways
  rw [w_fn]
  refine ⟨rfl, ?_⟩
  unfold d_law_ways_b
  simp only [w_var, w_c, w_bin, w_un, w_dB, wt_and, wt_or, wt_not, w_if, w_andV, w_orV, w_notV, w_anil, w_acons, w_call, w_app, w_tup, w_lst, w_dict, w_onone, w_osome, w_sl, w_tru, w_chain, w_meth, w_lc, w_nop, w_brk, w_cnt, w_seq, w_ret, w_retN, w_drop, w_ifS, w_asg, w_gN, w_gN0, w_gT, w_gT0, w_gnil, w_gnil0, w_gcons, w_gnsnil0, w_gnscons0, w_gsub, w_par, w_par3, w_aug, w_for, w_range1, w_range2, w_seqI, w_enum, okO_some, okS_some, okV_some, okB_bl, okI_int, okT_tup, okC_some, okQ_tup, okO_newL, okO_if, okO_ifL, okS_if, ok2_two, ok3_three, f1, f2, br_true, br_false, br_dec, br_not, atI_0, atI_1, atI_2, atI_3, atI_4, Option.map_some, ok_val, List.map_cons, List.map_nil, List.cons_append, List.nil_append, List.replicate_succ, List.replicate_zero, List.getElem?_cons_zero, List.getElem?_cons_succ, List.set_cons_zero, List.set_cons_succ, List.length_cons, List.length_nil, Nat.reduceSub, Nat.reduceAdd, Nat.reduceLeDiff, true_and, and_true, ne_eq, not_true_eq_false, not_false_eq_true, forall_const, wipeE, big0, big1, big2, big3, big4, big5, big6, big7, big8, big9]
  refine ⟨rgOk_nat (by omega), ?_⟩
  refine comp_pure (fun i => oD (s0 i)) (le_big (by simp; omega)) (fun _ => True.intro) (fun i d acc hd => ?_) ?_
  · obtain ⟨hi, rfl⟩ := range_at hd
    have hi2 : i < n := by simpa using hi
    simp only [w_var, w_c, w_bin, w_un, w_dB, wt_and, wt_or, wt_not, w_if, w_andV, w_orV, w_notV, w_anil, w_acons, w_call, w_app, w_tup, w_lst, w_dict, w_onone, w_osome, w_sl, w_tru, w_chain, w_meth, w_lc, w_nop, w_brk, w_cnt, w_seq, w_ret, w_retN, w_drop, w_ifS, w_asg, w_gN, w_gN0, w_gT, w_gT0, w_gnil, w_gnil0, w_gcons, w_gnsnil0, w_gnscons0, w_gsub, w_par, w_par3, w_aug, w_for, w_range1, w_range2, w_seqI, w_enum, okO_some, okS_some, okV_some, okB_bl, okI_int, okT_tup, okC_some, okQ_tup, okO_newL, okO_if, okO_ifL, okS_if, ok2_two, ok3_three, f1, f2, br_true, br_false, br_dec, br_not, atI_0, atI_1, atI_2, atI_3, atI_4, Option.map_some, ok_val, List.map_cons, List.map_nil, List.cons_append, List.nil_append, List.replicate_succ, List.replicate_zero, List.getElem?_cons_zero, List.getElem?_cons_succ, List.set_cons_zero, List.set_cons_succ, List.length_cons, List.length_nil, Nat.reduceSub, Nat.reduceAdd, Nat.reduceLeDiff, true_and, and_true, ne_eq, not_true_eq_false, not_false_eq_true, forall_const, wipeE, big0, big1, big2, big3, big4, big5, big6, big7, big8, big9, tYesD, fNe, scalD, fGe, fCmp]
    have h := hs i hi2
    by_cases e1 : (i : Int) = start
    · simp [e1, h, br, oD]
    · by_cases e2 : 0 ≤ start
      · simp [e1, e2, h, br, oD]
      · simp [e1, e2, h, br, oD]
  · have ez : List.map (fun x => oD (s0 x)) (List.range (List.map (fun i => D.int (0 + ((i : Nat) : Int))) (List.range (n : Int).toNat)).length) = suD n s0 := by
      simp [suD]
    rw [ez]
    unfold d_law_ways_r4
    simp only [w_var, w_c, w_bin, w_un, w_dB, wt_and, wt_or, wt_not, w_if, w_andV, w_orV, w_notV, w_anil, w_acons, w_call, w_app, w_tup, w_lst, w_dict, w_onone, w_osome, w_sl, w_tru, w_chain, w_meth, w_lc, w_nop, w_brk, w_cnt, w_seq, w_ret, w_retN, w_drop, w_ifS, w_asg, w_gN, w_gN0, w_gT, w_gT0, w_gnil, w_gnil0, w_gcons, w_gnsnil0, w_gnscons0, w_gsub, w_par, w_par3, w_aug, w_for, w_range1, w_range2, w_seqI, w_enum, okO_some, okS_some, okV_some, okB_bl, okI_int, okT_tup, okC_some, okQ_tup, okO_newL, okO_if, okO_ifL, okS_if, ok2_two, ok3_three, f1, f2, br_true, br_false, br_dec, br_not, atI_0, atI_1, atI_2, atI_3, atI_4, Option.map_some, ok_val, List.map_cons, List.map_nil, List.cons_append, List.nil_append, List.replicate_succ, List.replicate_zero, List.getElem?_cons_zero, List.getElem?_cons_succ, List.set_cons_zero, List.set_cons_succ, List.length_cons, List.length_nil, Nat.reduceSub, Nat.reduceAdd, Nat.reduceLeDiff, true_and, and_true, ne_eq, not_true_eq_false, not_false_eq_true, forall_const, wipeE, big0, big1, big2, big3, big4, big5, big6, big7, big8, big9, fAdd]
    have en : ((n : Int) + 1).toNat = n + 1 := by omega
    rw [en]
    refine ⟨rgOk_of (by omega) (by omega), ?_⟩
    refine for_ix (fun i env S' => i ≤ n + 1 ∧ ∃ a4 a5 a6 a7 a8, env = [some (.int n), some (.loc p), some (.int start), some (.loc S.length), a4, a5, a6, a7, a8] ∧ S' = S ++ [.lst (suD n (passes E s0 i))] ∧ ∀ j, j < i → chg (passes E s0 j) E = true)
      (fun _ _ _ _ => True.intro) ⟨Nat.zero_le _, _, _, _, _, _, rfl, rfl, fun j h => by omega⟩ ?_ ?_
    · rintro env S' ⟨_, a4, a5, a6, a7, a8, rfl, rfl, hc⟩
      have eL : ({ items := List.map (fun i => D.int (0 + ((i : Nat) : Int))) (List.range (n + 1)), root := none } : Iter).items.length = n + 1 := by simp
      rw [eL] at hc ⊢
      rw [gc_flat (Neat.refl S) (by rw [lo_non]; exact True.intro)]
      exact h0 (hc n (by omega))
    · rintro i d env S' hd ⟨_, a4, a5, a6, a7, a8, rfl, rfl, hc⟩
      obtain ⟨hi, rfl⟩ := range_at hd
      simp only [w_var, w_c, w_bin, w_un, w_dB, wt_and, wt_or, wt_not, w_if, w_andV, w_orV, w_notV, w_anil, w_acons, w_call, w_app, w_tup, w_lst, w_dict, w_onone, w_osome, w_sl, w_tru, w_chain, w_meth, w_lc, w_nop, w_brk, w_cnt, w_seq, w_ret, w_retN, w_drop, w_ifS, w_asg, w_gN, w_gN0, w_gT, w_gT0, w_gnil, w_gnil0, w_gcons, w_gnsnil0, w_gnscons0, w_gsub, w_par, w_par3, w_aug, w_for, w_range1, w_range2, w_seqI, w_enum, okO_some, okS_some, okV_some, okB_bl, okI_int, okT_tup, okC_some, okQ_tup, okO_newL, okO_if, okO_ifL, okS_if, ok2_two, ok3_three, f1, f2, br_true, br_false, br_dec, br_not, atI_0, atI_1, atI_2, atI_3, atI_4, Option.map_some, ok_val, List.map_cons, List.map_nil, List.cons_append, List.nil_append, List.replicate_succ, List.replicate_zero, List.getElem?_cons_zero, List.getElem?_cons_succ, List.set_cons_zero, List.set_cons_succ, List.length_cons, List.length_nil, Nat.reduceSub, Nat.reduceAdd, Nat.reduceLeDiff, true_and, and_true, ne_eq, not_true_eq_false, not_false_eq_true, forall_const, wipeE, big0, big1, big2, big3, big4, big5, big6, big7, big8, big9, d_law_ways_l3, d_law_ways_r2]
      rw [okQ_lst (get_app hS)]
      refine for_ix (fun j env S' => ∃ a6 a7, env = [some (.int n), some (.loc p), some (.int start), some (.loc S.length), some (.int (i : Nat)), some (.bl (!chg (passes E s0 i) (E.take j))), a6, a7, a8] ∧ S' = S ++ [.lst (suD n (pass (passes E s0 i) (E.take j)))])
        (fun _ _ s h => by obtain ⟨_, _, _, rfl⟩ := h; show lstAt _ p = _; unfold lstAt; rw [get_app hS]) ⟨a6, a7, rfl, rfl⟩ ?_ ?_
      · rintro env S' ⟨a6, a7, rfl, rfl⟩
        have eL : ({ items := esD E, root := some (p, esD E) } : Iter).items.length = E.length := by simp
        rw [eL, List.take_length]
        simp only [w_var, w_c, w_bin, w_un, w_dB, wt_and, wt_or, wt_not, w_if, w_andV, w_orV, w_notV, w_anil, w_acons, w_call, w_app, w_tup, w_lst, w_dict, w_onone, w_osome, w_sl, w_tru, w_chain, w_meth, w_lc, w_nop, w_brk, w_cnt, w_seq, w_ret, w_retN, w_drop, w_ifS, w_asg, w_gN, w_gN0, w_gT, w_gT0, w_gnil, w_gnil0, w_gcons, w_gnsnil0, w_gnscons0, w_gsub, w_par, w_par3, w_aug, w_for, w_range1, w_range2, w_seqI, w_enum, okO_some, okS_some, okV_some, okB_bl, okI_int, okT_tup, okC_some, okQ_tup, okO_newL, okO_if, okO_ifL, okS_if, ok2_two, ok3_three, f1, f2, br_true, br_false, br_dec, br_not, atI_0, atI_1, atI_2, atI_3, atI_4, Option.map_some, ok_val, List.map_cons, List.map_nil, List.cons_append, List.nil_append, List.replicate_succ, List.replicate_zero, List.getElem?_cons_zero, List.getElem?_cons_succ, List.set_cons_zero, List.set_cons_succ, List.length_cons, List.length_nil, Nat.reduceSub, Nat.reduceAdd, Nat.reduceLeDiff, true_and, and_true, ne_eq, not_true_eq_false, not_false_eq_true, forall_const, wipeE, big0, big1, big2, big3, big4, big5, big6, big7, big8, big9, fTru]
        cases q : chg (passes E s0 i) E with
        | false =>
          simp only [Bool.not_false, br_true, w_var, w_c, w_bin, w_un, w_dB, wt_and, wt_or, wt_not, w_if, w_andV, w_orV, w_notV, w_anil, w_acons, w_call, w_app, w_tup, w_lst, w_dict, w_onone, w_osome, w_sl, w_tru, w_chain, w_meth, w_lc, w_nop, w_brk, w_cnt, w_seq, w_ret, w_retN, w_drop, w_ifS, w_asg, w_gN, w_gN0, w_gT, w_gT0, w_gnil, w_gnil0, w_gcons, w_gnsnil0, w_gnscons0, w_gsub, w_par, w_par3, w_aug, w_for, w_range1, w_range2, w_seqI, w_enum, okO_some, okS_some, okV_some, okB_bl, okI_int, okT_tup, okC_some, okQ_tup, okO_newL, okO_if, okO_ifL, okS_if, ok2_two, ok3_three, f1, f2, br_true, br_false, br_dec, br_not, atI_0, atI_1, atI_2, atI_3, atI_4, Option.map_some, ok_val, List.map_cons, List.map_nil, List.cons_append, List.nil_append, List.replicate_succ, List.replicate_zero, List.getElem?_cons_zero, List.getElem?_cons_succ, List.set_cons_zero, List.set_cons_succ, List.length_cons, List.length_nil, Nat.reduceSub, Nat.reduceAdd, Nat.reduceLeDiff, true_and, and_true, ne_eq, not_true_eq_false, not_false_eq_true, forall_const, wipeE, big0, big1, big2, big3, big4, big5, big6, big7, big8, big9]
          have hp := passes_still q n (by omega)
          have hp1 : pass (passes E s0 i) E = passes E s0 n := by rw [(pass_still q).1, hp.1]
          rw [hp1, gc_new (Neat.refl S) (Nat.le_refl _) get_new suD_lo]
          exact h1 hp.2
        | true =>
          simp only [Bool.not_true, br_false, w_var, w_c, w_bin, w_un, w_dB, wt_and, wt_or, wt_not, w_if, w_andV, w_orV, w_notV, w_anil, w_acons, w_call, w_app, w_tup, w_lst, w_dict, w_onone, w_osome, w_sl, w_tru, w_chain, w_meth, w_lc, w_nop, w_brk, w_cnt, w_seq, w_ret, w_retN, w_drop, w_ifS, w_asg, w_gN, w_gN0, w_gT, w_gT0, w_gnil, w_gnil0, w_gcons, w_gnsnil0, w_gnscons0, w_gsub, w_par, w_par3, w_aug, w_for, w_range1, w_range2, w_seqI, w_enum, okO_some, okS_some, okV_some, okB_bl, okI_int, okT_tup, okC_some, okQ_tup, okO_newL, okO_if, okO_ifL, okS_if, ok2_two, ok3_three, f1, f2, br_true, br_false, br_dec, br_not, atI_0, atI_1, atI_2, atI_3, atI_4, Option.map_some, ok_val, List.map_cons, List.map_nil, List.cons_append, List.nil_append, List.replicate_succ, List.replicate_zero, List.getElem?_cons_zero, List.getElem?_cons_succ, List.set_cons_zero, List.set_cons_succ, List.length_cons, List.length_nil, Nat.reduceSub, Nat.reduceAdd, Nat.reduceLeDiff, true_and, and_true, ne_eq, not_true_eq_false, not_false_eq_true, forall_const, wipeE, big0, big1, big2, big3, big4, big5, big6, big7, big8, big9]
          refine ⟨by omega, _, _, _, _, _, rfl, rfl, fun j hj => ?_⟩
          by_cases e : j = i
          · subst e; exact q
          · exact hc j (by omega)
      · rintro j d env S' hd ⟨a6, a7, rfl, rfl⟩
        obtain ⟨⟨u, v, w⟩, he, rfl⟩ := es_at hd
        obtain ⟨hu, hv⟩ := hE _ (List.mem_of_getElem? he)
        simp only at hu hv
        rw [take_snoc he, pass_append, chg_append]
        generalize pass (passes E s0 i) (E.take j) = s
        generalize chg (passes E s0 i) (E.take j) = c
        simp only [pass, List.foldl_cons, List.foldl_nil, chg, Bool.or_false]
        simp only [w_var, w_c, w_bin, w_un, w_dB, wt_and, wt_or, wt_not, w_if, w_andV, w_orV, w_notV, w_anil, w_acons, w_call, w_app, w_tup, w_lst, w_dict, w_onone, w_osome, w_sl, w_tru, w_chain, w_meth, w_lc, w_nop, w_brk, w_cnt, w_seq, w_ret, w_retN, w_drop, w_ifS, w_asg, w_gN, w_gN0, w_gT, w_gT0, w_gnil, w_gnil0, w_gcons, w_gnsnil0, w_gnscons0, w_gsub, w_par, w_par3, w_aug, w_for, w_range1, w_range2, w_seqI, w_enum, okO_some, okS_some, okV_some, okB_bl, okI_int, okT_tup, okC_some, okQ_tup, okO_newL, okO_if, okO_ifL, okS_if, ok2_two, ok3_three, f1, f2, br_true, br_false, br_dec, br_not, atI_0, atI_1, atI_2, atI_3, atI_4, Option.map_some, ok_val, List.map_cons, List.map_nil, List.cons_append, List.nil_append, List.replicate_succ, List.replicate_zero, List.getElem?_cons_zero, List.getElem?_cons_succ, List.set_cons_zero, List.set_cons_succ, List.length_cons, List.length_nil, Nat.reduceSub, Nat.reduceAdd, Nat.reduceLeDiff, true_and, and_true, ne_eq, not_true_eq_false, not_false_eq_true, forall_const, wipeE, big0, big1, big2, big3, big4, big5, big6, big7, big8, big9, d_law_ways_l1, eD, fIx, get_new, suD_at hu, suD_at hv, fIsNotN, fIsN, oD_non, fAdd, oD_none, oD_some]
        cases hu0 : s u with
        | none =>
          have hh : hit s (u, v, w) = false := by unfold hit; simp [hu0]
          simp only [Option.isNone_none, br_true, hh, Bool.or_false]
          exact ⟨_, _, rfl, by unfold rel; rw [hh]; simp⟩
        | some a0 =>
          have fin : hit s (u, v, w) = true → okS (fSet (.loc S.length) (.int (v : Nat)) (.int (a0 + w)) (S ++ [.lst (suD n s)])) fun S3 => ∃ a6 a7_1, [some (D.int n), some (D.loc p), some (D.int start), some (D.loc S.length), some (D.int (i : Nat)), some (D.bl false), some (D.tup [.int (u : Nat), .int (v : Nat), .int w]), some (D.int (a0 + w)), a8] =
              [some (D.int n), some (D.loc p), some (D.int start), some (D.loc S.length), some (D.int (i : Nat)), some (D.bl (!(c || hit s (u, v, w)))), a6, a7_1, a8] ∧ S3 = S ++ [.lst (suD n (rel s (u, v, w)))] := fun hh => by
            simp only [fSet, get_new, suD_len, ixN_nat hv, Option.map_some, okS_some, suD_set hv, set_app_new, hh, Bool.or_true, Bool.not_true]
            exact ⟨_, _, rfl, by unfold rel; rw [hh]; simp [hu0]⟩
          simp only [Option.isNone_some, br_false, oD_some, fAdd, okO_some, w_var, w_c, w_bin, w_un, w_dB, wt_and, wt_or, wt_not, w_if, w_andV, w_orV, w_notV, w_anil, w_acons, w_call, w_app, w_tup, w_lst, w_dict, w_onone, w_osome, w_sl, w_tru, w_chain, w_meth, w_lc, w_nop, w_brk, w_cnt, w_seq, w_ret, w_retN, w_drop, w_ifS, w_asg, w_gN, w_gN0, w_gT, w_gT0, w_gnil, w_gnil0, w_gcons, w_gnsnil0, w_gnscons0, w_gsub, w_par, w_par3, w_aug, w_for, w_range1, w_range2, w_seqI, w_enum, okO_some, okS_some, okV_some, okB_bl, okI_int, okT_tup, okC_some, okQ_tup, okO_newL, okO_if, okO_ifL, okS_if, ok2_two, ok3_three, f1, f2, br_true, br_false, br_dec, br_not, atI_0, atI_1, atI_2, atI_3, atI_4, Option.map_some, ok_val, List.map_cons, List.map_nil, List.cons_append, List.nil_append, List.replicate_succ, List.replicate_zero, List.getElem?_cons_zero, List.getElem?_cons_succ, List.set_cons_zero, List.set_cons_succ, List.length_cons, List.length_nil, Nat.reduceSub, Nat.reduceAdd, Nat.reduceLeDiff, true_and, and_true, ne_eq, not_true_eq_false, not_false_eq_true, forall_const, wipeE, big0, big1, big2, big3, big4, big5, big6, big7, big8, big9, get_new, suD_at hv, oD_non, fLt, fCmp]
          cases hv0 : s v with
          | none =>
            simp only [Option.isNone_none, br_true]
            exact fin (by unfold hit; simp [hu0, hv0])
          | some b0 =>
            simp only [Option.isNone_some, br_false, oD_some, okO_some, okB_bl, br_dec]
            refine ⟨fun h => fin (by unfold hit; simp [hu0, hv0]; exact h), fun h => ?_⟩
            have hh : hit s (u, v, w) = false := by unfold hit; simp [hu0, hv0]; omega
            simp only [hh, Bool.or_false]
            exact ⟨_, _, rfl, by unfold rel; rw [hh]; simp⟩

/-! ### fits -/
theorem fits_ok {E : List Ed} {n p q : Nat} {hs : List Int} {S : Sto} (hE : ∀ e ∈ E, e.1 < n ∧ e.2.1 < n) (hn : hs.length = n) (hS : S[p]? = some (.lst (esD E))) (hq : S[q]? = some (.lst (hs.map D.int))) {X : Ex → Sto → Prop} {Q : D → Sto → Prop}
    (hQ : Q (.bl (E.all fun e => decide (hs.getD e.2.1 0 ≤ hs.getD e.1 0 + e.2.2))) S) : (d_law_fits [.loc p, .loc q] S).ok Q X := by
  unfold d_law_fits
  rw [w_fn]
  refine ⟨rfl, ?_⟩
  unfold d_law_fits_b
  simp only [w_var, w_c, w_bin, w_un, w_dB, wt_and, wt_or, wt_not, w_if, w_andV, w_orV, w_notV, w_anil, w_acons, w_call, w_app, w_tup, w_lst, w_dict, w_onone, w_osome, w_sl, w_tru, w_chain, w_meth, w_lc, w_nop, w_brk, w_cnt, w_seq, w_ret, w_retN, w_drop, w_ifS, w_asg, w_gN, w_gN0, w_gT, w_gT0, w_gnil, w_gnil0, w_gcons, w_gnsnil0, w_gnscons0, w_gsub, w_par, w_par3, w_aug, w_for, w_range1, w_range2, w_seqI, w_enum, okO_some, okS_some, okV_some, okB_bl, okI_int, okT_tup, okC_some, okQ_tup, okO_newL, okO_if, okO_ifL, okS_if, ok2_two, ok3_three, f1, f2, br_true, br_false, br_dec, br_not, atI_0, atI_1, atI_2, atI_3, atI_4, Option.map_some, ok_val, List.map_cons, List.map_nil, List.cons_append, List.nil_append, List.replicate_succ, List.replicate_zero, List.getElem?_cons_zero, List.getElem?_cons_succ, List.set_cons_zero, List.set_cons_succ, List.length_cons, List.length_nil, Nat.reduceSub, Nat.reduceAdd, Nat.reduceLeDiff, true_and, and_true, ne_eq, not_true_eq_false, not_false_eq_true, forall_const, wipeE, big0, big1, big2, big3, big4, big5, big6, big7, big8, big9]
  rw [okQ_lst hS]
  have at_ : ∀ u : Nat, u < n → atI (hs.map D.int) (u : Nat) = some (.int (hs.getD u 0)) := fun u hu => by
    refine atI_nat rfl ?_
    rw [List.getElem?_map, List.getElem?_eq_getElem (by omega)]
    simp [List.getD_eq_getElem?_getD, hn, hu]
  refine for_ix (fun i env S' => ∃ a, env = [some (.loc p), some (.loc q), a] ∧ S' = S ∧ ∀ e ∈ E.take i, hs.getD e.2.1 0 ≤ hs.getD e.1 0 + e.2.2) (fun _ _ s h => by obtain ⟨_, _, rfl, _⟩ := h; show lstAt _ p = _; unfold lstAt; rw [hS]) ⟨none, rfl, rfl, fun e h => by simp at h⟩ ?_ ?_
  · rintro env S' ⟨a, rfl, rfl, hall⟩
    have eL : ({ items := esD E, root := some (p, esD E) } : Iter).items.length = E.length := by simp
    rw [eL, List.take_length] at hall
    rw [gc_non (by rw [lo_bl]; exact True.intro)]
    have : (E.all fun e => decide (hs.getD e.2.1 0 ≤ hs.getD e.1 0 + e.2.2)) = true := List.all_eq_true.mpr fun e he => decide_eq_true (hall e he)
    rw [this] at hQ
    exact hQ
  · rintro i d env S' hd ⟨a, rfl, rfl, hall⟩
    obtain ⟨⟨u, v, w⟩, he, rfl⟩ := es_at hd
    obtain ⟨hu, hv⟩ := hE _ (List.mem_of_getElem? he)
    simp only [w_var, w_c, w_bin, w_un, w_dB, wt_and, wt_or, wt_not, w_if, w_andV, w_orV, w_notV, w_anil, w_acons, w_call, w_app, w_tup, w_lst, w_dict, w_onone, w_osome, w_sl, w_tru, w_chain, w_meth, w_lc, w_nop, w_brk, w_cnt, w_seq, w_ret, w_retN, w_drop, w_ifS, w_asg, w_gN, w_gN0, w_gT, w_gT0, w_gnil, w_gnil0, w_gcons, w_gnsnil0, w_gnscons0, w_gsub, w_par, w_par3, w_aug, w_for, w_range1, w_range2, w_seqI, w_enum, okO_some, okS_some, okV_some, okB_bl, okI_int, okT_tup, okC_some, okQ_tup, okO_newL, okO_if, okO_ifL, okS_if, ok2_two, ok3_three, f1, f2, br_true, br_false, br_dec, br_not, atI_0, atI_1, atI_2, atI_3, atI_4, Option.map_some, ok_val, List.map_cons, List.map_nil, List.cons_append, List.nil_append, List.replicate_succ, List.replicate_zero, List.getElem?_cons_zero, List.getElem?_cons_succ, List.set_cons_zero, List.set_cons_succ, List.length_cons, List.length_nil, Nat.reduceSub, Nat.reduceAdd, Nat.reduceLeDiff, true_and, and_true, ne_eq, not_true_eq_false, not_false_eq_true, forall_const, wipeE, big0, big1, big2, big3, big4, big5, big6, big7, big8, big9, d_law_fits_l1, eD, fIx, hq, at_ u hu, at_ v hv, fAdd, fLt, fCmp]
    refine ⟨fun h => ?_, fun h => ⟨_, rfl, fun e he2 => ?_⟩⟩
    · rw [gc_non (by rw [lo_bl]; exact True.intro)]
      have : (E.all fun e => decide (hs.getD e.2.1 0 ≤ hs.getD e.1 0 + e.2.2)) = false := List.all_eq_false.mpr ⟨(u, v, w), List.mem_of_getElem? he, by simp only [decide_eq_true_eq]; omega⟩
      rw [this] at hQ
      exact hQ
    · rw [take_snoc he] at he2
      rcases List.mem_append.mp he2 with h3 | h3
      · exact hall e h3
      · simp only [List.mem_singleton] at h3
        subst h3
        simp only
        omega

/-! ### falls -/
theorem falls_ok {E : List Ed} {p : Nat} {ps : List Nat} {S : Sto} (hl : E.length < 1000) (hf : Falls E ps) (hS : S[p]? = some (.lst (esD E))) {X : Ex → Sto → Prop} {Q : D → Sto → Prop} (hQ : Q (.bl true) S) :
    (d_law_falls [.tup (ps.map fun p => .int (p : Nat)), .loc p] S).ok Q X := by
  obtain ⟨pt, ept, hpt⟩ := hf.pts
  have ltE : ∀ p ∈ ps, p < E.length := fun p hp => by
    obtain ⟨k, hk, e⟩ := List.getElem_of_mem hp
    obtain ⟨w, hw⟩ := hpt k p (by rw [List.getElem?_eq_getElem hk, e])
    exact (List.getElem?_eq_some_iff.mp hw).1
  have hle : ps.length ≤ E.length := nodup_le _ _ hf.nd ltE
  have hpos : 0 < ps.length := List.length_pos_iff.mpr hf.ne
  have cast_ : ∀ l : List Nat, l.map (fun p => D.int ((p : Nat) : Int)) = (l.map fun p => ((p : Nat) : Int)).map D.int := fun l => by rw [List.map_map]; rfl
  unfold d_law_falls
  rw [w_fn]
  refine ⟨rfl, ?_⟩
  unfold d_law_falls_b d_law_falls_r7 d_law_falls_r6 d_law_falls_r5 d_law_falls_r4
  have t1 : fIsi (.tup (ps.map fun p => .int (p : Nat))) (.ty "tuple") S = some (.bl true, S) := rfl
  have t2 : fLen (.tup (ps.map fun p => .int (p : Nat))) S = some (.int (ps.length : Nat), S) := by simp [fLen]
  have t3 : ∀ G, fLen (.loc p) (S ++ G) = some (.int (E.length : Nat), S ++ G) := fun G => by simp only [fLen, get_app hS, List.length_map]
  have t30 : fLen (.loc p) S = some (.int (E.length : Nat), S) := by simp only [fLen, hS, List.length_map]
  have c1 : ¬ ((ps.length : Int) = 0) := by omega
  have c2 : ¬ ((E.length : Int) < (ps.length : Int)) := by omega
  simp only [w_var, w_c, w_bin, w_un, w_dB, wt_and, wt_or, wt_not, w_if, w_andV, w_orV, w_notV, w_anil, w_acons, w_call, w_app, w_tup, w_lst, w_dict, w_onone, w_osome, w_sl, w_tru, w_chain, w_meth, w_lc, w_nop, w_brk, w_cnt, w_seq, w_ret, w_retN, w_drop, w_ifS, w_asg, w_gN, w_gN0, w_gT, w_gT0, w_gnil, w_gnil0, w_gcons, w_gnsnil0, w_gnscons0, w_gsub, w_par, w_par3, w_aug, w_for, w_range1, w_range2, w_seqI, w_enum, okO_some, okS_some, okV_some, okB_bl, okI_int, okT_tup, okC_some, okQ_tup, okO_newL, okO_if, okO_ifL, okS_if, ok2_two, ok3_three, f1, f2, br_true, br_false, br_dec, br_not, atI_0, atI_1, atI_2, atI_3, atI_4, Option.map_some, ok_val, List.map_cons, List.map_nil, List.cons_append, List.nil_append, List.replicate_succ, List.replicate_zero, List.getElem?_cons_zero, List.getElem?_cons_succ, List.set_cons_zero, List.set_cons_succ, List.length_cons, List.length_nil, Nat.reduceSub, Nat.reduceAdd, Nat.reduceLeDiff, true_and, and_true, ne_eq, not_true_eq_false, not_false_eq_true, forall_const, wipeE, big0, big1, big2, big3, big4, big5, big6, big7, big8, big9, t1, t2, t30, fTru, Bool.not_true, fEq, fGt, fCmp, scalD, c1, c2, decide_false, false_implies]
  refine for_ix (fun i env S' => ∃ a4 a5, env = [some (.tup (ps.map fun p => .int (p : Nat))), some (.loc p), some (.loc S.length), some (.int (sumI ((ps.take i).map (wt E)))), a4, a5] ∧ S' = S ++ [.lst ((ps.take i).map fun p => .int (p : Nat))])
    (fun _ _ _ _ => True.intro) ⟨_, _, rfl, rfl⟩ ?_ ?_
  · rintro env S' ⟨a4, a5, rfl, rfl⟩
    have eL : ({ items := ps.map fun p => D.int ((p : Nat) : Int), root := none } : Iter).items.length = ps.length := by simp
    rw [eL, List.take_length]
    simp only [w_var, w_c, w_bin, w_un, w_dB, wt_and, wt_or, wt_not, w_if, w_andV, w_orV, w_notV, w_anil, w_acons, w_call, w_app, w_tup, w_lst, w_dict, w_onone, w_osome, w_sl, w_tru, w_chain, w_meth, w_lc, w_nop, w_brk, w_cnt, w_seq, w_ret, w_retN, w_drop, w_ifS, w_asg, w_gN, w_gN0, w_gT, w_gT0, w_gnil, w_gnil0, w_gcons, w_gnsnil0, w_gnscons0, w_gsub, w_par, w_par3, w_aug, w_for, w_range1, w_range2, w_seqI, w_enum, okO_some, okS_some, okV_some, okB_bl, okI_int, okT_tup, okC_some, okQ_tup, okO_newL, okO_if, okO_ifL, okS_if, ok2_two, ok3_three, f1, f2, br_true, br_false, br_dec, br_not, atI_0, atI_1, atI_2, atI_3, atI_4, Option.map_some, ok_val, List.map_cons, List.map_nil, List.cons_append, List.nil_append, List.replicate_succ, List.replicate_zero, List.getElem?_cons_zero, List.getElem?_cons_succ, List.set_cons_zero, List.set_cons_succ, List.length_cons, List.length_nil, Nat.reduceSub, Nat.reduceAdd, Nat.reduceLeDiff, true_and, and_true, ne_eq, not_true_eq_false, not_false_eq_true, forall_const, wipeE, big0, big1, big2, big3, big4, big5, big6, big7, big8, big9, fLen, get_new, List.length_map]
    refine ⟨rgOk_nat (by omega), ?_⟩
    rw [Int.toNat_natCast]
    refine for_ix (fun i env S' => ∃ a5, env = [some (.tup (ps.map fun p => .int (p : Nat))), some (.loc p), some (.loc S.length), some (.int (sumI (ps.map (wt E)))), a4, a5] ∧ S' = S ++ [.lst (ps.map fun p => .int (p : Nat))])
      (fun _ _ _ _ => True.intro) ⟨_, rfl, rfl⟩ ?_ ?_
    · rintro env S' ⟨a5, rfl, rfl⟩
      have hneg : decide (sumI (ps.map (wt E)) < 0) = true := decide_eq_true hf.neg
      simp only [w_var, w_c, w_bin, w_un, w_dB, wt_and, wt_or, wt_not, w_if, w_andV, w_orV, w_notV, w_anil, w_acons, w_call, w_app, w_tup, w_lst, w_dict, w_onone, w_osome, w_sl, w_tru, w_chain, w_meth, w_lc, w_nop, w_brk, w_cnt, w_seq, w_ret, w_retN, w_drop, w_ifS, w_asg, w_gN, w_gN0, w_gT, w_gT0, w_gnil, w_gnil0, w_gcons, w_gnsnil0, w_gnscons0, w_gsub, w_par, w_par3, w_aug, w_for, w_range1, w_range2, w_seqI, w_enum, okO_some, okS_some, okV_some, okB_bl, okI_int, okT_tup, okC_some, okQ_tup, okO_newL, okO_if, okO_ifL, okS_if, ok2_two, ok3_three, f1, f2, br_true, br_false, br_dec, br_not, atI_0, atI_1, atI_2, atI_3, atI_4, Option.map_some, ok_val, List.map_cons, List.map_nil, List.cons_append, List.nil_append, List.replicate_succ, List.replicate_zero, List.getElem?_cons_zero, List.getElem?_cons_succ, List.set_cons_zero, List.set_cons_succ, List.length_cons, List.length_nil, Nat.reduceSub, Nat.reduceAdd, Nat.reduceLeDiff, true_and, and_true, ne_eq, not_true_eq_false, not_false_eq_true, forall_const, wipeE, big0, big1, big2, big3, big4, big5, big6, big7, big8, big9, fLt, fCmp, hneg]
      rw [gc_flat (Neat.refl S) (by rw [lo_bl]; exact True.intro)]
      exact hQ
    · rintro i d env S' hd ⟨a5, rfl, rfl⟩
      obtain ⟨hi, rfl⟩ := range_at hd
      obtain ⟨w1, hw1⟩ := hpt i _ (List.getElem?_eq_getElem hi)
      have b1 : atI (ps.map fun p => D.int ((p : Nat) : Int)) (i : Nat) = some (.int (ps[i] : Nat)) := atI_nat rfl (by rw [List.getElem?_map, List.getElem?_eq_getElem hi]; rfl)
      have b2 : atI (esD E) (ps[i] : Nat) = some (eD (pt i, pt (i + 1), w1)) := atI_nat rfl (by rw [List.getElem?_map, hw1]; rfl)
      have b3 : ∃ j w2, atI (ps.map fun p => D.int ((p : Nat) : Int)) ((i : Nat) - 1 : Int) = some (.int (j : Nat)) ∧ ∃ u, atI (esD E) (j : Nat) = some (eD (u, pt i, w2)) := by
        by_cases z : i = 0
        · subst z
          have hl1 : ps.length - 1 < ps.length := by omega
          obtain ⟨w2, hw2⟩ := hpt (ps.length - 1) _ (List.getElem?_eq_getElem hl1)
          refine ⟨ps[ps.length - 1], w2, atI_neg (j := ps.length - 1) (by simp; omega) (by decide) (by rw [List.getElem?_map, List.getElem?_eq_getElem hl1]; rfl), pt (ps.length - 1), atI_nat rfl ?_⟩
          rw [List.getElem?_map, hw2, show ps.length - 1 + 1 = ps.length by omega, ept]
          rfl
        · have hl1 : i - 1 < ps.length := by omega
          obtain ⟨w2, hw2⟩ := hpt (i - 1) _ (List.getElem?_eq_getElem hl1)
          refine ⟨ps[i - 1], w2, atI_nat (j := i - 1) (by omega) (by rw [List.getElem?_map, List.getElem?_eq_getElem hl1]; rfl), pt (i - 1), atI_nat rfl ?_⟩
          rw [List.getElem?_map, hw2, show i - 1 + 1 = i by omega]
          rfl
      obtain ⟨j, w2, b4, u, b5⟩ := b3
      simp only [w_var, w_c, w_bin, w_un, w_dB, wt_and, wt_or, wt_not, w_if, w_andV, w_orV, w_notV, w_anil, w_acons, w_call, w_app, w_tup, w_lst, w_dict, w_onone, w_osome, w_sl, w_tru, w_chain, w_meth, w_lc, w_nop, w_brk, w_cnt, w_seq, w_ret, w_retN, w_drop, w_ifS, w_asg, w_gN, w_gN0, w_gT, w_gT0, w_gnil, w_gnil0, w_gcons, w_gnsnil0, w_gnscons0, w_gsub, w_par, w_par3, w_aug, w_for, w_range1, w_range2, w_seqI, w_enum, okO_some, okS_some, okV_some, okB_bl, okI_int, okT_tup, okC_some, okQ_tup, okO_newL, okO_if, okO_ifL, okS_if, ok2_two, ok3_three, f1, f2, br_true, br_false, br_dec, br_not, atI_0, atI_1, atI_2, atI_3, atI_4, Option.map_some, ok_val, List.map_cons, List.map_nil, List.cons_append, List.nil_append, List.replicate_succ, List.replicate_zero, List.getElem?_cons_zero, List.getElem?_cons_succ, List.set_cons_zero, List.set_cons_succ, List.length_cons, List.length_nil, Nat.reduceSub, Nat.reduceAdd, Nat.reduceLeDiff, true_and, and_true, ne_eq, not_true_eq_false, not_false_eq_true, forall_const, wipeE, big0, big1, big2, big3, big4, big5, big6, big7, big8, big9, d_law_falls_l3, fIx, get_new, get_app hS, fSub, fInt, b1, b2, b4, b5, eD, fNe, scalD, decide_true, Bool.not_true, if_true]
      exact ⟨_, rfl⟩
  · rintro i d env S' hd ⟨a4, a5, rfl, rfl⟩
    have hi : i < ps.length := by
      have := (List.getElem?_eq_some_iff.mp hd).1
      simpa using this
    have hd2 : d = .int (ps[i] : Nat) := by
      rw [List.getElem?_map, List.getElem?_eq_getElem hi] at hd
      exact (Option.some.inj hd).symm
    subst hd2
    obtain ⟨w1, hw1⟩ := hpt i _ (List.getElem?_eq_getElem hi)
    have hlt := ltE _ (List.getElem_mem hi)
    simp only [w_var, w_c, w_bin, w_un, w_dB, wt_and, wt_or, wt_not, w_if, w_andV, w_orV, w_notV, w_anil, w_acons, w_call, w_app, w_tup, w_lst, w_dict, w_onone, w_osome, w_sl, w_tru, w_chain, w_meth, w_lc, w_nop, w_brk, w_cnt, w_seq, w_ret, w_retN, w_drop, w_ifS, w_asg, w_gN, w_gN0, w_gT, w_gT0, w_gnil, w_gnil0, w_gcons, w_gnsnil0, w_gnscons0, w_gsub, w_par, w_par3, w_aug, w_for, w_range1, w_range2, w_seqI, w_enum, okO_some, okS_some, okV_some, okB_bl, okI_int, okT_tup, okC_some, okQ_tup, okO_newL, okO_if, okO_ifL, okS_if, ok2_two, ok3_three, f1, f2, br_true, br_false, br_dec, br_not, atI_0, atI_1, atI_2, atI_3, atI_4, Option.map_some, ok_val, List.map_cons, List.map_nil, List.cons_append, List.nil_append, List.replicate_succ, List.replicate_zero, List.getElem?_cons_zero, List.getElem?_cons_succ, List.set_cons_zero, List.set_cons_succ, List.length_cons, List.length_nil, Nat.reduceSub, Nat.reduceAdd, Nat.reduceLeDiff, true_and, and_true, ne_eq, not_true_eq_false, not_false_eq_true, forall_const, wipeE, big0, big1, big2, big3, big4, big5, big6, big7, big8, big9, d_law_falls_l2, d_law_falls_r1]
    refine number_ok (t := "int") rfl ?_
    have c3 : ¬ ((ps[i] : Int) < 0) := by omega
    have c4 : ¬ ((E.length : Int) ≤ (ps[i] : Int)) := by omega
    have c5 : ¬ ((ps[i] : Int) ∈ (ps.take i).map fun p => ((p : Nat) : Int)) := by
      intro h
      obtain ⟨y, hy, ey⟩ := List.mem_map.mp h
      have ey : y = ps[i] := by omega
      subst ey
      obtain ⟨k, hk, ek⟩ := List.getElem_of_mem hy
      have hk2 : k < i := by
        have := hk
        rw [List.length_take] at this
        omega
      rw [List.getElem_take] at ek
      have nd := List.nodup_iff_pairwise_ne.mp hf.nd
      exact List.pairwise_iff_getElem.mp nd k i (by omega) hi hk2 ek
    have b2 : atI (esD E) (ps[i] : Nat) = some (eD (pt i, pt (i + 1), w1)) := atI_nat rfl (by rw [List.getElem?_map, hw1]; rfl)
    have ew : w1 = wt E ps[i] := by unfold wt; rw [List.getD_eq_getElem?_getD, hw1]; rfl
    have inf : inFlat (.int (ps[i] : Nat)) ((ps.take i).map fun p => .int (p : Nat)) = some false := by
      rw [cast_, inFlat_int, decide_eq_false c5]
    have b6 : (ps.take i).length < big := lt_big (by rw [List.length_take]; omega)
    simp only [decide_true, fTru, Bool.not_true, w_var, w_c, w_bin, w_un, w_dB, wt_and, wt_or, wt_not, w_if, w_andV, w_orV, w_notV, w_anil, w_acons, w_call, w_app, w_tup, w_lst, w_dict, w_onone, w_osome, w_sl, w_tru, w_chain, w_meth, w_lc, w_nop, w_brk, w_cnt, w_seq, w_ret, w_retN, w_drop, w_ifS, w_asg, w_gN, w_gN0, w_gT, w_gT0, w_gnil, w_gnil0, w_gcons, w_gnsnil0, w_gnscons0, w_gsub, w_par, w_par3, w_aug, w_for, w_range1, w_range2, w_seqI, w_enum, okO_some, okS_some, okV_some, okB_bl, okI_int, okT_tup, okC_some, okQ_tup, okO_newL, okO_if, okO_ifL, okS_if, ok2_two, ok3_three, f1, f2, br_true, br_false, br_dec, br_not, atI_0, atI_1, atI_2, atI_3, atI_4, Option.map_some, ok_val, List.map_cons, List.map_nil, List.cons_append, List.nil_append, List.replicate_succ, List.replicate_zero, List.getElem?_cons_zero, List.getElem?_cons_succ, List.set_cons_zero, List.set_cons_succ, List.length_cons, List.length_nil, Nat.reduceSub, Nat.reduceAdd, Nat.reduceLeDiff, true_and, and_true, ne_eq, not_true_eq_false, not_false_eq_true, forall_const, wipeE, big0, big1, big2, big3, big4, big5, big6, big7, big8, big9, fLt, fGe, fCmp, c3, c4, decide_false, t3, fIn, inD, get_new, inf, isL, lstAt, Option.isSome_some, fAppend, List.length_map, b6, false_implies, if_true, set_app_new, fIx, get_app hS, b2, eD, fAdd]
    have e1 : ps.take (i + 1) = ps.take i ++ [ps[i]] := List.take_succ_eq_append_getElem hi
    have e2 : sumI (List.map (wt E) (List.take i ps)) + w1 = sumI (List.map (wt E) (List.take (i + 1) ps)) := by
      rw [e1, List.map_append, sumI_append, ew]
      simp [sumI]
    rw [e2]
    refine ⟨_, _, rfl, ?_⟩
    rw [e1, List.map_append]
    rfl
end K68

set_option Elab.async false
set_option linter.all false
set_option maxRecDepth 100000
set_option maxHeartbeats 2000000
set_option autoImplicit false
namespace K68
open PySem PySem.Spec PyProof.Rows L2 Sh RX

/-! ### from one store to a later one: the mill alone is changed, things are added -/
structure After (M : Mil) (S S' : Sto) : Prop where
  ms0 : MS M S
  ms : MS M S'
  ex : ∃ o G, S' = S.set M.m o ++ G ∧ ∀ n, M.c < n → M.w < n → o.lo n
section
variable {M : Mil} {S S1 S2 : Sto}
theorem MS.cell (h : MS M S) : ∃ o, S[M.m]? = some o ∧ ∀ n, M.c < n → M.w < n → o.lo n := by
  obtain ⟨a, b, e, _, _, h1⟩ := h.st
  exact ⟨_, h1, fun n h1 h2 => by rw [lo_lst]; simp [la_cons, la_nil, lo_loc, lo_int, h1, h2]⟩
theorem After.refl (h : MS M S) : After M S S := by
  obtain ⟨o, h1, h2⟩ := h.cell
  exact ⟨h, h, o, [], by rw [set_self h1, List.append_nil], h2⟩
theorem After.trans (a : After M S S1) (b : After M S1 S2) : After M S S2 := by
  obtain ⟨o, G, rfl, h1⟩ := a.ex
  obtain ⟨o', G', rfl, h2⟩ := b.ex
  refine ⟨a.ms0, b.ms, o', G ++ G', ?_, h2⟩
  rw [set_app (by rw [List.length_set]; exact a.ms0.lt.1), List.set_set, List.append_assoc]
theorem After.len (a : After M S S1) : S.length ≤ S1.length := by
  obtain ⟨o, G, rfl, _⟩ := a.ex
  simp
theorem After.get (a : After M S S1) {i : Nat} {o : Ob} (h : S[i]? = some o) (hi : M.m ≠ i) : S1[i]? = some o := by
  obtain ⟨o', G, rfl, _⟩ := a.ex
  exact get_app (by rw [get_set_ne hi]; exact h)
theorem After.grow (a : After M S S1) (G : Sto) : After M S (S1 ++ G) := by
  obtain ⟨o, G', rfl, h1⟩ := a.ex
  exact ⟨a.ms0, a.ms.app G, o, G' ++ G, by rw [List.append_assoc], h1⟩
theorem MS.set_ne (h : MS M S) {i : Nat} {x : Ob} (h1 : i ≠ M.m) (h2 : i ≠ M.c) (h3 : i ≠ M.w) : MS M (S.set i x) := by
  obtain ⟨a, b, e, k1, k2, k3⟩ := h.st
  exact ⟨h.mc, h.mw, by rw [get_set_ne h2]; exact h.c, by rw [get_set_ne h3]; exact h.w, h.ne, h.pos, h.len, a, b, e, k1, k2, by rw [get_set_ne h1]; exact k3⟩
theorem After.set (a : After M S S1) {i : Nat} (hi : S.length ≤ i) (x : Ob) : After M S (S1.set i x) := by
  have lt := a.ms0.lt
  have hm := a.ms.set_ne (i := i) (x := x) (by omega) (by omega) (by omega)
  obtain ⟨o, G, rfl, h1⟩ := a.ex
  refine ⟨a.ms0, hm, o, G.set (i - S.length) x, ?_, h1⟩
  rw [List.set_append, if_neg (by rw [List.length_set]; omega), List.length_set]
theorem After.neat (a : After M S S1) : ∃ o G, S1 = S.set M.m o ++ G ∧ Neat S (S.set M.m o) ∧ After M S (S.set M.m o) := by
  obtain ⟨o, G, rfl, h1⟩ := a.ex
  have lt := a.ms0.lt
  refine ⟨o, G, rfl, Neat.set1 S (h1 _ lt.2.1 lt.2.2), a.ms0, ?_, o, [], by rw [List.append_nil], h1⟩
  obtain ⟨x, b, e, k1, k2, k3⟩ := a.ms.st
  have h3 : (S.set M.m o)[M.m]? = some (.lst [.loc M.c, .loc M.w, .int x, .int (b : Nat), .int e]) := by
    rw [List.getElem?_append_left (by rw [List.length_set]; exact lt.1)] at k3; exact k3
  exact ⟨a.ms0.mc, a.ms0.mw, by rw [get_set_ne a.ms0.mc]; exact a.ms0.c, by rw [get_set_ne a.ms0.mw]; exact a.ms0.w, a.ms0.ne, a.ms0.pos, a.ms0.len, x, b, e, k1, k2, h3⟩
theorem After.flat (a : After M S S1) {d : D} (lo : d.lo S.length) : ∃ S2, gc S d S1 = (d, S2) ∧ After M S S2 ∧ S2.length = S.length := by
  obtain ⟨o, G, rfl, h1, h2⟩ := a.neat
  exact ⟨_, gc_flat h1 lo, h2, by simp⟩
theorem After.new (a : After M S S1) {l : Nat} {o : Ob} (hl : S.length ≤ l) (ho : S1[l]? = some o) (lo : o.lo S.length) : ∃ S2, gc S (.loc l) S1 = (.loc S.length, S2 ++ [o]) ∧ After M S S2 ∧ S2.length = S.length := by
  obtain ⟨o', G, rfl, h1, h2⟩ := a.neat
  exact ⟨_, gc_new h1 hl ho lo, h2, by simp⟩
theorem grind_ok' {k : Int} (h : MS M S) (hk : 0 < k) (hk2 : k.natAbs < 2 ^ 100) {X : Ex → Sto → Prop} {Q : D → Sto → Prop}
    (hQ : ∀ (r : Nat) (S' : Sto), (r : Int) < k → After M S S' → S'.length = S.length → Q (.int (r : Nat)) S') : (d_law_grind [.loc M.m, .int k] S).ok Q X :=
  grind_ok h hk hk2 fun r o hr ms lo => hQ r _ hr ⟨h, ms, o, [], by rw [List.append_nil], lo⟩ (by simp)
theorem small {k : Int} (h : k.natAbs < 1000000) : k.natAbs < 2 ^ 100 := Nat.lt_trans h (by decide)
end

/-! ### slices -/
theorem cut_take {xs : List D} {a : Nat} (h : a ≤ xs.length) : Sh.cutD xs none (some (a : Int)) = xs.take a := by
  unfold Sh.cutD
  rw [HT.sIx_none, HT.sIx_nat, Nat.min_eq_left h, List.drop_zero, Nat.sub_zero]
theorem cut_drop {xs : List D} {a : Nat} (h : a ≤ xs.length) : Sh.cutD xs (some (a : Int)) none = xs.drop a := by
  unfold Sh.cutD
  rw [HT.sIx_none, HT.sIx_nat, Nat.min_eq_left h, List.take_of_length_le (by rw [List.length_drop]; omega)]
theorem put_ok {xs : List D} {p a : Nat} {d : D} {S : Sto} (hS : S[p]? = some (.lst xs)) (ha : a ≤ xs.length) (hl : xs.length < 5000) (lo : ∀ x ∈ xs, x.lo S.length) (ld : d.lo S.length) {X : Ex → Sto → Prop} {Q : D → Sto → Prop}
    (hQ : Q (.loc S.length) (S ++ [.lst (xs.take a ++ [d] ++ xs.drop a)])) : (d_law_put [.loc p, .int (a : Nat), d] S).ok Q X := by
  unfold d_law_put
  rw [w_fn]
  refine ⟨rfl, ?_⟩
  unfold d_law_put_b
  simp only [w_var, w_c, w_bin, w_un, w_dB, wt_and, wt_or, wt_not, w_if, w_andV, w_orV, w_notV, w_anil, w_acons, w_call, w_app, w_tup, w_lst, w_dict, w_onone, w_osome, w_sl, w_tru, w_chain, w_meth, w_lc, w_nop, w_brk, w_cnt, w_seq, w_ret, w_retN, w_drop, w_ifS, w_asg, w_gN, w_gN0, w_gT, w_gT0, w_gnil, w_gnil0, w_gcons, w_gnsnil0, w_gnscons0, w_gsub, w_par, w_par3, w_aug, w_for, w_range1, w_range2, w_seqI, w_enum, okO_some, okS_some, okV_some, okB_bl, okI_int, okT_tup, okC_some, okQ_tup, okO_newL, okO_if, okO_ifL, okS_if, ok2_two, ok3_three, f1, f2, br_true, br_false, br_dec, br_not, atI_0, atI_1, atI_2, atI_3, atI_4, Option.map_some, ok_val, List.map_cons, List.map_nil, List.cons_append, List.nil_append, List.replicate_succ, List.replicate_zero, List.getElem?_cons_zero, List.getElem?_cons_succ, List.set_cons_zero, List.set_cons_succ, List.length_cons, List.length_nil, Nat.reduceSub, Nat.reduceAdd, Nat.reduceLeDiff, true_and, and_true, ne_eq, not_true_eq_false, not_false_eq_true, forall_const, wipeE, big0, big1, big2, big3, big4, big5, big6, big7, big8, big9, List.append_assoc, List.length_append, Nat.zero_add, Nat.add_zero, Nat.add_assoc, Nat.reduceAdd, fSl, hS, cut_take ha]
  have e1 : ∀ G : Sto, (S ++ G)[S.length]? = G[0]? := fun G => get_off (k := 0)
  have e2 : ∀ (G : Sto) k, (S ++ G)[S.length + k]? = G[k]? := fun G k => get_off
  simp only [fAdd, e1, e2, w_var, w_c, w_bin, w_un, w_dB, wt_and, wt_or, wt_not, w_if, w_andV, w_orV, w_notV, w_anil, w_acons, w_call, w_app, w_tup, w_lst, w_dict, w_onone, w_osome, w_sl, w_tru, w_chain, w_meth, w_lc, w_nop, w_brk, w_cnt, w_seq, w_ret, w_retN, w_drop, w_ifS, w_asg, w_gN, w_gN0, w_gT, w_gT0, w_gnil, w_gnil0, w_gcons, w_gnsnil0, w_gnscons0, w_gsub, w_par, w_par3, w_aug, w_for, w_range1, w_range2, w_seqI, w_enum, okO_some, okS_some, okV_some, okB_bl, okI_int, okT_tup, okC_some, okQ_tup, okO_newL, okO_if, okO_ifL, okS_if, ok2_two, ok3_three, f1, f2, br_true, br_false, br_dec, br_not, atI_0, atI_1, atI_2, atI_3, atI_4, Option.map_some, ok_val, List.map_cons, List.map_nil, List.cons_append, List.nil_append, List.replicate_succ, List.replicate_zero, List.getElem?_cons_zero, List.getElem?_cons_succ, List.set_cons_zero, List.set_cons_succ, List.length_cons, List.length_nil, Nat.reduceSub, Nat.reduceAdd, Nat.reduceLeDiff, true_and, and_true, ne_eq, not_true_eq_false, not_false_eq_true, forall_const, wipeE, big0, big1, big2, big3, big4, big5, big6, big7, big8, big9, List.append_assoc, List.length_append, Nat.zero_add, Nat.add_zero, Nat.add_assoc, Nat.reduceAdd, List.length_append, List.length_take, List.length_drop]
  refine ⟨le_big (by omega), ?_⟩
  simp only [fSl, get_app hS, cut_drop ha, w_var, w_c, w_bin, w_un, w_dB, wt_and, wt_or, wt_not, w_if, w_andV, w_orV, w_notV, w_anil, w_acons, w_call, w_app, w_tup, w_lst, w_dict, w_onone, w_osome, w_sl, w_tru, w_chain, w_meth, w_lc, w_nop, w_brk, w_cnt, w_seq, w_ret, w_retN, w_drop, w_ifS, w_asg, w_gN, w_gN0, w_gT, w_gT0, w_gnil, w_gnil0, w_gcons, w_gnsnil0, w_gnscons0, w_gsub, w_par, w_par3, w_aug, w_for, w_range1, w_range2, w_seqI, w_enum, okO_some, okS_some, okV_some, okB_bl, okI_int, okT_tup, okC_some, okQ_tup, okO_newL, okO_if, okO_ifL, okS_if, ok2_two, ok3_three, f1, f2, br_true, br_false, br_dec, br_not, atI_0, atI_1, atI_2, atI_3, atI_4, Option.map_some, ok_val, List.map_cons, List.map_nil, List.cons_append, List.nil_append, List.replicate_succ, List.replicate_zero, List.getElem?_cons_zero, List.getElem?_cons_succ, List.set_cons_zero, List.set_cons_succ, List.length_cons, List.length_nil, Nat.reduceSub, Nat.reduceAdd, Nat.reduceLeDiff, true_and, and_true, ne_eq, not_true_eq_false, not_false_eq_true, forall_const, wipeE, big0, big1, big2, big3, big4, big5, big6, big7, big8, big9, List.append_assoc, List.length_append, Nat.zero_add, Nat.add_zero, Nat.add_assoc, Nat.reduceAdd, fAdd, e1, e2, List.length_append, List.length_take, List.length_drop]
  refine ⟨le_big (by omega), ?_⟩
  have lo2 : Ob.lo S.length (.lst (xs.take a ++ [d] ++ xs.drop a)) := by
    rw [lo_lst, loAll_iff]
    intro x hx
    simp only [List.mem_append, List.mem_singleton] at hx
    rcases hx with (h | h) | h
    · exact lo x (List.mem_of_mem_take h)
    · rw [h]; exact ld
    · exact lo x (List.mem_of_mem_drop h)
  rw [gc_new (o := .lst (xs.take a ++ [d] ++ xs.drop a)) (Neat.refl S) (by omega) (by rw [e2]; simp) lo2]
  exact hQ
end K68

set_option Elab.async false
set_option linter.all false
set_option maxRecDepth 100000
set_option maxHeartbeats 2000000
set_option autoImplicit false
namespace K68
open PySem PySem.Spec PyProof.Rows L2 Sh RX

abbrev nsD (l : List Nat) : List D := l.map fun x => D.int ((x : Nat) : Int)
theorem nsD_at {l : List Nat} {k : Nat} (h : k < l.length) : atI (nsD l) (k : Nat) = some (.int (l[k] : Nat)) := atI_nat rfl (by rw [List.getElem?_map, List.getElem?_eq_getElem h]; rfl)
theorem nsD_lo {l : List Nat} {k : Nat} : Ob.lo k (.lst (nsD l)) := la_map fun a _ => by rw [lo_int]; exact True.intro
theorem off_set {S : Sto} {i k : Nat} {X : Ob} {G : Sto} : (S.set i X ++ G)[S.length + k]? = G[k]? := by
  have := get_off (S := S.set i X) (T := G) (k := k)
  rwa [List.length_set] at this
theorem off_set0 {S : Sto} {i : Nat} {X : Ob} {G : Sto} : (S.set i X ++ G)[S.length]? = G[0]? := off_set (k := 0)
theorem off0 {S : Sto} {G : Sto} : (S ++ G)[S.length]? = G[0]? := get_off (k := 0)
theorem ring_ok {M : Mil} {S : Sto} {n : Nat} (h : MS M S) (hn1 : 1 ≤ n) (hn : n < 1000) {X : Ex → Sto → Prop} {Q : D → Sto → Prop}
    (hQ : ∀ (S' : Sto) (rs : List Nat), After M S S' → S'.length = S.length → rs ≠ [] → (∀ x ∈ rs, x < n) → rs.length ≤ n → Q (.loc S.length) (S' ++ [.lst (nsD rs)])) : (d_law_ring [.loc M.m, .int (n : Nat)] S).ok Q X := by
  have lt := h.lt
  unfold d_law_ring
  rw [w_fn]
  refine ⟨rfl, ?_⟩
  unfold d_law_ring_b
  simp only [w_var, w_c, w_bin, w_un, w_dB, wt_and, wt_or, wt_not, w_if, w_andV, w_orV, w_notV, w_anil, w_acons, w_call, w_app, w_tup, w_lst, w_dict, w_onone, w_osome, w_sl, w_tru, w_chain, w_meth, w_lc, w_nop, w_brk, w_cnt, w_seq, w_ret, w_retN, w_drop, w_ifS, w_asg, w_gN, w_gN0, w_gT, w_gT0, w_gnil, w_gnil0, w_gcons, w_gnsnil0, w_gnscons0, w_gsub, w_par, w_par3, w_aug, w_for, w_range1, w_range2, w_seqI, w_enum, okO_some, okS_some, okV_some, okB_bl, okI_int, okT_tup, okC_some, okQ_tup, okO_newL, okO_if, okO_ifL, okS_if, ok2_two, ok3_three, Sh.f1, Sh.f2, br_true, br_false, br_dec, br_not, atI_0, atI_1, atI_2, atI_3, atI_4, Option.map_some, ok_val, List.map_cons, List.map_nil, List.cons_append, List.nil_append, List.replicate_succ, List.replicate_zero, List.getElem?_cons_zero, List.getElem?_cons_succ, List.set_cons_zero, List.set_cons_succ, List.length_cons, List.length_nil, Nat.reduceSub, Nat.reduceAdd, Nat.reduceLeDiff, true_and, and_true, ne_eq, not_true_eq_false, not_false_eq_true, forall_const, wipeE, big0, big1, big2, big3, big4, big5, big6, big7, big8, big9]
  refine ⟨rgOk_nat (by omega), ?_⟩
  refine comp_pure (fun i => .int (i : Nat)) (le_big (by simp; omega)) (fun _ => True.intro) (fun i d acc hd => ?_) ?_
  · obtain ⟨hi, rfl⟩ := range_at hd
    simp only [w_var, w_c, w_bin, w_un, w_dB, wt_and, wt_or, wt_not, w_if, w_andV, w_orV, w_notV, w_anil, w_acons, w_call, w_app, w_tup, w_lst, w_dict, w_onone, w_osome, w_sl, w_tru, w_chain, w_meth, w_lc, w_nop, w_brk, w_cnt, w_seq, w_ret, w_retN, w_drop, w_ifS, w_asg, w_gN, w_gN0, w_gT, w_gT0, w_gnil, w_gnil0, w_gcons, w_gnsnil0, w_gnscons0, w_gsub, w_par, w_par3, w_aug, w_for, w_range1, w_range2, w_seqI, w_enum, okO_some, okS_some, okV_some, okB_bl, okI_int, okT_tup, okC_some, okQ_tup, okO_newL, okO_if, okO_ifL, okS_if, ok2_two, ok3_three, Sh.f1, Sh.f2, br_true, br_false, br_dec, br_not, atI_0, atI_1, atI_2, atI_3, atI_4, Option.map_some, ok_val, List.map_cons, List.map_nil, List.cons_append, List.nil_append, List.replicate_succ, List.replicate_zero, List.getElem?_cons_zero, List.getElem?_cons_succ, List.set_cons_zero, List.set_cons_succ, List.length_cons, List.length_nil, Nat.reduceSub, Nat.reduceAdd, Nat.reduceLeDiff, true_and, and_true, ne_eq, not_true_eq_false, not_false_eq_true, forall_const, wipeE, big0, big1, big2, big3, big4, big5, big6, big7, big8, big9, tYesD]
  · have ez : List.map (fun i => D.int ((i : Nat) : Int)) (List.range (List.map (fun i => D.int (0 + ((i : Nat) : Int))) (List.range (n : Int).toNat)).length) = nsD (List.range n) := by simp
    rw [ez]
    unfold d_law_ring_r4 d_law_ring_r3
    simp only [w_var, w_c, w_bin, w_un, w_dB, wt_and, wt_or, wt_not, w_if, w_andV, w_orV, w_notV, w_anil, w_acons, w_call, w_app, w_tup, w_lst, w_dict, w_onone, w_osome, w_sl, w_tru, w_chain, w_meth, w_lc, w_nop, w_brk, w_cnt, w_seq, w_ret, w_retN, w_drop, w_ifS, w_asg, w_gN, w_gN0, w_gT, w_gT0, w_gnil, w_gnil0, w_gcons, w_gnsnil0, w_gnscons0, w_gsub, w_par, w_par3, w_aug, w_for, w_range1, w_range2, w_seqI, w_enum, okO_some, okS_some, okV_some, okB_bl, okI_int, okT_tup, okC_some, okQ_tup, okO_newL, okO_if, okO_ifL, okS_if, ok2_two, ok3_three, Sh.f1, Sh.f2, br_true, br_false, br_dec, br_not, atI_0, atI_1, atI_2, atI_3, atI_4, Option.map_some, ok_val, List.map_cons, List.map_nil, List.cons_append, List.nil_append, List.replicate_succ, List.replicate_zero, List.getElem?_cons_zero, List.getElem?_cons_succ, List.set_cons_zero, List.set_cons_succ, List.length_cons, List.length_nil, Nat.reduceSub, Nat.reduceAdd, Nat.reduceLeDiff, true_and, and_true, ne_eq, not_true_eq_false, not_false_eq_true, forall_const, wipeE, big0, big1, big2, big3, big4, big5, big6, big7, big8, big9, List.append_assoc, List.length_append, Nat.zero_add, Nat.add_zero, Nat.add_assoc, Nat.reduceAdd]
    refine grind_ok' (h.app _) (by omega) (small (by omega)) fun r S1 hr hA hlen => ?_
    simp only [fAdd, w_var, w_c, w_bin, w_un, w_dB, wt_and, wt_or, wt_not, w_if, w_andV, w_orV, w_notV, w_anil, w_acons, w_call, w_app, w_tup, w_lst, w_dict, w_onone, w_osome, w_sl, w_tru, w_chain, w_meth, w_lc, w_nop, w_brk, w_cnt, w_seq, w_ret, w_retN, w_drop, w_ifS, w_asg, w_gN, w_gN0, w_gT, w_gT0, w_gnil, w_gnil0, w_gcons, w_gnsnil0, w_gnscons0, w_gsub, w_par, w_par3, w_aug, w_for, w_range1, w_range2, w_seqI, w_enum, okO_some, okS_some, okV_some, okB_bl, okI_int, okT_tup, okC_some, okQ_tup, okO_newL, okO_if, okO_ifL, okS_if, ok2_two, ok3_three, Sh.f1, Sh.f2, br_true, br_false, br_dec, br_not, atI_0, atI_1, atI_2, atI_3, atI_4, Option.map_some, ok_val, List.map_cons, List.map_nil, List.cons_append, List.nil_append, List.replicate_succ, List.replicate_zero, List.getElem?_cons_zero, List.getElem?_cons_succ, List.set_cons_zero, List.set_cons_succ, List.length_cons, List.length_nil, Nat.reduceSub, Nat.reduceAdd, Nat.reduceLeDiff, true_and, and_true, ne_eq, not_true_eq_false, not_false_eq_true, forall_const, wipeE, big0, big1, big2, big3, big4, big5, big6, big7, big8, big9]
    refine ⟨rgOk_of (by omega) (by omega), ?_⟩
    have er : (1 + (r : Int)).toNat = r + 1 := by omega
    rw [er]
    have hA0 : After M S (S ++ [Ob.lst (nsD (List.range n)), .lst []]) := (After.refl h).grow _
    have f0 : S1[S.length]? = some (.lst (nsD (List.range n))) := hA.get off0 (by omega)
    have f1 : S1[S.length + 1]? = some (.lst (nsD [])) := hA.get (get_off (k := 1)) (by omega)
    refine for_ix (fun i env S' => i ≤ r + 1 ∧ ∃ lf ls rs a4 a5 a6, env = [some (.loc M.m), some (.int (n : Nat)), some (.loc lf), some (.loc (S.length + 1)), a4, a5, a6] ∧ After M S S' ∧ S'[lf]? = some (.lst (nsD ls)) ∧ S.length ≤ lf ∧ lf ≠ S.length + 1 ∧
        S'[S.length + 1]? = some (.lst (nsD rs)) ∧ ls.length + i = n ∧ rs.length = i ∧ (∀ x ∈ ls, x < n) ∧ ∀ x ∈ rs, x < n)
      (fun _ _ _ _ => True.intro) ⟨Nat.zero_le _, S.length, List.range n, [], none, none, none, rfl, hA0.trans hA, f0, Nat.le_refl _, by omega, f1, by simp, rfl, fun x hx => List.mem_range.mp hx, fun x hx => (by cases hx)⟩ ?_ ?_
    · rintro env S' ⟨_, lf, ls, rs, a4, a5, a6, rfl, hA', h1, h2, h3, h4, h5, h6, h7, h8⟩
      have eL : ({ items := List.map (fun i => D.int (0 + ((i : Nat) : Int))) (List.range (r + 1)), root := none } : Iter).items.length = r + 1 := by simp
      rw [eL] at h5 h6
      simp only [w_var, w_c, w_bin, w_un, w_dB, wt_and, wt_or, wt_not, w_if, w_andV, w_orV, w_notV, w_anil, w_acons, w_call, w_app, w_tup, w_lst, w_dict, w_onone, w_osome, w_sl, w_tru, w_chain, w_meth, w_lc, w_nop, w_brk, w_cnt, w_seq, w_ret, w_retN, w_drop, w_ifS, w_asg, w_gN, w_gN0, w_gT, w_gT0, w_gnil, w_gnil0, w_gcons, w_gnsnil0, w_gnscons0, w_gsub, w_par, w_par3, w_aug, w_for, w_range1, w_range2, w_seqI, w_enum, okO_some, okS_some, okV_some, okB_bl, okI_int, okT_tup, okC_some, okQ_tup, okO_newL, okO_if, okO_ifL, okS_if, ok2_two, ok3_three, Sh.f1, Sh.f2, br_true, br_false, br_dec, br_not, atI_0, atI_1, atI_2, atI_3, atI_4, Option.map_some, ok_val, List.map_cons, List.map_nil, List.cons_append, List.nil_append, List.replicate_succ, List.replicate_zero, List.getElem?_cons_zero, List.getElem?_cons_succ, List.set_cons_zero, List.set_cons_succ, List.length_cons, List.length_nil, Nat.reduceSub, Nat.reduceAdd, Nat.reduceLeDiff, true_and, and_true, ne_eq, not_true_eq_false, not_false_eq_true, forall_const, wipeE, big0, big1, big2, big3, big4, big5, big6, big7, big8, big9]
      obtain ⟨S2, e2, hA2, hl2⟩ := hA'.new (l := S.length + 1) (by omega) h4 nsD_lo
      rw [e2]
      exact hQ S2 rs hA2 hl2 (fun z => by rw [z] at h6; simp at h6) h8 (by omega)
    · rintro i d env S' hd ⟨_, lf, ls, rs, a4, a5, a6, rfl, hA', h1, h2, h3, h4, h5, h6, h7, h8⟩
      obtain ⟨hi, rfl⟩ := range_at hd
      simp only [w_var, w_c, w_bin, w_un, w_dB, wt_and, wt_or, wt_not, w_if, w_andV, w_orV, w_notV, w_anil, w_acons, w_call, w_app, w_tup, w_lst, w_dict, w_onone, w_osome, w_sl, w_tru, w_chain, w_meth, w_lc, w_nop, w_brk, w_cnt, w_seq, w_ret, w_retN, w_drop, w_ifS, w_asg, w_gN, w_gN0, w_gT, w_gT0, w_gnil, w_gnil0, w_gcons, w_gnsnil0, w_gnscons0, w_gsub, w_par, w_par3, w_aug, w_for, w_range1, w_range2, w_seqI, w_enum, okO_some, okS_some, okV_some, okB_bl, okI_int, okT_tup, okC_some, okQ_tup, okO_newL, okO_if, okO_ifL, okS_if, ok2_two, ok3_three, Sh.f1, Sh.f2, br_true, br_false, br_dec, br_not, atI_0, atI_1, atI_2, atI_3, atI_4, Option.map_some, ok_val, List.map_cons, List.map_nil, List.cons_append, List.nil_append, List.replicate_succ, List.replicate_zero, List.getElem?_cons_zero, List.getElem?_cons_succ, List.set_cons_zero, List.set_cons_succ, List.length_cons, List.length_nil, Nat.reduceSub, Nat.reduceAdd, Nat.reduceLeDiff, true_and, and_true, ne_eq, not_true_eq_false, not_false_eq_true, forall_const, wipeE, big0, big1, big2, big3, big4, big5, big6, big7, big8, big9, d_law_ring_l2, fLen, h1, List.length_map]
      have hlp : 0 < ls.length := by omega
      refine grind_ok' hA'.ms (by omega) (small (by omega)) fun at_ S2 hat hA2 hl2 => ?_
      have hat : at_ < ls.length := by omega
      have k1 : S2[lf]? = some (.lst (nsD ls)) := hA2.get h1 (by omega)
      have k2 : S2[S.length + 1]? = some (.lst (nsD rs)) := hA2.get h4 (by omega)
      have k3 : ∀ X G, (S2.set (S.length + 1) X ++ G)[lf]? = some (.lst (nsD ls)) := fun X G => get_app (by rw [get_set_ne (by omega)]; exact k1)
      have k4 : ∀ X, (S2.set (S.length + 1) X)[lf]? = some (.lst (nsD ls)) := fun X => by rw [get_set_ne (by omega)]; exact k1
      have b1 : (nsD rs).length < big := lt_big (by simp; omega)
      have c1 : at_ ≤ (nsD ls).length := by simp; omega
      have c2 : at_ + 1 ≤ (nsD ls).length := by simp; omega
      have c3 : Sh.cutD (nsD ls) (some ((at_ : Int) + 1)) none = (nsD ls).drop (at_ + 1) := cut_drop c2
      simp only [w_var, w_c, w_bin, w_un, w_dB, wt_and, wt_or, wt_not, w_if, w_andV, w_orV, w_notV, w_anil, w_acons, w_call, w_app, w_tup, w_lst, w_dict, w_onone, w_osome, w_sl, w_tru, w_chain, w_meth, w_lc, w_nop, w_brk, w_cnt, w_seq, w_ret, w_retN, w_drop, w_ifS, w_asg, w_gN, w_gN0, w_gT, w_gT0, w_gnil, w_gnil0, w_gcons, w_gnsnil0, w_gnscons0, w_gsub, w_par, w_par3, w_aug, w_for, w_range1, w_range2, w_seqI, w_enum, okO_some, okS_some, okV_some, okB_bl, okI_int, okT_tup, okC_some, okQ_tup, okO_newL, okO_if, okO_ifL, okS_if, ok2_two, ok3_three, Sh.f1, Sh.f2, br_true, br_false, br_dec, br_not, atI_0, atI_1, atI_2, atI_3, atI_4, Option.map_some, ok_val, List.map_cons, List.map_nil, List.cons_append, List.nil_append, List.replicate_succ, List.replicate_zero, List.getElem?_cons_zero, List.getElem?_cons_succ, List.set_cons_zero, List.set_cons_succ, List.length_cons, List.length_nil, Nat.reduceSub, Nat.reduceAdd, Nat.reduceLeDiff, true_and, and_true, ne_eq, not_true_eq_false, not_false_eq_true, forall_const, wipeE, big0, big1, big2, big3, big4, big5, big6, big7, big8, big9, List.append_assoc, List.length_append, Nat.zero_add, Nat.add_zero, Nat.add_assoc, Nat.reduceAdd, d_law_ring_r1, isL, lstAt, k2, Option.isSome_some, fIx, k1, nsD_at hat, fAppend, b1, if_true, fSl, k4, k3, cut_take c1, fAdd, c3, List.length_set, off_set, off_set0, List.length_map, List.length_take, List.length_drop]
      refine ⟨lt_big (by omega), le_big (by omega), by omega, S2.length + 2, ls.take at_ ++ ls.drop (at_ + 1), rs ++ [ls[at_]], _, _, _, rfl, ?_, ?_, ?_, ?_, ?_, ?_, ?_, ?_, ?_⟩
      · exact ((hA'.trans hA2).set (by omega) _).grow _
      · simp only [off_set]
        simp
      · have := hA'.len; omega
      · have := lt_of_get k2; omega
      · rw [List.getElem?_append_left (by rw [List.length_set]; exact lt_of_get k2)]
        rw [get_set (lt_of_get k2)]
        simp
      · simp; omega
      · simp; omega
      · intro x hx
        rcases List.mem_append.mp hx with h | h
        · exact h7 x (List.mem_of_mem_take h)
        · exact h7 x (List.mem_of_mem_drop h)
      · intro x hx
        rcases List.mem_append.mp hx with h | h
        · exact h8 x h
        · simp at h
          rw [h]
          exact h7 _ (List.getElem_mem hat)
end K68

set_option Elab.async false
set_option linter.all false
set_option maxRecDepth 100000
set_option maxHeartbeats 4000000
set_option autoImplicit false
namespace K68
open PySem PySem.Spec PyProof.Rows L2 Sh RX

abbrev isD (l : List Int) : List D := l.map D.int
theorem isD_at {l : List Int} {k : Nat} (h : k < l.length) : atI (isD l) (k : Nat) = some (.int (l.getD k 0)) := atI_nat rfl (by rw [List.getElem?_map, List.getElem?_eq_getElem h]; simp [List.getD_eq_getElem?_getD, h])
/-- an edge that the heights allow -/
def EdOk (n : Nat) (hs : List Int) (e : Ed) : Prop := e.1 < n ∧ e.2.1 < n ∧ hs.getD e.2.1 0 ≤ hs.getD e.1 0 + e.2.2
/-- the ring's edges -/
def tightE (hs : List Int) (rs : List Nat) (k : Nat) : Ed := (rs.getD (if k = 0 then rs.length - 1 else k - 1) 0, rs.getD k 0, hs.getD (rs.getD k 0) 0 - hs.getD (rs.getD (if k = 0 then rs.length - 1 else k - 1) 0) 0)
structure Calm (n : Nat) (hs : List Int) (E : List Ed) (t : Ed) : Prop where
  hl : hs.length = n
  ok : ∀ e ∈ E, EdOk n hs e
  el : E.length ≤ 5 * n + 5
  ring : ∃ rs : List Nat, rs ≠ [] ∧ (∀ x ∈ rs, x < n) ∧ (∀ k, k < rs.length → tightE hs rs k ∈ E) ∧ ∃ k, k < rs.length ∧ t = tightE hs rs k
theorem eD_lo {e : Ed} {k : Nat} : (eD e).lo k := by rw [eD, lo_tup]; simp [la_cons, la_nil, lo_int]
/-- one more edge -/
theorem calm_l3 {M : Mil} {S S' : Sto} {n el rl : Nat} {great : Int} {hs : List Int} {E : List Ed} {a6 a7 a8 a9 a10 a11 a12 : Option D} (hn1 : 1 ≤ n) (hn : n < 1000) (hg : 0 < great) (hg2 : great.natAbs < 2 ^ 100) (hhs : hs.length = n)
    (hA : After M S S') (h1 : S'[S.length]? = some (.lst (isD hs))) (h3 : S'[el]? = some (.lst (esD E))) (hel : S.length < el) (hEl : E.length < 5000) {P : Po} {N : En → Sto → Prop}
    (hN : ∀ (S2 : Sto) (e : Ed) (a7 a8 a9 : Option D), After M S S2 → (∀ k o, S.length ≤ k → k ≠ el → S'[k]? = some o → S2[k]? = some o) → S2[el]? = some (.lst (esD (E ++ [e]))) → EdOk n hs e →
      N [some (.loc M.m), some (.int (n : Nat)), some (.int great), some (.loc S.length), some (.loc rl), some (.loc el), a6, a7, a8, a9, a10, a11, a12] S2) :
    (d_law_calm_l3 [some (.loc M.m), some (.int (n : Nat)), some (.int great), some (.loc S.length), some (.loc rl), some (.loc el), a6, a7, a8, a9, a10, a11, a12] S').ok N P := by
  have lt := hA.ms0.lt
  unfold d_law_calm_l3 d_law_calm_r2
  simp only [w_var, w_c, w_bin, w_un, w_dB, wt_and, wt_or, wt_not, w_if, w_andV, w_orV, w_notV, w_anil, w_acons, w_call, w_app, w_tup, w_lst, w_dict, w_onone, w_osome, w_sl, w_tru, w_chain, w_meth, w_lc, w_nop, w_brk, w_cnt, w_seq, w_ret, w_retN, w_drop, w_ifS, w_asg, w_gN, w_gN0, w_gT, w_gT0, w_gnil, w_gnil0, w_gcons, w_gnsnil0, w_gnscons0, w_gsub, w_par, w_par3, w_aug, w_for, w_range1, w_range2, w_seqI, w_enum, okO_some, okS_some, okV_some, okB_bl, okI_int, okT_tup, okC_some, okQ_tup, okO_newL, okO_if, okO_ifL, okS_if, ok2_two, ok3_three, Sh.f1, Sh.f2, br_true, br_false, br_dec, br_not, atI_0, atI_1, atI_2, atI_3, atI_4, Option.map_some, ok_val, List.map_cons, List.map_nil, List.cons_append, List.nil_append, List.replicate_succ, List.replicate_zero, List.getElem?_cons_zero, List.getElem?_cons_succ, List.set_cons_zero, List.set_cons_succ, List.length_cons, List.length_nil, Nat.reduceSub, Nat.reduceAdd, Nat.reduceLeDiff, true_and, and_true, ne_eq, not_true_eq_false, not_false_eq_true, forall_const, wipeE, big0, big1, big2, big3, big4, big5, big6, big7, big8, big9]
  refine grind_ok' hA.ms (by omega) (small (by omega)) fun one S1 ho hA1 hl1 => ?_
  refine grind_ok' hA1.ms (by omega) (small (by omega)) fun other S2 hoth hA2 hl2 => ?_
  unfold d_law_calm_r1
  simp only [w_var, w_c, w_bin, w_un, w_dB, wt_and, wt_or, wt_not, w_if, w_andV, w_orV, w_notV, w_anil, w_acons, w_call, w_app, w_tup, w_lst, w_dict, w_onone, w_osome, w_sl, w_tru, w_chain, w_meth, w_lc, w_nop, w_brk, w_cnt, w_seq, w_ret, w_retN, w_drop, w_ifS, w_asg, w_gN, w_gN0, w_gT, w_gT0, w_gnil, w_gnil0, w_gcons, w_gnsnil0, w_gnscons0, w_gsub, w_par, w_par3, w_aug, w_for, w_range1, w_range2, w_seqI, w_enum, okO_some, okS_some, okV_some, okB_bl, okI_int, okT_tup, okC_some, okQ_tup, okO_newL, okO_if, okO_ifL, okS_if, ok2_two, ok3_three, Sh.f1, Sh.f2, br_true, br_false, br_dec, br_not, atI_0, atI_1, atI_2, atI_3, atI_4, Option.map_some, ok_val, List.map_cons, List.map_nil, List.cons_append, List.nil_append, List.replicate_succ, List.replicate_zero, List.getElem?_cons_zero, List.getElem?_cons_succ, List.set_cons_zero, List.set_cons_succ, List.length_cons, List.length_nil, Nat.reduceSub, Nat.reduceAdd, Nat.reduceLeDiff, true_and, and_true, ne_eq, not_true_eq_false, not_false_eq_true, forall_const, wipeE, big0, big1, big2, big3, big4, big5, big6, big7, big8, big9, List.append_assoc, List.length_append, Nat.zero_add, Nat.add_zero, Nat.add_assoc, Nat.reduceAdd]
  refine grind_ok' (hA2.ms.app _) (by decide) (small (by decide)) fun pick S3 hp hA3 hl3 => ?_
  have g1 : S3[S2.length]? = some (.lst [.int 1, .int 2, .int 5, .int great]) := hA3.get off0 (by have := hA2.ms.lt; omega)
  have hpick : ∃ k : Int, 0 < k ∧ k.natAbs < 2 ^ 100 ∧ atI [D.int 1, .int 2, .int 5, .int great] (pick : Nat) = some (.int k) := by
    have : pick = 0 ∨ pick = 1 ∨ pick = 2 ∨ pick = 3 := by omega
    rcases this with rfl | rfl | rfl | rfl
    · exact ⟨1, by decide, by decide, rfl⟩
    · exact ⟨2, by decide, by decide, rfl⟩
    · exact ⟨5, by decide, by decide, rfl⟩
    · exact ⟨great, hg, hg2, rfl⟩
  obtain ⟨kk, hk0, hk1, hk2⟩ := hpick
  simp only [fIx, g1, hk2, w_var, w_c, w_bin, w_un, w_dB, wt_and, wt_or, wt_not, w_if, w_andV, w_orV, w_notV, w_anil, w_acons, w_call, w_app, w_tup, w_lst, w_dict, w_onone, w_osome, w_sl, w_tru, w_chain, w_meth, w_lc, w_nop, w_brk, w_cnt, w_seq, w_ret, w_retN, w_drop, w_ifS, w_asg, w_gN, w_gN0, w_gT, w_gT0, w_gnil, w_gnil0, w_gcons, w_gnsnil0, w_gnscons0, w_gsub, w_par, w_par3, w_aug, w_for, w_range1, w_range2, w_seqI, w_enum, okO_some, okS_some, okV_some, okB_bl, okI_int, okT_tup, okC_some, okQ_tup, okO_newL, okO_if, okO_ifL, okS_if, ok2_two, ok3_three, Sh.f1, Sh.f2, br_true, br_false, br_dec, br_not, atI_0, atI_1, atI_2, atI_3, atI_4, Option.map_some, ok_val, List.map_cons, List.map_nil, List.cons_append, List.nil_append, List.replicate_succ, List.replicate_zero, List.getElem?_cons_zero, List.getElem?_cons_succ, List.set_cons_zero, List.set_cons_succ, List.length_cons, List.length_nil, Nat.reduceSub, Nat.reduceAdd, Nat.reduceLeDiff, true_and, and_true, ne_eq, not_true_eq_false, not_false_eq_true, forall_const, wipeE, big0, big1, big2, big3, big4, big5, big6, big7, big8, big9]
  refine grind_ok' hA3.ms hk0 hk1 fun slack S4 hsl hA4 hl4 => ?_
  have A4 : After M S S4 := (((hA.trans hA1).trans hA2).grow _).trans (hA3.trans hA4)
  have tr : ∀ k o, S.length ≤ k → S'[k]? = some o → S4[k]? = some o := fun k o hk e =>
    hA4.get (hA3.get (get_app (hA2.get (hA1.get e (by omega)) (by omega))) (by omega)) (by omega)
  have t1 := tr _ _ (Nat.le_refl _) h1
  have t3 := tr _ _ (Nat.le_of_lt hel) h3
  have b1 : (esD E).length < big := lt_big (by simp; omega)
  simp only [isL, lstAt, t3, Option.isSome_some, fIx, t1, isD_at (show one < hs.length by omega), isD_at (show other < hs.length by omega), fSub, fInt, if_true, fAdd, fAppend, b1, w_var, w_c, w_bin, w_un, w_dB, wt_and, wt_or, wt_not, w_if, w_andV, w_orV, w_notV, w_anil, w_acons, w_call, w_app, w_tup, w_lst, w_dict, w_onone, w_osome, w_sl, w_tru, w_chain, w_meth, w_lc, w_nop, w_brk, w_cnt, w_seq, w_ret, w_retN, w_drop, w_ifS, w_asg, w_gN, w_gN0, w_gT, w_gT0, w_gnil, w_gnil0, w_gcons, w_gnsnil0, w_gnscons0, w_gsub, w_par, w_par3, w_aug, w_for, w_range1, w_range2, w_seqI, w_enum, okO_some, okS_some, okV_some, okB_bl, okI_int, okT_tup, okC_some, okQ_tup, okO_newL, okO_if, okO_ifL, okS_if, ok2_two, ok3_three, Sh.f1, Sh.f2, br_true, br_false, br_dec, br_not, atI_0, atI_1, atI_2, atI_3, atI_4, Option.map_some, ok_val, List.map_cons, List.map_nil, List.cons_append, List.nil_append, List.replicate_succ, List.replicate_zero, List.getElem?_cons_zero, List.getElem?_cons_succ, List.set_cons_zero, List.set_cons_succ, List.length_cons, List.length_nil, Nat.reduceSub, Nat.reduceAdd, Nat.reduceLeDiff, true_and, and_true, ne_eq, not_true_eq_false, not_false_eq_true, forall_const, wipeE, big0, big1, big2, big3, big4, big5, big6, big7, big8, big9]
  refine hN _ (one, other, hs.getD other 0 - hs.getD one 0 + slack) _ _ _ (A4.set (by omega) _) (fun k o hk hne e => ?_) ?_ ⟨by simp; omega, by simp; omega, by simp only; omega⟩
  · rw [get_set_ne (Ne.symm hne)]
    exact tr k o hk e
  · rw [get_set (lt_of_get t3)]
    simp [eD]
end K68

set_option Elab.async false
set_option linter.all false
set_option maxRecDepth 100000
set_option maxHeartbeats 4000000
set_option autoImplicit false
namespace K68
open PySem PySem.Spec PyProof.Rows L2 Sh RX

theorem isD_lo {l : List Int} {k : Nat} : Ob.lo k (.lst (isD l)) := la_map fun a _ => by rw [lo_int]; exact True.intro
theorem esD_lo {E : List Ed} {k : Nat} : ∀ x ∈ esD E, x.lo k := fun x hx => by
  obtain ⟨e, _, rfl⟩ := List.mem_map.mp hx
  exact eD_lo
theorem tight_ok {n : Nat} {hs : List Int} {rs : List Nat} (hr : ∀ x ∈ rs, x < n) {k : Nat} (hk : k < rs.length) : EdOk n hs (tightE hs rs k) := by
  have g : ∀ j, j < rs.length → rs.getD j 0 < n := fun j hj => by
    rw [List.getD_eq_getElem?_getD, List.getElem?_eq_getElem hj]
    exact hr _ (List.getElem_mem hj)
  refine ⟨g _ (by split <;> omega), g _ hk, ?_⟩
  unfold tightE
  simp only
  omega
theorem calm_ok {M : Mil} {S : Sto} {n : Nat} {great : Int} (h : MS M S) (hn1 : 1 ≤ n) (hn : n < 200) (hg : 0 < great) (hg2 : great.natAbs < 2 ^ 100) {X : Ex → Sto → Prop} {Q : D → Sto → Prop}
    (hQ : ∀ (S' : Sto) (l hl el : Nat) (hs : List Int) (E : List Ed) (t : Ed), After M S S' → S.length ≤ l → S.length ≤ hl → S.length ≤ el → S'[l]? = some (.lst [.loc hl, .loc el, eD t]) → S'[hl]? = some (.lst (isD hs)) → S'[el]? = some (.lst (esD E)) → Calm n hs E t → Q (.loc l) S') :
    (d_law_calm [.loc M.m, .int (n : Nat), .int great] S).ok Q X := by
  have lt := h.lt
  unfold d_law_calm
  rw [w_fn]
  refine ⟨rfl, ?_⟩
  unfold d_law_calm_b
  simp only [w_var, w_c, w_bin, w_un, w_dB, wt_and, wt_or, wt_not, w_if, w_andV, w_orV, w_notV, w_anil, w_acons, w_call, w_app, w_tup, w_lst, w_dict, w_onone, w_osome, w_sl, w_tru, w_chain, w_meth, w_lc, w_nop, w_brk, w_cnt, w_seq, w_ret, w_retN, w_drop, w_ifS, w_asg, w_gN, w_gN0, w_gT, w_gT0, w_gnil, w_gnil0, w_gcons, w_gnsnil0, w_gnscons0, w_gsub, w_par, w_par3, w_aug, w_for, w_range1, w_range2, w_seqI, w_enum, okO_some, okS_some, okV_some, okB_bl, okI_int, okT_tup, okC_some, okQ_tup, okO_newL, okO_if, okO_ifL, okS_if, ok2_two, ok3_three, Sh.f1, Sh.f2, br_true, br_false, br_dec, br_not, atI_0, atI_1, atI_2, atI_3, atI_4, Option.map_some, ok_val, List.map_cons, List.map_nil, List.cons_append, List.nil_append, List.replicate_succ, List.replicate_zero, List.getElem?_cons_zero, List.getElem?_cons_succ, List.set_cons_zero, List.set_cons_succ, List.length_cons, List.length_nil, Nat.reduceSub, Nat.reduceAdd, Nat.reduceLeDiff, true_and, and_true, ne_eq, not_true_eq_false, not_false_eq_true, forall_const, wipeE, big0, big1, big2, big3, big4, big5, big6, big7, big8, big9]
  refine ⟨rgOk_nat (by omega), ?_⟩
  refine ok_mono (comp_ix (fun i s => After M S s ∧ ∃ hs : List Int, s[S.length]? = some (.lst (isD hs)) ∧ hs.length = i) (fun _ _ _ => True.intro) ⟨(After.refl h).grow _, [], off0, rfl⟩ fun i d s hd hi => ?_) fun _ S1 h1 => ?_
  · obtain ⟨hA, hs, f1', f2'⟩ := hi
    obtain ⟨hi, rfl⟩ := range_at hd
    simp only [w_var, w_c, w_bin, w_un, w_dB, wt_and, wt_or, wt_not, w_if, w_andV, w_orV, w_notV, w_anil, w_acons, w_call, w_app, w_tup, w_lst, w_dict, w_onone, w_osome, w_sl, w_tru, w_chain, w_meth, w_lc, w_nop, w_brk, w_cnt, w_seq, w_ret, w_retN, w_drop, w_ifS, w_asg, w_gN, w_gN0, w_gT, w_gT0, w_gnil, w_gnil0, w_gcons, w_gnsnil0, w_gnscons0, w_gsub, w_par, w_par3, w_aug, w_for, w_range1, w_range2, w_seqI, w_enum, okO_some, okS_some, okV_some, okB_bl, okI_int, okT_tup, okC_some, okQ_tup, okO_newL, okO_if, okO_ifL, okS_if, ok2_two, ok3_three, Sh.f1, Sh.f2, br_true, br_false, br_dec, br_not, atI_0, atI_1, atI_2, atI_3, atI_4, Option.map_some, ok_val, List.map_cons, List.map_nil, List.cons_append, List.nil_append, List.replicate_succ, List.replicate_zero, List.getElem?_cons_zero, List.getElem?_cons_succ, List.set_cons_zero, List.set_cons_succ, List.length_cons, List.length_nil, Nat.reduceSub, Nat.reduceAdd, Nat.reduceLeDiff, true_and, and_true, ne_eq, not_true_eq_false, not_false_eq_true, forall_const, wipeE, big0, big1, big2, big3, big4, big5, big6, big7, big8, big9, tYesD]
    refine grind_ok' hA.ms hg hg2 fun r s2 hr hA2 hl2 => ?_
    simp only [fDiv, fSub, fInt, w_var, w_c, w_bin, w_un, w_dB, wt_and, wt_or, wt_not, w_if, w_andV, w_orV, w_notV, w_anil, w_acons, w_call, w_app, w_tup, w_lst, w_dict, w_onone, w_osome, w_sl, w_tru, w_chain, w_meth, w_lc, w_nop, w_brk, w_cnt, w_seq, w_ret, w_retN, w_drop, w_ifS, w_asg, w_gN, w_gN0, w_gT, w_gT0, w_gnil, w_gnil0, w_gcons, w_gnsnil0, w_gnscons0, w_gsub, w_par, w_par3, w_aug, w_for, w_range1, w_range2, w_seqI, w_enum, okO_some, okS_some, okV_some, okB_bl, okI_int, okT_tup, okC_some, okQ_tup, okO_newL, okO_if, okO_ifL, okS_if, ok2_two, ok3_three, Sh.f1, Sh.f2, br_true, br_false, br_dec, br_not, atI_0, atI_1, atI_2, atI_3, atI_4, Option.map_some, ok_val, List.map_cons, List.map_nil, List.cons_append, List.nil_append, List.replicate_succ, List.replicate_zero, List.getElem?_cons_zero, List.getElem?_cons_succ, List.set_cons_zero, List.set_cons_succ, List.length_cons, List.length_nil, Nat.reduceSub, Nat.reduceAdd, Nat.reduceLeDiff, true_and, and_true, ne_eq, not_true_eq_false, not_false_eq_true, forall_const, wipeE, big0, big1, big2, big3, big4, big5, big6, big7, big8, big9, if_true]
    refine ⟨divOk (by decide) (by decide), ?_⟩
    refine ⟨isD hs, hA2.get f1' (by omega), lt_big (by simp; omega), (hA.trans hA2).set (Nat.le_refl _) _, hs ++ [(r : Int) - great.fdiv 2], ?_, by simp; omega⟩
    rw [get_set (lt_of_get (hA2.get f1' (by omega)))]
    simp
  have h1 : After M S S1 ∧ ∃ hs : List Int, S1[S.length]? = some (.lst (isD hs)) ∧ hs.length = (List.map (fun i => D.int (0 + ((i : Nat) : Int))) (List.range (n : Int).toNat)).length := h1
  have hA1 := h1.1
  refine Exists.elim h1.2 fun hs hx => ?_
  have hh := hx.1
  have hhl : hs.length = n := by simpa using hx.2
  unfold d_law_calm_r12
  simp only [w_var, w_c, w_bin, w_un, w_dB, wt_and, wt_or, wt_not, w_if, w_andV, w_orV, w_notV, w_anil, w_acons, w_call, w_app, w_tup, w_lst, w_dict, w_onone, w_osome, w_sl, w_tru, w_chain, w_meth, w_lc, w_nop, w_brk, w_cnt, w_seq, w_ret, w_retN, w_drop, w_ifS, w_asg, w_gN, w_gN0, w_gT, w_gT0, w_gnil, w_gnil0, w_gcons, w_gnsnil0, w_gnscons0, w_gsub, w_par, w_par3, w_aug, w_for, w_range1, w_range2, w_seqI, w_enum, okO_some, okS_some, okV_some, okB_bl, okI_int, okT_tup, okC_some, okQ_tup, okO_newL, okO_if, okO_ifL, okS_if, ok2_two, ok3_three, Sh.f1, Sh.f2, br_true, br_false, br_dec, br_not, atI_0, atI_1, atI_2, atI_3, atI_4, Option.map_some, ok_val, List.map_cons, List.map_nil, List.cons_append, List.nil_append, List.replicate_succ, List.replicate_zero, List.getElem?_cons_zero, List.getElem?_cons_succ, List.set_cons_zero, List.set_cons_succ, List.length_cons, List.length_nil, Nat.reduceSub, Nat.reduceAdd, Nat.reduceLeDiff, true_and, and_true, ne_eq, not_true_eq_false, not_false_eq_true, forall_const, wipeE, big0, big1, big2, big3, big4, big5, big6, big7, big8, big9]
  refine ring_ok hA1.ms hn1 (by omega) fun S2 rs hA2 hl2 hne hrs hrl => ?_
  unfold d_law_calm_r11 d_law_calm_r10
  simp only [w_var, w_c, w_bin, w_un, w_dB, wt_and, wt_or, wt_not, w_if, w_andV, w_orV, w_notV, w_anil, w_acons, w_call, w_app, w_tup, w_lst, w_dict, w_onone, w_osome, w_sl, w_tru, w_chain, w_meth, w_lc, w_nop, w_brk, w_cnt, w_seq, w_ret, w_retN, w_drop, w_ifS, w_asg, w_gN, w_gN0, w_gT, w_gT0, w_gnil, w_gnil0, w_gcons, w_gnsnil0, w_gnscons0, w_gsub, w_par, w_par3, w_aug, w_for, w_range1, w_range2, w_seqI, w_enum, okO_some, okS_some, okV_some, okB_bl, okI_int, okT_tup, okC_some, okQ_tup, okO_newL, okO_if, okO_ifL, okS_if, ok2_two, ok3_three, Sh.f1, Sh.f2, br_true, br_false, br_dec, br_not, atI_0, atI_1, atI_2, atI_3, atI_4, Option.map_some, ok_val, List.map_cons, List.map_nil, List.cons_append, List.nil_append, List.replicate_succ, List.replicate_zero, List.getElem?_cons_zero, List.getElem?_cons_succ, List.set_cons_zero, List.set_cons_succ, List.length_cons, List.length_nil, Nat.reduceSub, Nat.reduceAdd, Nat.reduceLeDiff, true_and, and_true, ne_eq, not_true_eq_false, not_false_eq_true, forall_const, wipeE, big0, big1, big2, big3, big4, big5, big6, big7, big8, big9, List.append_assoc, List.length_append, Nat.zero_add, Nat.add_zero, Nat.add_assoc, Nat.reduceAdd, fMul, fInt, fAdd]
  refine ⟨mulOk_l (by decide), ?_⟩
  refine grind_ok' (hA2.ms.app _) (by omega) (small (by omega)) fun r S3 hr hA3 hl3 => ?_
  refine ⟨rgOk_of (by omega) (by omega), ?_⟩
  rw [Int.toNat_natCast]
  have hl1 := hA1.len
  have lt1 : S.length < S1.length := lt_of_get hh
  have A3 : After M S S3 := ((hA1.trans hA2).grow _).trans hA3
  have b1 : S3[S.length]? = some (.lst (isD hs)) := hA3.get (get_app (hA2.get hh (by omega))) (by omega)
  have b2 : S3[S1.length]? = some (.lst (nsD rs)) := hA3.get (by rw [← hl2]; exact off0) (by omega)
  have b3 : S3[S2.length + 1]? = some (.lst (esD [])) := hA3.get (get_off (k := 1)) (by omega)
  generalize hrlv : S1.length = rl at *
  generalize helv : S2.length + 1 = el at *
  refine for_ix (fun i env S' => ∃ E a6 a7 a8 a9 a10 a11 a12, env = [some (.loc M.m), some (.int (n : Nat)), some (.int great), some (.loc S.length), some (.loc rl), some (.loc el), a6, a7, a8, a9, a10, a11, a12] ∧ After M S S' ∧ S'[S.length]? = some (.lst (isD hs)) ∧
      S'[rl]? = some (.lst (nsD rs)) ∧ S'[el]? = some (.lst (esD E)) ∧ E.length = i ∧ ∀ e ∈ E, EdOk n hs e) (fun _ _ _ _ => True.intro) ⟨[], _, _, _, _, _, _, _, rfl, A3, b1, b2, b3, rfl, fun e he => (by cases he)⟩ ?_ ?_
  · rintro env S' ⟨E, a6, a7, a8, a9, a10, a11, a12, rfl, hA', c1, c2, c3, c4, c5⟩
    have eL : ({ items := List.map (fun i => D.int (0 + ((i : Nat) : Int))) (List.range r), root := none } : Iter).items.length = r := by simp
    rw [eL] at c4
    unfold d_law_calm_r9 d_law_calm_r8
    simp only [w_var, w_c, w_bin, w_un, w_dB, wt_and, wt_or, wt_not, w_if, w_andV, w_orV, w_notV, w_anil, w_acons, w_call, w_app, w_tup, w_lst, w_dict, w_onone, w_osome, w_sl, w_tru, w_chain, w_meth, w_lc, w_nop, w_brk, w_cnt, w_seq, w_ret, w_retN, w_drop, w_ifS, w_asg, w_gN, w_gN0, w_gT, w_gT0, w_gnil, w_gnil0, w_gcons, w_gnsnil0, w_gnscons0, w_gsub, w_par, w_par3, w_aug, w_for, w_range1, w_range2, w_seqI, w_enum, okO_some, okS_some, okV_some, okB_bl, okI_int, okT_tup, okC_some, okQ_tup, okO_newL, okO_if, okO_ifL, okS_if, ok2_two, ok3_three, Sh.f1, Sh.f2, br_true, br_false, br_dec, br_not, atI_0, atI_1, atI_2, atI_3, atI_4, Option.map_some, ok_val, List.map_cons, List.map_nil, List.cons_append, List.nil_append, List.replicate_succ, List.replicate_zero, List.getElem?_cons_zero, List.getElem?_cons_succ, List.set_cons_zero, List.set_cons_succ, List.length_cons, List.length_nil, Nat.reduceSub, Nat.reduceAdd, Nat.reduceLeDiff, true_and, and_true, ne_eq, not_true_eq_false, not_false_eq_true, forall_const, wipeE, big0, big1, big2, big3, big4, big5, big6, big7, big8, big9, fLen, get_app c2, List.length_map]
    refine ⟨rgOk_nat (by omega), ?_⟩
    rw [Int.toNat_natCast]
    have ltk : S.length < S'.length := lt_of_get c1
    -- the marked edges
    refine for_ix (fun i env S'' => ∃ a7 a8 a11, env = [some (.loc M.m), some (.int (n : Nat)), some (.int great), some (.loc S.length), some (.loc rl), some (.loc el), a6, a7, a8, a9, some (.loc S'.length), a11, a12] ∧ S'' = S' ++ [.lst (esD ((List.range i).map (tightE hs rs)))])
      (fun _ _ _ _ => True.intro) ⟨_, _, _, rfl, rfl⟩ ?_ ?_
    · rintro env S'' ⟨a7, a8, a11, rfl, rfl⟩
      have eL : ({ items := List.map (fun i => D.int (0 + ((i : Nat) : Int))) (List.range rs.length), root := none } : Iter).items.length = rs.length := by simp
      rw [eL]
      unfold d_law_calm_r7
      simp only [w_var, w_c, w_bin, w_un, w_dB, wt_and, wt_or, wt_not, w_if, w_andV, w_orV, w_notV, w_anil, w_acons, w_call, w_app, w_tup, w_lst, w_dict, w_onone, w_osome, w_sl, w_tru, w_chain, w_meth, w_lc, w_nop, w_brk, w_cnt, w_seq, w_ret, w_retN, w_drop, w_ifS, w_asg, w_gN, w_gN0, w_gT, w_gT0, w_gnil, w_gnil0, w_gcons, w_gnsnil0, w_gnscons0, w_gsub, w_par, w_par3, w_aug, w_for, w_range1, w_range2, w_seqI, w_enum, okO_some, okS_some, okV_some, okB_bl, okI_int, okT_tup, okC_some, okQ_tup, okO_newL, okO_if, okO_ifL, okS_if, ok2_two, ok3_three, Sh.f1, Sh.f2, br_true, br_false, br_dec, br_not, atI_0, atI_1, atI_2, atI_3, atI_4, Option.map_some, ok_val, List.map_cons, List.map_nil, List.cons_append, List.nil_append, List.replicate_succ, List.replicate_zero, List.getElem?_cons_zero, List.getElem?_cons_succ, List.set_cons_zero, List.set_cons_succ, List.length_cons, List.length_nil, Nat.reduceSub, Nat.reduceAdd, Nat.reduceLeDiff, true_and, and_true, ne_eq, not_true_eq_false, not_false_eq_true, forall_const, wipeE, big0, big1, big2, big3, big4, big5, big6, big7, big8, big9]
      rw [okQ_lst off0]
      refine for_ix (fun j env S'' => ∃ el E2 a12, env = [some (.loc M.m), some (.int (n : Nat)), some (.int great), some (.loc S.length), some (.loc rl), some (.loc el), a6, a7, a8, a9, some (.loc S'.length), a11, a12] ∧ After M S S'' ∧ S''[S.length]? = some (.lst (isD hs)) ∧
          S''[S'.length]? = some (.lst (esD ((List.range rs.length).map (tightE hs rs)))) ∧ S''[el]? = some (.lst (esD E2)) ∧ S.length ≤ el ∧ E2.length = r + j ∧ (∀ e ∈ E2, EdOk n hs e) ∧ ∀ k, k < j → tightE hs rs k ∈ E2)
        (fun _ _ s hs => by obtain ⟨_, _, _, _, _, _, h5, _⟩ := hs; show lstAt s _ = _; unfold lstAt; rw [h5]) ⟨el, E, a12, rfl, hA'.grow _, get_app c1, off0, get_app c3, by omega, by omega, c5, fun k hk => by omega⟩ ?_ ?_
      · rintro env S'' ⟨el, E2, a12, rfl, hA2, d1, d2, d3, d4, d5, d6, d7⟩
        have eL : ({ items := esD ((List.range rs.length).map (tightE hs rs)), root := some (S'.length, esD ((List.range rs.length).map (tightE hs rs))) } : Iter).items.length = rs.length := by simp
        rw [eL] at d5 d7
        have hrp : 0 < rs.length := List.length_pos_iff.mpr hne
        simp only [w_var, w_c, w_bin, w_un, w_dB, wt_and, wt_or, wt_not, w_if, w_andV, w_orV, w_notV, w_anil, w_acons, w_call, w_app, w_tup, w_lst, w_dict, w_onone, w_osome, w_sl, w_tru, w_chain, w_meth, w_lc, w_nop, w_brk, w_cnt, w_seq, w_ret, w_retN, w_drop, w_ifS, w_asg, w_gN, w_gN0, w_gT, w_gT0, w_gnil, w_gnil0, w_gcons, w_gnsnil0, w_gnscons0, w_gsub, w_par, w_par3, w_aug, w_for, w_range1, w_range2, w_seqI, w_enum, okO_some, okS_some, okV_some, okB_bl, okI_int, okT_tup, okC_some, okQ_tup, okO_newL, okO_if, okO_ifL, okS_if, ok2_two, ok3_three, Sh.f1, Sh.f2, br_true, br_false, br_dec, br_not, atI_0, atI_1, atI_2, atI_3, atI_4, Option.map_some, ok_val, List.map_cons, List.map_nil, List.cons_append, List.nil_append, List.replicate_succ, List.replicate_zero, List.getElem?_cons_zero, List.getElem?_cons_succ, List.set_cons_zero, List.set_cons_succ, List.length_cons, List.length_nil, Nat.reduceSub, Nat.reduceAdd, Nat.reduceLeDiff, true_and, and_true, ne_eq, not_true_eq_false, not_false_eq_true, forall_const, wipeE, big0, big1, big2, big3, big4, big5, big6, big7, big8, big9, fLen, d2, List.length_map, List.length_range]
        refine grind_ok' hA2.ms (by omega) (small (by omega)) fun k S4 hk hA4 hl4 => ?_
        have hk : k < rs.length := by omega
        have e1 := hA4.get d1 (by omega)
        have e2 := hA4.get d2 (by omega)
        have e3 := hA4.get d3 (by omega)
        have e4 : atI (esD ((List.range rs.length).map (tightE hs rs))) (k : Nat) = some (eD (tightE hs rs k)) := atI_nat rfl (by simp [hk])
        simp only [fIx, e2, e4, w_var, w_c, w_bin, w_un, w_dB, wt_and, wt_or, wt_not, w_if, w_andV, w_orV, w_notV, w_anil, w_acons, w_call, w_app, w_tup, w_lst, w_dict, w_onone, w_osome, w_sl, w_tru, w_chain, w_meth, w_lc, w_nop, w_brk, w_cnt, w_seq, w_ret, w_retN, w_drop, w_ifS, w_asg, w_gN, w_gN0, w_gT, w_gT0, w_gnil, w_gnil0, w_gcons, w_gnsnil0, w_gnscons0, w_gsub, w_par, w_par3, w_aug, w_for, w_range1, w_range2, w_seqI, w_enum, okO_some, okS_some, okV_some, okB_bl, okI_int, okT_tup, okC_some, okQ_tup, okO_newL, okO_if, okO_ifL, okS_if, ok2_two, ok3_three, Sh.f1, Sh.f2, br_true, br_false, br_dec, br_not, atI_0, atI_1, atI_2, atI_3, atI_4, Option.map_some, ok_val, List.map_cons, List.map_nil, List.cons_append, List.nil_append, List.replicate_succ, List.replicate_zero, List.getElem?_cons_zero, List.getElem?_cons_succ, List.set_cons_zero, List.set_cons_succ, List.length_cons, List.length_nil, Nat.reduceSub, Nat.reduceAdd, Nat.reduceLeDiff, true_and, and_true, ne_eq, not_true_eq_false, not_false_eq_true, forall_const, wipeE, big0, big1, big2, big3, big4, big5, big6, big7, big8, big9]
        have A4 := hA2.trans hA4
        rw [gc_deep (o := .lst [.loc S.length, .loc el, eD (tightE hs rs k)]) A4.len off0 (by rw [lo_lst]; simp [la_cons, lo_loc])]
        exact hQ _ S4.length S.length el hs E2 (tightE hs rs k) (A4.grow _) A4.len (Nat.le_refl _) d4 off0 (get_app e1) (get_app e3)
          ⟨hhl, d6, by omega, rs, hne, hrs, d7, k, hk, rfl⟩
      · rintro j d env S'' hd ⟨el, E2, a12, rfl, hA2, d1, d2, d3, d4, d5, d6, d7⟩
        have hd' : (esD ((List.range rs.length).map (tightE hs rs)))[j]? = some d := hd
        obtain ⟨e, he, rfl⟩ := es_at hd'
        have hj : j < rs.length := by
          have := (List.getElem?_eq_some_iff.mp he).1
          simpa using this
        have ee : e = tightE hs rs j := by
          rw [List.getElem?_map, List.getElem?_range hj] at he
          exact (Option.some.inj he).symm
        subst ee
        simp only [w_var, w_c, w_bin, w_un, w_dB, wt_and, wt_or, wt_not, w_if, w_andV, w_orV, w_notV, w_anil, w_acons, w_call, w_app, w_tup, w_lst, w_dict, w_onone, w_osome, w_sl, w_tru, w_chain, w_meth, w_lc, w_nop, w_brk, w_cnt, w_seq, w_ret, w_retN, w_drop, w_ifS, w_asg, w_gN, w_gN0, w_gT, w_gT0, w_gnil, w_gnil0, w_gcons, w_gnsnil0, w_gnscons0, w_gsub, w_par, w_par3, w_aug, w_for, w_range1, w_range2, w_seqI, w_enum, okO_some, okS_some, okV_some, okB_bl, okI_int, okT_tup, okC_some, okQ_tup, okO_newL, okO_if, okO_ifL, okS_if, ok2_two, ok3_three, Sh.f1, Sh.f2, br_true, br_false, br_dec, br_not, atI_0, atI_1, atI_2, atI_3, atI_4, Option.map_some, ok_val, List.map_cons, List.map_nil, List.cons_append, List.nil_append, List.replicate_succ, List.replicate_zero, List.getElem?_cons_zero, List.getElem?_cons_succ, List.set_cons_zero, List.set_cons_succ, List.length_cons, List.length_nil, Nat.reduceSub, Nat.reduceAdd, Nat.reduceLeDiff, true_and, and_true, ne_eq, not_true_eq_false, not_false_eq_true, forall_const, wipeE, big0, big1, big2, big3, big4, big5, big6, big7, big8, big9, d_law_calm_l6, fLen, d3, List.length_map, fAdd]
        refine grind_ok' hA2.ms (by omega) (small (by omega)) fun k S4 hk hA4 hl4 => ?_
        have e3 := hA4.get d3 (by omega)
        refine put_ok e3 (by rw [List.length_map]; omega) (by rw [List.length_map]; omega) esD_lo eD_lo ?_
        have et : (esD E2).take k ++ [eD (tightE hs rs j)] ++ (esD E2).drop k = esD (E2.take k ++ [tightE hs rs j] ++ E2.drop k) := by simp
        rw [et]
        have A4 := hA2.trans hA4
        refine ⟨S4.length, _, _, rfl, A4.grow _, get_app (hA4.get d1 (by omega)), get_app (hA4.get d2 (by omega)), off0, A4.len, by simp; omega, fun e he => ?_, fun k' hk' => ?_⟩
        · simp only [List.mem_append, List.mem_singleton] at he
          rcases he with (he | he) | he
          · exact d6 e (List.mem_of_mem_take he)
          · rw [he]; exact tight_ok hrs hj
          · exact d6 e (List.mem_of_mem_drop he)
        · simp only [List.mem_append, List.mem_singleton]
          by_cases z : k' = j
          · subst z; exact .inl (.inr rfl)
          · have h9 := d7 k' (by omega)
            rw [← List.take_append_drop k E2] at h9
            rcases List.mem_append.mp h9 with h9 | h9
            · exact .inl (.inl h9)
            · exact .inr h9
    · rintro k d env S'' hd ⟨a7, a8, a11, rfl, rfl⟩
      obtain ⟨hk, rfl⟩ := range_at hd
      have hrp : 0 < rs.length := by omega
      have gl : ∀ G, (S' ++ G)[S.length]? = some (.lst (isD hs)) := fun G => get_app c1
      have gr : ∀ G, (S' ++ G)[rl]? = some (.lst (nsD rs)) := fun G => get_app c2
      have gD : ∀ j, j < rs.length → rs.getD j 0 < n := fun j hj => by
        rw [List.getD_eq_getElem?_getD, List.getElem?_eq_getElem hj]
        exact hrs _ (List.getElem_mem hj)
      have i1 : atI (nsD rs) ((k : Int) - 1) = some (.int ((rs.getD (if k = 0 then rs.length - 1 else k - 1) 0 : Nat) : Int)) := by
        by_cases z : k = 0
        · subst z
          refine atI_neg (j := rs.length - 1) (by simp; omega) (by decide) ?_
          rw [List.getElem?_map, List.getElem?_eq_getElem (by omega)]
          simp [List.getD_eq_getElem?_getD, List.getElem?_eq_getElem (show rs.length - 1 < rs.length by omega)]
        · refine atI_nat (j := k - 1) (by omega) ?_
          rw [List.getElem?_map, List.getElem?_eq_getElem (by omega)]
          simp [z, List.getD_eq_getElem?_getD, List.getElem?_eq_getElem (show k - 1 < rs.length by omega)]
      have i2 : atI (nsD rs) (k : Nat) = some (.int ((rs.getD k 0 : Nat) : Int)) := atI_nat rfl (by rw [List.getElem?_map, List.getElem?_eq_getElem hk]; simp [List.getD_eq_getElem?_getD, hk])
      have j1 := gD (if k = 0 then rs.length - 1 else k - 1) (by split <;> omega)
      have j2 := gD k hk
      have bb : (esD ((List.range k).map (tightE hs rs))).length < big := lt_big (by simp; omega)
      simp only [w_var, w_c, w_bin, w_un, w_dB, wt_and, wt_or, wt_not, w_if, w_andV, w_orV, w_notV, w_anil, w_acons, w_call, w_app, w_tup, w_lst, w_dict, w_onone, w_osome, w_sl, w_tru, w_chain, w_meth, w_lc, w_nop, w_brk, w_cnt, w_seq, w_ret, w_retN, w_drop, w_ifS, w_asg, w_gN, w_gN0, w_gT, w_gT0, w_gnil, w_gnil0, w_gcons, w_gnsnil0, w_gnscons0, w_gsub, w_par, w_par3, w_aug, w_for, w_range1, w_range2, w_seqI, w_enum, okO_some, okS_some, okV_some, okB_bl, okI_int, okT_tup, okC_some, okQ_tup, okO_newL, okO_if, okO_ifL, okS_if, ok2_two, ok3_three, Sh.f1, Sh.f2, br_true, br_false, br_dec, br_not, atI_0, atI_1, atI_2, atI_3, atI_4, Option.map_some, ok_val, List.map_cons, List.map_nil, List.cons_append, List.nil_append, List.replicate_succ, List.replicate_zero, List.getElem?_cons_zero, List.getElem?_cons_succ, List.set_cons_zero, List.set_cons_succ, List.length_cons, List.length_nil, Nat.reduceSub, Nat.reduceAdd, Nat.reduceLeDiff, true_and, and_true, ne_eq, not_true_eq_false, not_false_eq_true, forall_const, wipeE, big0, big1, big2, big3, big4, big5, big6, big7, big8, big9, d_law_calm_l5, d_law_calm_r4, fIx, gr, fSub, fInt, if_true, i1, i2, isL, lstAt, off0, Option.isSome_some, gl, isD_at (show rs.getD k 0 < hs.length by omega), isD_at (show rs.getD (if k = 0 then rs.length - 1 else k - 1) 0 < hs.length by omega), fAppend, bb]
      refine ⟨_, _, _, rfl, ?_⟩
      rw [set_app_new, List.range_succ, List.map_append]
      simp [eD, tightE]
  · rintro i d env S' hd ⟨E, a6, a7, a8, a9, a10, a11, a12, rfl, hA', c1, c2, c3, c4, c5⟩
    obtain ⟨hi, rfl⟩ := range_at hd
    simp only [w_var, w_c, w_bin, w_un, w_dB, wt_and, wt_or, wt_not, w_if, w_andV, w_orV, w_notV, w_anil, w_acons, w_call, w_app, w_tup, w_lst, w_dict, w_onone, w_osome, w_sl, w_tru, w_chain, w_meth, w_lc, w_nop, w_brk, w_cnt, w_seq, w_ret, w_retN, w_drop, w_ifS, w_asg, w_gN, w_gN0, w_gT, w_gT0, w_gnil, w_gnil0, w_gcons, w_gnsnil0, w_gnscons0, w_gsub, w_par, w_par3, w_aug, w_for, w_range1, w_range2, w_seqI, w_enum, okO_some, okS_some, okV_some, okB_bl, okI_int, okT_tup, okC_some, okQ_tup, okO_newL, okO_if, okO_ifL, okS_if, ok2_two, ok3_three, Sh.f1, Sh.f2, br_true, br_false, br_dec, br_not, atI_0, atI_1, atI_2, atI_3, atI_4, Option.map_some, ok_val, List.map_cons, List.map_nil, List.cons_append, List.nil_append, List.replicate_succ, List.replicate_zero, List.getElem?_cons_zero, List.getElem?_cons_succ, List.set_cons_zero, List.set_cons_succ, List.length_cons, List.length_nil, Nat.reduceSub, Nat.reduceAdd, Nat.reduceLeDiff, true_and, and_true, ne_eq, not_true_eq_false, not_false_eq_true, forall_const, wipeE, big0, big1, big2, big3, big4, big5, big6, big7, big8, big9]
    refine calm_l3 hn1 (by omega) hg hg2 hhl hA' c1 c3 (by omega) (by omega) fun S4 e a7 a8 a9 hA4 tr h4 hok => ?_
    refine ⟨E ++ [e], _, _, _, _, _, _, _, rfl, hA4, tr _ _ (Nat.le_refl _) (by omega) c1, tr _ _ (by omega) (by omega) c2, h4, by simp; omega, fun e' he => ?_⟩
    rcases List.mem_append.mp he with he | he
    · exact c5 e' he
    · simp only [List.mem_singleton] at he
      rw [he]; exact hok
end K68

set_option Elab.async false
set_option linter.all false
set_option maxRecDepth 100000
set_option maxHeartbeats 4000000
set_option autoImplicit false
namespace K68
open PySem PySem.Spec PyProof.Rows L2 Sh RX

/-- the sums that rounds from zeros leave -/
def zs (E : List Ed) (n : Nat) : List Int := (List.range n).map fun i => (passes E z0 n i).getD 0
theorem pass_some {E : List Ed} : ∀ {s : Su}, (∀ v, s v ≠ none) → ∀ v, pass s E v ≠ none := by
  induction E with
  | nil => intro s h v; exact h v
  | cons e E ih =>
    intro s h v
    have e1 : pass s (e :: E) = pass (rel s e) E := rfl
    rw [e1]
    refine ih (fun u => ?_) v
    unfold rel
    split
    · unfold up
      split
      · simp
      · exact h u
    · exact h u
theorem passes_some {E : List Ed} : ∀ k v, passes E z0 k v ≠ none
  | 0, v => by show some 0 ≠ none; simp
  | k + 1, v => pass_some (passes_some k) v
theorem suD_zs {E : List Ed} {n : Nat} : suD n (passes E z0 n) = (zs E n).map D.int := by
  unfold suD zs
  rw [List.map_map]
  apply List.map_congr_left
  intro i _
  have := passes_some (E := E) n i
  show oD (passes E z0 n i) = D.int ((passes E z0 n i).getD 0)
  cases q : passes E z0 n i with
  | none => exact absurd q this
  | some x => rfl
theorem zs_len {E : List Ed} {n : Nat} : (zs E n).length = n := by simp [zs]
theorem zs_at {E : List Ed} {n v : Nat} (h : v < n) : (zs E n).getD v 0 = (passes E z0 n v).getD 0 := by
  simp [zs, List.getD_eq_getElem?_getD, h]
theorem zs_fit {E : List Ed} {n : Nat} (hE : ∀ e ∈ E, e.1 < n ∧ e.2.1 < n) (h : chg (passes E z0 n) E = false) : ∀ e ∈ E, (zs E n).getD e.2.1 0 ≤ (zs E n).getD e.1 0 + e.2.2 := by
  intro e he
  obtain ⟨h1, h2⟩ := hE e he
  rw [zs_at h1, zs_at h2]
  have hh := (pass_still h).2 e he
  unfold hit at hh
  have n1 := passes_some (E := E) n e.1
  have n2 := passes_some (E := E) n e.2.1
  cases q1 : passes E z0 n e.1 with
  | none => exact absurd q1 n1
  | some a =>
    cases q2 : passes E z0 n e.2.1 with
    | none => exact absurd q2 n2
    | some b =>
      rw [q1, q2] at hh
      simp at hh
      simp only [Option.getD_some]
      omega
theorem zs_pot {E : List Ed} {n : Nat} (hE : ∀ e ∈ E, e.1 < n ∧ e.2.1 < n) (h : chg (passes E z0 n) E = false) : Pot E fun v => (zs E n).getD v 0 := zs_fit hE h
theorem ints_ty {l : List Int} {S : Sto} : ∀ d ∈ l.map D.int, ∃ t, tyOf d S = some t := fun d hd => by
  obtain ⟨i, _, rfl⟩ := List.mem_map.mp hd
  exact ⟨"int", rfl⟩
theorem map_int_inj {a b : List Int} (h : a.map D.int = b.map D.int) : a = b := by
  induction a generalizing b with
  | nil => cases b with
    | nil => rfl
    | cons y b => cases h
  | cons x a ih =>
    cases b with
    | nil => cases h
    | cons y b =>
      simp only [List.map_cons, List.cons.injEq, D.int.injEq] at h
      rw [h.1, ih h.2]
/-- is_potentials of whole heights -/
theorem pot_ints {E : List Ed} {n : Nat} {hs : List Int} {S : Sto} (hE : ∀ e ∈ E, e.1 < n ∧ e.2.1 < n) (hn : n < 1000) (hl : E.length < 900) (hh : hs.length = n) {X : Ex → Sto → Prop} {Q : D → Sto → Prop}
    (hQ : Q (.bl (E.all fun e => decide (hs.getD e.2.1 0 ≤ hs.getD e.1 0 + e.2.2))) S) : (d_is_potentials [.int (n : Nat), .tup (esD E), .tup (hs.map D.int)] S).ok Q X := by
  refine pot_tup hn hl (by rw [List.length_map]; exact hh) ints_ty (fun ⟨d, hd, hne⟩ => ?_) (fun hs' e => ?_) hE
  · obtain ⟨i, _, rfl⟩ := List.mem_map.mp hd
    exact absurd rfl hne
  · rw [← map_int_inj e]
    exact hQ

theorem quiet_l1 {M : Mil} {S : Sto} {n p start : Nat} {E : List Ed} {h : Nat → Int} {a0 : D} {a5 : Option D} (hE : ∀ e ∈ E, e.1 < n ∧ e.2.1 < n) (hn : n < 1000) (hl : E.length < 900) (hs : start < n) (hp : Pot E h) (hS : S[p]? = some (.lst (esD E))) {P : Po} {N : En → Sto → Prop}
    (hN : ∀ G, N [some a0, some (.int (n : Nat)), some (.loc p), some (.tup (esD E)), some (.int (start : Nat)), a5] (S ++ G)) :
    (d_law_quiet_l1 [some a0, some (.int (n : Nat)), some (.loc p), some (.tup (esD E)), some (.int (start : Nat)), a5] S).ok N P := by
  unfold d_law_quiet_l1
  simp only [w_var, w_c, w_bin, w_un, w_dB, wt_and, wt_or, wt_not, w_if, w_andV, w_orV, w_notV, w_anil, w_acons, w_call, w_app, w_tup, w_lst, w_dict, w_onone, w_osome, w_sl, w_tru, w_chain, w_meth, w_lc, w_nop, w_brk, w_cnt, w_seq, w_ret, w_retN, w_drop, w_ifS, w_asg, w_gN, w_gN0, w_gT, w_gT0, w_gnil, w_gnil0, w_gcons, w_gnsnil0, w_gnscons0, w_gsub, w_par, w_par3, w_aug, w_for, w_range1, w_range2, w_seqI, w_enum, okO_some, okS_some, okV_some, okB_bl, okI_int, okT_tup, okC_some, okQ_tup, okO_newL, okO_if, okO_ifL, okS_if, ok2_two, ok3_three, Sh.f1, Sh.f2, br_true, br_false, br_dec, br_not, atI_0, atI_1, atI_2, atI_3, atI_4, Option.map_some, ok_val, List.map_cons, List.map_nil, List.cons_append, List.nil_append, List.replicate_succ, List.replicate_zero, List.getElem?_cons_zero, List.getElem?_cons_succ, List.set_cons_zero, List.set_cons_succ, List.length_cons, List.length_nil, Nat.reduceSub, Nat.reduceAdd, Nat.reduceLeDiff, true_and, and_true, ne_eq, not_true_eq_false, not_false_eq_true, forall_const, wipeE, big0, big1, big2, big3, big4, big5, big6, big7, big8, big9]
  refine least_ok hE hn hl hs hp ?_
  have hst : chg (passes E (sAt start) n) E = false := still_n hE hp
  refine ways_ok (s0 := sAt start) hE hn hS (fun k hk => ?_) (fun _ => ?_) (fun hc => by rw [hst] at hc; cases hc)
  · unfold sAt up
    by_cases e : k = start
    · subst e; simp
    · have : ¬ ((k : Int) = (start : Int)) := by omega
      simp [e, this]
  · refine same_ok hn (.inr ⟨_, rfl, off0⟩) ?_
    simp only [fTru, okC_some, Bool.not_true, br_false, br_true, br_not, w_var, w_c, w_bin, w_un, w_dB, wt_and, wt_or, wt_not, w_if, w_andV, w_orV, w_notV, w_anil, w_acons, w_call, w_app, w_tup, w_lst, w_dict, w_onone, w_osome, w_sl, w_tru, w_chain, w_meth, w_lc, w_nop, w_brk, w_cnt, w_seq, w_ret, w_retN, w_drop, w_ifS, w_asg, w_gN, w_gN0, w_gT, w_gT0, w_gnil, w_gnil0, w_gcons, w_gnsnil0, w_gnscons0, w_gsub, w_par, w_par3, w_aug, w_for, w_range1, w_range2, w_seqI, w_enum, okO_some, okS_some, okV_some, okB_bl, okI_int, okT_tup, okC_some, okQ_tup, okO_newL, okO_if, okO_ifL, okS_if, ok2_two, ok3_three, Sh.f1, Sh.f2, br_true, br_false, br_dec, br_not, atI_0, atI_1, atI_2, atI_3, atI_4, Option.map_some, ok_val, List.map_cons, List.map_nil, List.cons_append, List.nil_append, List.replicate_succ, List.replicate_zero, List.getElem?_cons_zero, List.getElem?_cons_succ, List.set_cons_zero, List.set_cons_succ, List.length_cons, List.length_nil, Nat.reduceSub, Nat.reduceAdd, Nat.reduceLeDiff, true_and, and_true, ne_eq, not_true_eq_false, not_false_eq_true, forall_const, wipeE, big0, big1, big2, big3, big4, big5, big6, big7, big8, big9]
    exact hN _
theorem quiet_ok {M : Mil} {S : Sto} {n p : Nat} {E : List Ed} {h : Nat → Int} (hM : MS M S) (hn1 : 1 ≤ n) (hn : n < 200) (hE : ∀ e ∈ E, e.1 < n ∧ e.2.1 < n) (hl : E.length < 900) (hp : Pot E h) (hS : S[p]? = some (.lst (esD E))) (hpm : M.m ≠ p)
    {X : Ex → Sto → Prop} {Q : D → Sto → Prop} (hQ : ∀ S', After M S S' → S'.length = S.length → Q (.bl true) S') : (d_law_quiet [.loc M.m, .int (n : Nat), .loc p] S).ok Q X := by
  have lt := hM.lt
  have hst0 : chg (passes E z0 n) E = false := still_n hE hp
  unfold d_law_quiet
  rw [w_fn]
  refine ⟨rfl, ?_⟩
  unfold d_law_quiet_b
  simp only [w_var, w_c, w_bin, w_un, w_dB, wt_and, wt_or, wt_not, w_if, w_andV, w_orV, w_notV, w_anil, w_acons, w_call, w_app, w_tup, w_lst, w_dict, w_onone, w_osome, w_sl, w_tru, w_chain, w_meth, w_lc, w_nop, w_brk, w_cnt, w_seq, w_ret, w_retN, w_drop, w_ifS, w_asg, w_gN, w_gN0, w_gT, w_gT0, w_gnil, w_gnil0, w_gcons, w_gnsnil0, w_gnscons0, w_gsub, w_par, w_par3, w_aug, w_for, w_range1, w_range2, w_seqI, w_enum, okO_some, okS_some, okV_some, okB_bl, okI_int, okT_tup, okC_some, okQ_tup, okO_newL, okO_if, okO_ifL, okS_if, ok2_two, ok3_three, Sh.f1, Sh.f2, br_true, br_false, br_dec, br_not, atI_0, atI_1, atI_2, atI_3, atI_4, Option.map_some, ok_val, List.map_cons, List.map_nil, List.cons_append, List.nil_append, List.replicate_succ, List.replicate_zero, List.getElem?_cons_zero, List.getElem?_cons_succ, List.set_cons_zero, List.set_cons_succ, List.length_cons, List.length_nil, Nat.reduceSub, Nat.reduceAdd, Nat.reduceLeDiff, true_and, and_true, ne_eq, not_true_eq_false, not_false_eq_true, forall_const, wipeE, big0, big1, big2, big3, big4, big5, big6, big7, big8, big9, fTuple, seqOf, lstAt, hS]
  unfold d_law_quiet_r4
  simp only [w_var, w_c, w_bin, w_un, w_dB, wt_and, wt_or, wt_not, w_if, w_andV, w_orV, w_notV, w_anil, w_acons, w_call, w_app, w_tup, w_lst, w_dict, w_onone, w_osome, w_sl, w_tru, w_chain, w_meth, w_lc, w_nop, w_brk, w_cnt, w_seq, w_ret, w_retN, w_drop, w_ifS, w_asg, w_gN, w_gN0, w_gT, w_gT0, w_gnil, w_gnil0, w_gcons, w_gnsnil0, w_gnscons0, w_gsub, w_par, w_par3, w_aug, w_for, w_range1, w_range2, w_seqI, w_enum, okO_some, okS_some, okV_some, okB_bl, okI_int, okT_tup, okC_some, okQ_tup, okO_newL, okO_if, okO_ifL, okS_if, ok2_two, ok3_three, Sh.f1, Sh.f2, br_true, br_false, br_dec, br_not, atI_0, atI_1, atI_2, atI_3, atI_4, Option.map_some, ok_val, List.map_cons, List.map_nil, List.cons_append, List.nil_append, List.replicate_succ, List.replicate_zero, List.getElem?_cons_zero, List.getElem?_cons_succ, List.set_cons_zero, List.set_cons_succ, List.length_cons, List.length_nil, Nat.reduceSub, Nat.reduceAdd, Nat.reduceLeDiff, true_and, and_true, ne_eq, not_true_eq_false, not_false_eq_true, forall_const, wipeE, big0, big1, big2, big3, big4, big5, big6, big7, big8, big9]
  refine falling_ok hE (by omega) hl (fun _ => ?_) (fun ps _ hf => (hf.noPot hp).elim)
  simp only [fIsNotN, isNon, Bool.not_true, w_var, w_c, w_bin, w_un, w_dB, wt_and, wt_or, wt_not, w_if, w_andV, w_orV, w_notV, w_anil, w_acons, w_call, w_app, w_tup, w_lst, w_dict, w_onone, w_osome, w_sl, w_tru, w_chain, w_meth, w_lc, w_nop, w_brk, w_cnt, w_seq, w_ret, w_retN, w_drop, w_ifS, w_asg, w_gN, w_gN0, w_gT, w_gT0, w_gnil, w_gnil0, w_gcons, w_gnsnil0, w_gnscons0, w_gsub, w_par, w_par3, w_aug, w_for, w_range1, w_range2, w_seqI, w_enum, okO_some, okS_some, okV_some, okB_bl, okI_int, okT_tup, okC_some, okQ_tup, okO_newL, okO_if, okO_ifL, okS_if, ok2_two, ok3_three, Sh.f1, Sh.f2, br_true, br_false, br_dec, br_not, atI_0, atI_1, atI_2, atI_3, atI_4, Option.map_some, ok_val, List.map_cons, List.map_nil, List.cons_append, List.nil_append, List.replicate_succ, List.replicate_zero, List.getElem?_cons_zero, List.getElem?_cons_succ, List.set_cons_zero, List.set_cons_succ, List.length_cons, List.length_nil, Nat.reduceSub, Nat.reduceAdd, Nat.reduceLeDiff, true_and, and_true, ne_eq, not_true_eq_false, not_false_eq_true, forall_const, wipeE, big0, big1, big2, big3, big4, big5, big6, big7, big8, big9]
  unfold d_law_quiet_r3
  simp only [w_var, w_c, w_bin, w_un, w_dB, wt_and, wt_or, wt_not, w_if, w_andV, w_orV, w_notV, w_anil, w_acons, w_call, w_app, w_tup, w_lst, w_dict, w_onone, w_osome, w_sl, w_tru, w_chain, w_meth, w_lc, w_nop, w_brk, w_cnt, w_seq, w_ret, w_retN, w_drop, w_ifS, w_asg, w_gN, w_gN0, w_gT, w_gT0, w_gnil, w_gnil0, w_gcons, w_gnsnil0, w_gnscons0, w_gsub, w_par, w_par3, w_aug, w_for, w_range1, w_range2, w_seqI, w_enum, okO_some, okS_some, okV_some, okB_bl, okI_int, okT_tup, okC_some, okQ_tup, okO_newL, okO_if, okO_ifL, okS_if, ok2_two, ok3_three, Sh.f1, Sh.f2, br_true, br_false, br_dec, br_not, atI_0, atI_1, atI_2, atI_3, atI_4, Option.map_some, ok_val, List.map_cons, List.map_nil, List.cons_append, List.nil_append, List.replicate_succ, List.replicate_zero, List.getElem?_cons_zero, List.getElem?_cons_succ, List.set_cons_zero, List.set_cons_succ, List.length_cons, List.length_nil, Nat.reduceSub, Nat.reduceAdd, Nat.reduceLeDiff, true_and, and_true, ne_eq, not_true_eq_false, not_false_eq_true, forall_const, wipeE, big0, big1, big2, big3, big4, big5, big6, big7, big8, big9]
  refine grind_ok' hM (by omega) (small (by omega)) fun r1 S1 hr1 hA1 hl1 => ?_
  have s1 : S1[p]? = some (.lst (esD E)) := hA1.get hS hpm
  -- the rest, once both starts are there
  have rest : ∀ (r2 : Nat) (S2 : Sto), r2 < n → After M S S2 → okQ (.loc S2.length) (S2 ++ [.lst [.int (r1 : Nat), .int (r2 : Nat)]]) fun xs r =>
      (forGo ⟨xs, r⟩ (gN 4) d_law_quiet_l1 xs [some (.loc M.m), some (.int (n : Nat)), some (.loc p), some (.tup (esD E)), none, none] (S2 ++ [.lst [.int (r1 : Nat), .int (r2 : Nat)]])).ok
        (fun e s => (d_law_quiet_r2 e s).ok (fun x S' => Q .non (gc S .non S').2) ⟨fun d S' => Q (gc S d S').1 (gc S d S').2, fun _ _ => False, fun _ _ => False, fun x _ S' => X x S'⟩)
        ⟨fun d S' => Q (gc S d S').1 (gc S d S').2, fun _ _ => False, fun _ _ => False, fun x _ S' => X x S'⟩ := fun r2 S2 hr2 hA2 => by
    rw [okQ_lst off0]
    have s2 : ∀ G, (S2 ++ G)[p]? = some (.lst (esD E)) := fun G => get_app (hA2.get hS hpm)
    have itok : ∀ G : Sto, Iter.ok ⟨[.int (r1 : Nat), .int (r2 : Nat)], some (S2.length, [.int (r1 : Nat), .int (r2 : Nat)])⟩ (S2 ++ ([.lst [.int (r1 : Nat), .int (r2 : Nat)]] ++ G)) := fun G => by
      show lstAt _ _ = _
      unfold lstAt
      rw [off0]; rfl
    refine for_cons ⟨by have := itok []; rwa [List.append_nil] at this, ?_⟩
    simp only [w_var, w_c, w_bin, w_un, w_dB, wt_and, wt_or, wt_not, w_if, w_andV, w_orV, w_notV, w_anil, w_acons, w_call, w_app, w_tup, w_lst, w_dict, w_onone, w_osome, w_sl, w_tru, w_chain, w_meth, w_lc, w_nop, w_brk, w_cnt, w_seq, w_ret, w_retN, w_drop, w_ifS, w_asg, w_gN, w_gN0, w_gT, w_gT0, w_gnil, w_gnil0, w_gcons, w_gnsnil0, w_gnscons0, w_gsub, w_par, w_par3, w_aug, w_for, w_range1, w_range2, w_seqI, w_enum, okO_some, okS_some, okV_some, okB_bl, okI_int, okT_tup, okC_some, okQ_tup, okO_newL, okO_if, okO_ifL, okS_if, ok2_two, ok3_three, Sh.f1, Sh.f2, br_true, br_false, br_dec, br_not, atI_0, atI_1, atI_2, atI_3, atI_4, Option.map_some, ok_val, List.map_cons, List.map_nil, List.cons_append, List.nil_append, List.replicate_succ, List.replicate_zero, List.getElem?_cons_zero, List.getElem?_cons_succ, List.set_cons_zero, List.set_cons_succ, List.length_cons, List.length_nil, Nat.reduceSub, Nat.reduceAdd, Nat.reduceLeDiff, true_and, and_true, ne_eq, not_true_eq_false, not_false_eq_true, forall_const, wipeE, big0, big1, big2, big3, big4, big5, big6, big7, big8, big9]
    refine quiet_l1 (M := M) hE (by omega) hl (by omega) hp (s2 _) fun G1 => ?_
    refine for_cons ⟨by rw [List.append_assoc]; exact itok _, ?_⟩
    simp only [w_var, w_c, w_bin, w_un, w_dB, wt_and, wt_or, wt_not, w_if, w_andV, w_orV, w_notV, w_anil, w_acons, w_call, w_app, w_tup, w_lst, w_dict, w_onone, w_osome, w_sl, w_tru, w_chain, w_meth, w_lc, w_nop, w_brk, w_cnt, w_seq, w_ret, w_retN, w_drop, w_ifS, w_asg, w_gN, w_gN0, w_gT, w_gT0, w_gnil, w_gnil0, w_gcons, w_gnsnil0, w_gnscons0, w_gsub, w_par, w_par3, w_aug, w_for, w_range1, w_range2, w_seqI, w_enum, okO_some, okS_some, okV_some, okB_bl, okI_int, okT_tup, okC_some, okQ_tup, okO_newL, okO_if, okO_ifL, okS_if, ok2_two, ok3_three, Sh.f1, Sh.f2, br_true, br_false, br_dec, br_not, atI_0, atI_1, atI_2, atI_3, atI_4, Option.map_some, ok_val, List.map_cons, List.map_nil, List.cons_append, List.nil_append, List.replicate_succ, List.replicate_zero, List.getElem?_cons_zero, List.getElem?_cons_succ, List.set_cons_zero, List.set_cons_succ, List.length_cons, List.length_nil, Nat.reduceSub, Nat.reduceAdd, Nat.reduceLeDiff, true_and, and_true, ne_eq, not_true_eq_false, not_false_eq_true, forall_const, wipeE, big0, big1, big2, big3, big4, big5, big6, big7, big8, big9]
    refine quiet_l1 (M := M) hE (by omega) hl hr2 hp (get_app (s2 _)) fun G2 => ?_
    refine for_nil ⟨by rw [List.append_assoc, List.append_assoc]; exact itok _, ?_⟩
    unfold d_law_quiet_r2
    simp only [w_var, w_c, w_bin, w_un, w_dB, wt_and, wt_or, wt_not, w_if, w_andV, w_orV, w_notV, w_anil, w_acons, w_call, w_app, w_tup, w_lst, w_dict, w_onone, w_osome, w_sl, w_tru, w_chain, w_meth, w_lc, w_nop, w_brk, w_cnt, w_seq, w_ret, w_retN, w_drop, w_ifS, w_asg, w_gN, w_gN0, w_gT, w_gT0, w_gnil, w_gnil0, w_gcons, w_gnsnil0, w_gnscons0, w_gsub, w_par, w_par3, w_aug, w_for, w_range1, w_range2, w_seqI, w_enum, okO_some, okS_some, okV_some, okB_bl, okI_int, okT_tup, okC_some, okQ_tup, okO_newL, okO_if, okO_ifL, okS_if, ok2_two, ok3_three, Sh.f1, Sh.f2, br_true, br_false, br_dec, br_not, atI_0, atI_1, atI_2, atI_3, atI_4, Option.map_some, ok_val, List.map_cons, List.map_nil, List.cons_append, List.nil_append, List.replicate_succ, List.replicate_zero, List.getElem?_cons_zero, List.getElem?_cons_succ, List.set_cons_zero, List.set_cons_succ, List.length_cons, List.length_nil, Nat.reduceSub, Nat.reduceAdd, Nat.reduceLeDiff, true_and, and_true, ne_eq, not_true_eq_false, not_false_eq_true, forall_const, wipeE, big0, big1, big2, big3, big4, big5, big6, big7, big8, big9, fNeg]
    have A3 : After M S (S2 ++ [.lst [.int (r1 : Nat), .int (r2 : Nat)]] ++ G1 ++ G2) := ((hA2.grow _).grow _).grow _
    generalize S2 ++ [.lst [.int (r1 : Nat), .int (r2 : Nat)]] ++ G1 ++ G2 = S3 at A3
    refine ways_ok (s0 := z0) hE (by omega) (A3.get hS hpm) (fun k hk => ?_) (fun _ => ?_) (fun hc => by rw [hst0] at hc; cases hc)
    · have : ¬ ((k : Int) ≠ -1 ∧ (0 : Int) ≤ -1) := fun z => by omega
      rw [if_neg this]; rfl
    · simp only [w_var, w_c, w_bin, w_un, w_dB, wt_and, wt_or, wt_not, w_if, w_andV, w_orV, w_notV, w_anil, w_acons, w_call, w_app, w_tup, w_lst, w_dict, w_onone, w_osome, w_sl, w_tru, w_chain, w_meth, w_lc, w_nop, w_brk, w_cnt, w_seq, w_ret, w_retN, w_drop, w_ifS, w_asg, w_gN, w_gN0, w_gT, w_gT0, w_gnil, w_gnil0, w_gcons, w_gnsnil0, w_gnscons0, w_gsub, w_par, w_par3, w_aug, w_for, w_range1, w_range2, w_seqI, w_enum, okO_some, okS_some, okV_some, okB_bl, okI_int, okT_tup, okC_some, okQ_tup, okO_newL, okO_if, okO_ifL, okS_if, ok2_two, ok3_three, Sh.f1, Sh.f2, br_true, br_false, br_dec, br_not, atI_0, atI_1, atI_2, atI_3, atI_4, Option.map_some, ok_val, List.map_cons, List.map_nil, List.cons_append, List.nil_append, List.replicate_succ, List.replicate_zero, List.getElem?_cons_zero, List.getElem?_cons_succ, List.set_cons_zero, List.set_cons_succ, List.length_cons, List.length_nil, Nat.reduceSub, Nat.reduceAdd, Nat.reduceLeDiff, true_and, and_true, ne_eq, not_true_eq_false, not_false_eq_true, forall_const, wipeE, big0, big1, big2, big3, big4, big5, big6, big7, big8, big9, fTuple, seqOf, lstAt, off0]
      rw [suD_zs]
      refine pot_ints hE (by omega) hl zs_len ?_
      have hall : (E.all fun e => decide ((zs E n).getD e.2.1 0 ≤ (zs E n).getD e.1 0 + e.2.2)) = true := List.all_eq_true.mpr fun e he => decide_eq_true (zs_fit hE hst0 e he)
      rw [hall]
      simp only [fIsB, decide_true, okO_some]
      obtain ⟨S4, e4, hA4, hl4⟩ := (A3.grow [.lst ((zs E n).map D.int)]).flat (d := .bl true) (by rw [lo_bl]; exact True.intro)
      rw [e4]
      exact hQ S4 hA4 hl4
  simp only [fLen, s1, List.length_map, fGt, fCmp, w_var, w_c, w_bin, w_un, w_dB, wt_and, wt_or, wt_not, w_if, w_andV, w_orV, w_notV, w_anil, w_acons, w_call, w_app, w_tup, w_lst, w_dict, w_onone, w_osome, w_sl, w_tru, w_chain, w_meth, w_lc, w_nop, w_brk, w_cnt, w_seq, w_ret, w_retN, w_drop, w_ifS, w_asg, w_gN, w_gN0, w_gT, w_gT0, w_gnil, w_gnil0, w_gcons, w_gnsnil0, w_gnscons0, w_gsub, w_par, w_par3, w_aug, w_for, w_range1, w_range2, w_seqI, w_enum, okO_some, okS_some, okV_some, okB_bl, okI_int, okT_tup, okC_some, okQ_tup, okO_newL, okO_if, okO_ifL, okS_if, ok2_two, ok3_three, Sh.f1, Sh.f2, br_true, br_false, br_dec, br_not, atI_0, atI_1, atI_2, atI_3, atI_4, Option.map_some, ok_val, List.map_cons, List.map_nil, List.cons_append, List.nil_append, List.replicate_succ, List.replicate_zero, List.getElem?_cons_zero, List.getElem?_cons_succ, List.set_cons_zero, List.set_cons_succ, List.length_cons, List.length_nil, Nat.reduceSub, Nat.reduceAdd, Nat.reduceLeDiff, true_and, and_true, ne_eq, not_true_eq_false, not_false_eq_true, forall_const, wipeE, big0, big1, big2, big3, big4, big5, big6, big7, big8, big9]
  refine ⟨fun hpos => ?_, fun hz => ?_⟩
  · refine grind_ok' hA1.ms (by omega) (small (by omega)) fun k S2 hk hA2 hl2 => ?_
    have hk : k < E.length := by omega
    have s2 : S2[p]? = some (.lst (esD E)) := hA2.get s1 hpm
    have at1 : atI (esD E) (k : Nat) = some (eD E[k]) := atI_nat rfl (by rw [List.getElem?_map, List.getElem?_eq_getElem hk]; rfl)
    simp only [fIx, s1, s2, at1, eD, w_var, w_c, w_bin, w_un, w_dB, wt_and, wt_or, wt_not, w_if, w_andV, w_orV, w_notV, w_anil, w_acons, w_call, w_app, w_tup, w_lst, w_dict, w_onone, w_osome, w_sl, w_tru, w_chain, w_meth, w_lc, w_nop, w_brk, w_cnt, w_seq, w_ret, w_retN, w_drop, w_ifS, w_asg, w_gN, w_gN0, w_gT, w_gT0, w_gnil, w_gnil0, w_gcons, w_gnsnil0, w_gnscons0, w_gsub, w_par, w_par3, w_aug, w_for, w_range1, w_range2, w_seqI, w_enum, okO_some, okS_some, okV_some, okB_bl, okI_int, okT_tup, okC_some, okQ_tup, okO_newL, okO_if, okO_ifL, okS_if, ok2_two, ok3_three, Sh.f1, Sh.f2, br_true, br_false, br_dec, br_not, atI_0, atI_1, atI_2, atI_3, atI_4, Option.map_some, ok_val, List.map_cons, List.map_nil, List.cons_append, List.nil_append, List.replicate_succ, List.replicate_zero, List.getElem?_cons_zero, List.getElem?_cons_succ, List.set_cons_zero, List.set_cons_succ, List.length_cons, List.length_nil, Nat.reduceSub, Nat.reduceAdd, Nat.reduceLeDiff, true_and, and_true, ne_eq, not_true_eq_false, not_false_eq_true, forall_const, wipeE, big0, big1, big2, big3, big4, big5, big6, big7, big8, big9]
    exact rest _ S2 (hE _ (List.getElem_mem hk)).1 (hA1.trans hA2)
  · exact rest 0 S1 (by omega) hA1
end K68

set_option Elab.async false
set_option linter.all false
set_option maxRecDepth 100000
set_option maxHeartbeats 4000000
set_option autoImplicit false
namespace K68
open PySem PySem.Spec PyProof.Rows L2 Sh RX

/-- no potentials at all -/
inductive Bad (n : Nat) (d : D) (S : Sto) : Prop where
  | ty (t : String) (h : tyOf d S = some t) (ne : t ≠ "tuple")
  | len (xs : List D) (h : d = .tup xs) (ne : xs.length ≠ n)
  | item (xs : List D) (h : d = .tup xs) (e : xs.length = n) (ty : ∀ x ∈ xs, ∃ t, tyOf x S = some t) (no : ∃ x ∈ xs, tyOf x S ≠ some "int")
theorem pot_bad {E : List Ed} {n : Nat} {d : D} {S : Sto} (h : Bad n d S) (hE : ∀ e ∈ E, e.1 < n ∧ e.2.1 < n) (hn : n < 1000) (hl : E.length < 900) {X : Ex → Sto → Prop} {Q : D → Sto → Prop} (hQ : Q (.bl false) S) :
    (d_is_potentials [.int (n : Nat), .tup (esD E), d] S).ok Q X := by
  rcases h with ⟨t, h, ne⟩ | ⟨xs, rfl, ne⟩ | ⟨xs, rfl, e, ty, no⟩
  · exact pot_no h (.inl ne) hQ
  · exact pot_no (t := "tuple") rfl (.inr ⟨xs, rfl, ne⟩) hQ
  · refine pot_tup hn hl e ty (fun _ => hQ) (fun hs e2 => ?_) hE
    obtain ⟨x, hx, hne⟩ := no
    rw [e2] at hx
    obtain ⟨i, _, rfl⟩ := List.mem_map.mp hx
    exact absurd rfl hne
theorem isD_all_lo {l : List Int} {k : Nat} : loAll k (isD l) := isD_lo
theorem gc_tup {S0 S1 : Sto} {ds : List D} (h : ¬ loAll S0.length ds) : gc S0 (.tup ds) S1 = (.tup ds, S1) := by
  unfold gc
  split
  · rw [if_neg (by rw [lo_tup]; exact h)]
  · rfl
/-- heights with one odd thing -/
theorem bad_odd {n at_ : Nat} {hs : List Int} {odd : D} {S : Sto} {t : String} (hh : hs.length = n) (ha : at_ < n) (ht : tyOf odd S = some t) (ne : t ≠ "int") : Bad n (.tup ((isD hs).take at_ ++ [odd] ++ (isD hs).drop (at_ + 1))) S := by
  refine .item _ rfl (by simp; omega) (fun x hx => ?_) ⟨odd, by simp, by rw [ht]; simpa using ne⟩
  simp only [List.mem_append, List.mem_singleton] at hx
  rcases hx with (hx | hx) | hx
  · exact ints_ty x (List.mem_of_mem_take hx)
  · rw [hx]; exact ⟨t, ht⟩
  · exact ints_ty x (List.mem_of_mem_drop hx)
theorem loAll_app {n : Nat} {a b : List D} (h1 : loAll n a) (h2 : loAll n b) : loAll n (a ++ b) := loAll_iff.mpr fun d hd => by
  rcases List.mem_append.mp hd with h | h
  · exact loAll_iff.mp h1 d h
  · exact loAll_iff.mp h2 d h
theorem loAll_take {n k : Nat} {a : List D} (h1 : loAll n a) : loAll n (a.take k) := loAll_iff.mpr fun d hd => loAll_iff.mp h1 d (List.mem_of_mem_take hd)
theorem loAll_drop {n k : Nat} {a : List D} (h1 : loAll n a) : loAll n (a.drop k) := loAll_iff.mpr fun d hd => loAll_iff.mp h1 d (List.mem_of_mem_drop hd)
theorem cut_two {xs : List D} {a : Nat} (h : a + 1 ≤ xs.length) : Sh.cutD xs (some (a : Int)) (some ((a : Int) + 1)) = (xs.drop a).take 1 := by
  unfold Sh.cutD
  rw [HT.sIx_nat, show ((a : Int) + 1) = ((a + 1 : Nat) : Int) by omega, HT.sIx_nat, Nat.min_eq_left h, Nat.min_eq_left (show a ≤ xs.length by omega)]
  congr 1
  omega
theorem bent_ok {M : Mil} {S : Sto} {n : Nat} {hs : List Int} (hM : MS M S) (hn1 : 1 ≤ n) (hn : n < 200) (hh : hs.length = n) {X : Ex → Sto → Prop} {Q : D → Sto → Prop}
    (hQ : ∀ d S', After M S S' → Bad n d S' → Q d S') : (d_law_bent [.loc M.m, .tup (isD hs)] S).ok Q X := by
  have lt := hM.lt
  have hlen : (isD hs).length = n := by simp [hh]
  unfold d_law_bent
  rw [w_fn]
  refine ⟨rfl, ?_⟩
  unfold d_law_bent_b
  simp only [w_var, w_c, w_bin, w_un, w_dB, wt_and, wt_or, wt_not, w_if, w_andV, w_orV, w_notV, w_anil, w_acons, w_call, w_app, w_tup, w_lst, w_dict, w_onone, w_osome, w_sl, w_tru, w_chain, w_meth, w_lc, w_nop, w_brk, w_cnt, w_seq, w_ret, w_retN, w_drop, w_ifS, w_asg, w_gN, w_gN0, w_gT, w_gT0, w_gnil, w_gnil0, w_gcons, w_gnsnil0, w_gnscons0, w_gsub, w_par, w_par3, w_aug, w_for, w_range1, w_range2, w_seqI, w_enum, okO_some, okS_some, okV_some, okB_bl, okI_int, okT_tup, okC_some, okQ_tup, okO_newL, okO_if, okO_ifL, okS_if, ok2_two, ok3_three, Sh.f1, Sh.f2, br_true, br_false, br_dec, br_not, atI_0, atI_1, atI_2, atI_3, atI_4, Option.map_some, ok_val, List.map_cons, List.map_nil, List.cons_append, List.nil_append, List.replicate_succ, List.replicate_zero, List.getElem?_cons_zero, List.getElem?_cons_succ, List.set_cons_zero, List.set_cons_succ, List.length_cons, List.length_nil, Nat.reduceSub, Nat.reduceAdd, Nat.reduceLeDiff, true_and, and_true, ne_eq, not_true_eq_false, not_false_eq_true, forall_const, wipeE, big0, big1, big2, big3, big4, big5, big6, big7, big8, big9, fLen]
  rw [hlen]
  refine grind_ok' hM (by omega) (small (by omega)) fun at_ S1 hat hA1 hl1 => ?_
  have hat : at_ < n := by omega
  unfold d_law_bent_r8
  simp only [w_var, w_c, w_bin, w_un, w_dB, wt_and, wt_or, wt_not, w_if, w_andV, w_orV, w_notV, w_anil, w_acons, w_call, w_app, w_tup, w_lst, w_dict, w_onone, w_osome, w_sl, w_tru, w_chain, w_meth, w_lc, w_nop, w_brk, w_cnt, w_seq, w_ret, w_retN, w_drop, w_ifS, w_asg, w_gN, w_gN0, w_gT, w_gT0, w_gnil, w_gnil0, w_gcons, w_gnsnil0, w_gnscons0, w_gsub, w_par, w_par3, w_aug, w_for, w_range1, w_range2, w_seqI, w_enum, okO_some, okS_some, okV_some, okB_bl, okI_int, okT_tup, okC_some, okQ_tup, okO_newL, okO_if, okO_ifL, okS_if, ok2_two, ok3_three, Sh.f1, Sh.f2, br_true, br_false, br_dec, br_not, atI_0, atI_1, atI_2, atI_3, atI_4, Option.map_some, ok_val, List.map_cons, List.map_nil, List.cons_append, List.nil_append, List.replicate_succ, List.replicate_zero, List.getElem?_cons_zero, List.getElem?_cons_succ, List.set_cons_zero, List.set_cons_succ, List.length_cons, List.length_nil, Nat.reduceSub, Nat.reduceAdd, Nat.reduceLeDiff, true_and, and_true, ne_eq, not_true_eq_false, not_false_eq_true, forall_const, wipeE, big0, big1, big2, big3, big4, big5, big6, big7, big8, big9]
  refine grind_ok' hA1.ms (by decide) (small (by decide)) fun way S2 hway hA2 hl2 => ?_
  have A2 := hA1.trans hA2
  have flat : ∀ (d : D) (S3 : Sto), After M S S3 → d.lo S.length → (∀ S4, Bad n d S4) → Q (gc S d S3).1 (gc S d S3).2 := fun d S3 hA lo hb => by
    obtain ⟨S4, e4, hA4, _⟩ := hA.flat lo
    rw [e4]
    exact hQ _ _ hA4 (hb S4)
  have fresh : ∀ (l : Nat) (xs : List D) (S3 : Sto), After M S S3 → S.length ≤ l → S3[l]? = some (.lst xs) → loAll S.length xs → Q (gc S (.loc l) S3).1 (gc S (.loc l) S3).2 := fun l xs S3 hA hl h3 lo => by
    obtain ⟨S4, e4, hA4, hl4⟩ := hA.new hl h3 lo
    rw [e4]
    refine hQ _ _ (hA4.grow _) (.ty "list" ?_ (by decide))
    simp only [tyOf]
    rw [← hl4, off0]
    rfl
  have ati : atI (isD hs) (at_ : Nat) = some (.int (hs.getD at_ 0)) := isD_at (by omega)
  unfold d_law_bent_r7 d_law_bent_r6 d_law_bent_r5 d_law_bent_r4 d_law_bent_r3 d_law_bent_r2
  simp only [w_var, w_c, w_bin, w_un, w_dB, wt_and, wt_or, wt_not, w_if, w_andV, w_orV, w_notV, w_anil, w_acons, w_call, w_app, w_tup, w_lst, w_dict, w_onone, w_osome, w_sl, w_tru, w_chain, w_meth, w_lc, w_nop, w_brk, w_cnt, w_seq, w_ret, w_retN, w_drop, w_ifS, w_asg, w_gN, w_gN0, w_gT, w_gT0, w_gnil, w_gnil0, w_gcons, w_gnsnil0, w_gnscons0, w_gsub, w_par, w_par3, w_aug, w_for, w_range1, w_range2, w_seqI, w_enum, okO_some, okS_some, okV_some, okB_bl, okI_int, okT_tup, okC_some, okQ_tup, okO_newL, okO_if, okO_ifL, okS_if, ok2_two, ok3_three, Sh.f1, Sh.f2, br_true, br_false, br_dec, br_not, atI_0, atI_1, atI_2, atI_3, atI_4, Option.map_some, ok_val, List.map_cons, List.map_nil, List.cons_append, List.nil_append, List.replicate_succ, List.replicate_zero, List.getElem?_cons_zero, List.getElem?_cons_succ, List.set_cons_zero, List.set_cons_succ, List.length_cons, List.length_nil, Nat.reduceSub, Nat.reduceAdd, Nat.reduceLeDiff, true_and, and_true, ne_eq, not_true_eq_false, not_false_eq_true, forall_const, wipeE, big0, big1, big2, big3, big4, big5, big6, big7, big8, big9, fEq, scalD]
  refine ⟨fun h0 => ?_, fun h0 => ⟨fun h1 => ?_, fun h1 => ⟨fun h2 => ?_, fun h2 => ⟨fun h3 => ?_, fun h3 => ?_⟩⟩⟩⟩
  · -- a list
    simp only [fList, seqOf, w_var, w_c, w_bin, w_un, w_dB, wt_and, wt_or, wt_not, w_if, w_andV, w_orV, w_notV, w_anil, w_acons, w_call, w_app, w_tup, w_lst, w_dict, w_onone, w_osome, w_sl, w_tru, w_chain, w_meth, w_lc, w_nop, w_brk, w_cnt, w_seq, w_ret, w_retN, w_drop, w_ifS, w_asg, w_gN, w_gN0, w_gT, w_gT0, w_gnil, w_gnil0, w_gcons, w_gnsnil0, w_gnscons0, w_gsub, w_par, w_par3, w_aug, w_for, w_range1, w_range2, w_seqI, w_enum, okO_some, okS_some, okV_some, okB_bl, okI_int, okT_tup, okC_some, okQ_tup, okO_newL, okO_if, okO_ifL, okS_if, ok2_two, ok3_three, Sh.f1, Sh.f2, br_true, br_false, br_dec, br_not, atI_0, atI_1, atI_2, atI_3, atI_4, Option.map_some, ok_val, List.map_cons, List.map_nil, List.cons_append, List.nil_append, List.replicate_succ, List.replicate_zero, List.getElem?_cons_zero, List.getElem?_cons_succ, List.set_cons_zero, List.set_cons_succ, List.length_cons, List.length_nil, Nat.reduceSub, Nat.reduceAdd, Nat.reduceLeDiff, true_and, and_true, ne_eq, not_true_eq_false, not_false_eq_true, forall_const, wipeE, big0, big1, big2, big3, big4, big5, big6, big7, big8, big9]
    exact fresh _ _ _ (A2.grow _) A2.len off0 isD_all_lo
  · -- too short
    have e1 : ((n : Int) - 1) = ((n - 1 : Nat) : Int) := by omega
    simp only [fLen, hlen, fSub, fInt, if_true, w_var, w_c, w_bin, w_un, w_dB, wt_and, wt_or, wt_not, w_if, w_andV, w_orV, w_notV, w_anil, w_acons, w_call, w_app, w_tup, w_lst, w_dict, w_onone, w_osome, w_sl, w_tru, w_chain, w_meth, w_lc, w_nop, w_brk, w_cnt, w_seq, w_ret, w_retN, w_drop, w_ifS, w_asg, w_gN, w_gN0, w_gT, w_gT0, w_gnil, w_gnil0, w_gcons, w_gnsnil0, w_gnscons0, w_gsub, w_par, w_par3, w_aug, w_for, w_range1, w_range2, w_seqI, w_enum, okO_some, okS_some, okV_some, okB_bl, okI_int, okT_tup, okC_some, okQ_tup, okO_newL, okO_if, okO_ifL, okS_if, ok2_two, ok3_three, Sh.f1, Sh.f2, br_true, br_false, br_dec, br_not, atI_0, atI_1, atI_2, atI_3, atI_4, Option.map_some, ok_val, List.map_cons, List.map_nil, List.cons_append, List.nil_append, List.replicate_succ, List.replicate_zero, List.getElem?_cons_zero, List.getElem?_cons_succ, List.set_cons_zero, List.set_cons_succ, List.length_cons, List.length_nil, Nat.reduceSub, Nat.reduceAdd, Nat.reduceLeDiff, true_and, and_true, ne_eq, not_true_eq_false, not_false_eq_true, forall_const, wipeE, big0, big1, big2, big3, big4, big5, big6, big7, big8, big9, fSl]
    rw [e1, cut_take (by omega)]
    exact flat _ _ A2 (by rw [lo_tup]; exact loAll_take isD_all_lo) fun S4 => .len _ rfl (by simp; omega)
  · -- too long
    simp only [fAdd, w_var, w_c, w_bin, w_un, w_dB, wt_and, wt_or, wt_not, w_if, w_andV, w_orV, w_notV, w_anil, w_acons, w_call, w_app, w_tup, w_lst, w_dict, w_onone, w_osome, w_sl, w_tru, w_chain, w_meth, w_lc, w_nop, w_brk, w_cnt, w_seq, w_ret, w_retN, w_drop, w_ifS, w_asg, w_gN, w_gN0, w_gT, w_gT0, w_gnil, w_gnil0, w_gcons, w_gnsnil0, w_gnscons0, w_gsub, w_par, w_par3, w_aug, w_for, w_range1, w_range2, w_seqI, w_enum, okO_some, okS_some, okV_some, okB_bl, okI_int, okT_tup, okC_some, okQ_tup, okO_newL, okO_if, okO_ifL, okS_if, ok2_two, ok3_three, Sh.f1, Sh.f2, br_true, br_false, br_dec, br_not, atI_0, atI_1, atI_2, atI_3, atI_4, Option.map_some, ok_val, List.map_cons, List.map_nil, List.cons_append, List.nil_append, List.replicate_succ, List.replicate_zero, List.getElem?_cons_zero, List.getElem?_cons_succ, List.set_cons_zero, List.set_cons_succ, List.length_cons, List.length_nil, Nat.reduceSub, Nat.reduceAdd, Nat.reduceLeDiff, true_and, and_true, ne_eq, not_true_eq_false, not_false_eq_true, forall_const, wipeE, big0, big1, big2, big3, big4, big5, big6, big7, big8, big9, fSl]
    rw [cut_two (by omega)]
    refine ⟨le_big (by simp; omega), ?_⟩
    exact flat _ _ A2 (by rw [lo_tup]; exact loAll_app isD_all_lo (loAll_take (loAll_drop isD_all_lo))) fun S4 => .len _ rfl (by simp; omega)
  · -- another thing
    simp only [fIx, ati, w_var, w_c, w_bin, w_un, w_dB, wt_and, wt_or, wt_not, w_if, w_andV, w_orV, w_notV, w_anil, w_acons, w_call, w_app, w_tup, w_lst, w_dict, w_onone, w_osome, w_sl, w_tru, w_chain, w_meth, w_lc, w_nop, w_brk, w_cnt, w_seq, w_ret, w_retN, w_drop, w_ifS, w_asg, w_gN, w_gN0, w_gT, w_gT0, w_gnil, w_gnil0, w_gcons, w_gnsnil0, w_gnscons0, w_gsub, w_par, w_par3, w_aug, w_for, w_range1, w_range2, w_seqI, w_enum, okO_some, okS_some, okV_some, okB_bl, okI_int, okT_tup, okC_some, okQ_tup, okO_newL, okO_if, okO_ifL, okS_if, ok2_two, ok3_three, Sh.f1, Sh.f2, br_true, br_false, br_dec, br_not, atI_0, atI_1, atI_2, atI_3, atI_4, Option.map_some, ok_val, List.map_cons, List.map_nil, List.cons_append, List.nil_append, List.replicate_succ, List.replicate_zero, List.getElem?_cons_zero, List.getElem?_cons_succ, List.set_cons_zero, List.set_cons_succ, List.length_cons, List.length_nil, Nat.reduceSub, Nat.reduceAdd, Nat.reduceLeDiff, true_and, and_true, ne_eq, not_true_eq_false, not_false_eq_true, forall_const, wipeE, big0, big1, big2, big3, big4, big5, big6, big7, big8, big9, List.append_assoc, List.length_append, Nat.zero_add, Nat.add_zero, Nat.add_assoc, Nat.reduceAdd]
    refine grind_ok' (A2.ms.app _) (by decide) (small (by decide)) fun k S3 hk hA3 hl3 => ?_
    have A3 := (A2.grow _).trans hA3
    have m2 := hA2.ms.lt
    have g1 : S3[S2.length]? = some (.lst [.tup (isD hs)]) := hA3.get off0 (by omega)
    have g2 := hA3.get (get_off (S := S2) (T := [.lst [.tup (isD hs)], .lst [.non, .int 0, .bl true, .str (Str.ofString ""), .tup [.tup (isD hs)], .loc S2.length, .int (hs.getD at_ 0)]]) (k := 1)) (by omega)
    simp only [fIx, g2, w_var, w_c, w_bin, w_un, w_dB, wt_and, wt_or, wt_not, w_if, w_andV, w_orV, w_notV, w_anil, w_acons, w_call, w_app, w_tup, w_lst, w_dict, w_onone, w_osome, w_sl, w_tru, w_chain, w_meth, w_lc, w_nop, w_brk, w_cnt, w_seq, w_ret, w_retN, w_drop, w_ifS, w_asg, w_gN, w_gN0, w_gT, w_gT0, w_gnil, w_gnil0, w_gcons, w_gnsnil0, w_gnscons0, w_gsub, w_par, w_par3, w_aug, w_for, w_range1, w_range2, w_seqI, w_enum, okO_some, okS_some, okV_some, okB_bl, okI_int, okT_tup, okC_some, okQ_tup, okO_newL, okO_if, okO_ifL, okS_if, ok2_two, ok3_three, Sh.f1, Sh.f2, br_true, br_false, br_dec, br_not, atI_0, atI_1, atI_2, atI_3, atI_4, Option.map_some, ok_val, List.map_cons, List.map_nil, List.cons_append, List.nil_append, List.replicate_succ, List.replicate_zero, List.getElem?_cons_zero, List.getElem?_cons_succ, List.set_cons_zero, List.set_cons_succ, List.length_cons, List.length_nil, Nat.reduceSub, Nat.reduceAdd, Nat.reduceLeDiff, true_and, and_true, ne_eq, not_true_eq_false, not_false_eq_true, forall_const, wipeE, big0, big1, big2, big3, big4, big5, big6, big7, big8, big9]
    have : k = 0 ∨ k = 1 ∨ k = 2 ∨ k = 3 ∨ k = 4 ∨ k = 5 ∨ k = 6 := by omega
    rcases this with rfl | rfl | rfl | rfl | rfl | rfl | rfl
    · exact flat .non _ A3 (by rw [lo_non]; exact True.intro) fun S4 => .ty "NoneType" rfl (by decide)
    · exact flat (.int 0) _ A3 (by rw [lo_int]; exact True.intro) fun S4 => .ty "int" rfl (by decide)
    · exact flat (.bl true) _ A3 (by rw [lo_bl]; exact True.intro) fun S4 => .ty "bool" rfl (by decide)
    · exact flat (.str (Str.ofString "")) _ A3 (by rw [lo_str]; exact True.intro) fun S4 => .ty "str" rfl (by decide)
    · refine flat (.tup [.tup (isD hs)]) _ A3 (by rw [lo_tup, la_cons, lo_tup, la_nil]; exact ⟨isD_all_lo, True.intro⟩) fun S4 => ?_
      by_cases z : n = 1
      · exact .item _ rfl (by simp [z]) (fun x hx => by simp at hx; rw [hx]; exact ⟨"tuple", rfl⟩) ⟨.tup (isD hs), by simp, by simp [tyOf]⟩
      · exact .len _ rfl (by simp; omega)
    · exact fresh S2.length _ _ A3 A2.len g1 (by rw [la_cons, lo_tup, la_nil]; exact ⟨isD_all_lo, True.intro⟩)
    · exact flat (.int (hs.getD at_ 0)) _ A3 (by rw [lo_int]; exact True.intro) fun S4 => .ty "int" rfl (by decide)
  · -- one odd item
    simp only [fIx, ati, w_var, w_c, w_bin, w_un, w_dB, wt_and, wt_or, wt_not, w_if, w_andV, w_orV, w_notV, w_anil, w_acons, w_call, w_app, w_tup, w_lst, w_dict, w_onone, w_osome, w_sl, w_tru, w_chain, w_meth, w_lc, w_nop, w_brk, w_cnt, w_seq, w_ret, w_retN, w_drop, w_ifS, w_asg, w_gN, w_gN0, w_gT, w_gT0, w_gnil, w_gnil0, w_gcons, w_gnsnil0, w_gnscons0, w_gsub, w_par, w_par3, w_aug, w_for, w_range1, w_range2, w_seqI, w_enum, okO_some, okS_some, okV_some, okB_bl, okI_int, okT_tup, okC_some, okQ_tup, okO_newL, okO_if, okO_ifL, okS_if, ok2_two, ok3_three, Sh.f1, Sh.f2, br_true, br_false, br_dec, br_not, atI_0, atI_1, atI_2, atI_3, atI_4, Option.map_some, ok_val, List.map_cons, List.map_nil, List.cons_append, List.nil_append, List.replicate_succ, List.replicate_zero, List.getElem?_cons_zero, List.getElem?_cons_succ, List.set_cons_zero, List.set_cons_succ, List.length_cons, List.length_nil, Nat.reduceSub, Nat.reduceAdd, Nat.reduceLeDiff, true_and, and_true, ne_eq, not_true_eq_false, not_false_eq_true, forall_const, wipeE, big0, big1, big2, big3, big4, big5, big6, big7, big8, big9, List.append_assoc, List.length_append, Nat.zero_add, Nat.add_zero, Nat.add_assoc, Nat.reduceAdd]
    refine grind_ok' (A2.ms.app _) (by decide) (small (by decide)) fun k S3 hk hA3 hl3 => ?_
    have A3 := (A2.grow _).trans hA3
    have m2 := hA2.ms.lt
    have g1 : S3[S2.length]? = some (.lst [.int (hs.getD at_ 0)]) := hA3.get off0 (by omega)
    have g2 := hA3.get (get_off (S := S2) (T := [.lst [.int (hs.getD at_ 0)], .lst [.non, .str (Str.ofString "0"), .tup [.int (hs.getD at_ 0)], .loc S2.length, .str (Str.ofString ""), .tup []]]) (k := 1)) (by omega)
    try simp only [fIx, g2, w_var, w_c, w_bin, w_un, w_dB, wt_and, wt_or, wt_not, w_if, w_andV, w_orV, w_notV, w_anil, w_acons, w_call, w_app, w_tup, w_lst, w_dict, w_onone, w_osome, w_sl, w_tru, w_chain, w_meth, w_lc, w_nop, w_brk, w_cnt, w_seq, w_ret, w_retN, w_drop, w_ifS, w_asg, w_gN, w_gN0, w_gT, w_gT0, w_gnil, w_gnil0, w_gcons, w_gnsnil0, w_gnscons0, w_gsub, w_par, w_par3, w_aug, w_for, w_range1, w_range2, w_seqI, w_enum, okO_some, okS_some, okV_some, okB_bl, okI_int, okT_tup, okC_some, okQ_tup, okO_newL, okO_if, okO_ifL, okS_if, ok2_two, ok3_three, Sh.f1, Sh.f2, br_true, br_false, br_dec, br_not, atI_0, atI_1, atI_2, atI_3, atI_4, Option.map_some, ok_val, List.map_cons, List.map_nil, List.cons_append, List.nil_append, List.replicate_succ, List.replicate_zero, List.getElem?_cons_zero, List.getElem?_cons_succ, List.set_cons_zero, List.set_cons_succ, List.length_cons, List.length_nil, Nat.reduceSub, Nat.reduceAdd, Nat.reduceLeDiff, true_and, and_true, ne_eq, not_true_eq_false, not_false_eq_true, forall_const, wipeE, big0, big1, big2, big3, big4, big5, big6, big7, big8, big9]
    have e1 : Sh.cutD (isD hs) (some ((at_ : Int) + 1)) none = (isD hs).drop (at_ + 1) := cut_drop (a := at_ + 1) (by omega)
    have odd : ∃ (o : D) (t : String), atI [D.non, .str (Str.ofString "0"), .tup [.int (hs.getD at_ 0)], .loc S2.length, .str (Str.ofString ""), .tup []] (k : Nat) = some o ∧ tyOf o S3 = some t ∧ t ≠ "int" ∧ ((∀ S4, tyOf o S4 = some t) ∧ o.lo S.length ∨ o = .loc S2.length) := by
      have : k = 0 ∨ k = 1 ∨ k = 2 ∨ k = 3 ∨ k = 4 ∨ k = 5 := by omega
      rcases this with rfl | rfl | rfl | rfl | rfl | rfl
      · exact ⟨_, "NoneType", rfl, rfl, by decide, .inl ⟨fun _ => rfl, by rw [lo_non]; exact True.intro⟩⟩
      · exact ⟨_, "str", rfl, rfl, by decide, .inl ⟨fun _ => rfl, by rw [lo_str]; exact True.intro⟩⟩
      · exact ⟨_, "tuple", rfl, rfl, by decide, .inl ⟨fun _ => rfl, by rw [lo_tup, la_cons, lo_int, la_nil]; exact ⟨True.intro, True.intro⟩⟩⟩
      · exact ⟨_, "list", rfl, by simp only [tyOf, g1], by decide, .inr rfl⟩
      · exact ⟨_, "str", rfl, rfl, by decide, .inl ⟨fun _ => rfl, by rw [lo_str]; exact True.intro⟩⟩
      · exact ⟨_, "tuple", rfl, rfl, by decide, .inl ⟨fun _ => rfl, by rw [lo_tup, la_nil]; exact True.intro⟩⟩
    obtain ⟨o, t, ho, ht, hne, hcase⟩ := odd
    simp only [ho, w_var, w_c, w_bin, w_un, w_dB, wt_and, wt_or, wt_not, w_if, w_andV, w_orV, w_notV, w_anil, w_acons, w_call, w_app, w_tup, w_lst, w_dict, w_onone, w_osome, w_sl, w_tru, w_chain, w_meth, w_lc, w_nop, w_brk, w_cnt, w_seq, w_ret, w_retN, w_drop, w_ifS, w_asg, w_gN, w_gN0, w_gT, w_gT0, w_gnil, w_gnil0, w_gcons, w_gnsnil0, w_gnscons0, w_gsub, w_par, w_par3, w_aug, w_for, w_range1, w_range2, w_seqI, w_enum, okO_some, okS_some, okV_some, okB_bl, okI_int, okT_tup, okC_some, okQ_tup, okO_newL, okO_if, okO_ifL, okS_if, ok2_two, ok3_three, Sh.f1, Sh.f2, br_true, br_false, br_dec, br_not, atI_0, atI_1, atI_2, atI_3, atI_4, Option.map_some, ok_val, List.map_cons, List.map_nil, List.cons_append, List.nil_append, List.replicate_succ, List.replicate_zero, List.getElem?_cons_zero, List.getElem?_cons_succ, List.set_cons_zero, List.set_cons_succ, List.length_cons, List.length_nil, Nat.reduceSub, Nat.reduceAdd, Nat.reduceLeDiff, true_and, and_true, ne_eq, not_true_eq_false, not_false_eq_true, forall_const, wipeE, big0, big1, big2, big3, big4, big5, big6, big7, big8, big9]
    refine ⟨fun h4 => ?_, fun h4 => ?_⟩
    · simp only [fSl, cut_take (show at_ ≤ (isD hs).length by omega), e1, fAdd, w_var, w_c, w_bin, w_un, w_dB, wt_and, wt_or, wt_not, w_if, w_andV, w_orV, w_notV, w_anil, w_acons, w_call, w_app, w_tup, w_lst, w_dict, w_onone, w_osome, w_sl, w_tru, w_chain, w_meth, w_lc, w_nop, w_brk, w_cnt, w_seq, w_ret, w_retN, w_drop, w_ifS, w_asg, w_gN, w_gN0, w_gT, w_gT0, w_gnil, w_gnil0, w_gcons, w_gnsnil0, w_gnscons0, w_gsub, w_par, w_par3, w_aug, w_for, w_range1, w_range2, w_seqI, w_enum, okO_some, okS_some, okV_some, okB_bl, okI_int, okT_tup, okC_some, okQ_tup, okO_newL, okO_if, okO_ifL, okS_if, ok2_two, ok3_three, Sh.f1, Sh.f2, br_true, br_false, br_dec, br_not, atI_0, atI_1, atI_2, atI_3, atI_4, Option.map_some, ok_val, List.map_cons, List.map_nil, List.cons_append, List.nil_append, List.replicate_succ, List.replicate_zero, List.getElem?_cons_zero, List.getElem?_cons_succ, List.set_cons_zero, List.set_cons_succ, List.length_cons, List.length_nil, Nat.reduceSub, Nat.reduceAdd, Nat.reduceLeDiff, true_and, and_true, ne_eq, not_true_eq_false, not_false_eq_true, forall_const, wipeE, big0, big1, big2, big3, big4, big5, big6, big7, big8, big9, List.length_append, List.length_take, List.length_drop]
      refine ⟨le_big (by omega), le_big (by omega), ?_⟩
      rcases hcase with ⟨hty, hlo⟩ | rfl
      · refine flat _ _ A3 ?_ fun S4 => bad_odd hh hat (hty S4) hne
        rw [lo_tup]
        refine loAll_app (loAll_app (loAll_take isD_all_lo) ?_) (loAll_drop isD_all_lo)
        rw [la_cons, la_nil]; exact ⟨hlo, True.intro⟩
      · rw [gc_tup]
        · exact hQ _ _ A3 (bad_odd hh hat ht hne)
        · rw [loAll_iff]
          intro z
          have := z (.loc S2.length) (by simp)
          rw [lo_loc] at this
          have := A2.len
          omega
    · -- True in the place of 1
      unfold d_law_bent_r1
      simp only [w_var, w_c, w_bin, w_un, w_dB, wt_and, wt_or, wt_not, w_if, w_andV, w_orV, w_notV, w_anil, w_acons, w_call, w_app, w_tup, w_lst, w_dict, w_onone, w_osome, w_sl, w_tru, w_chain, w_meth, w_lc, w_nop, w_brk, w_cnt, w_seq, w_ret, w_retN, w_drop, w_ifS, w_asg, w_gN, w_gN0, w_gT, w_gT0, w_gnil, w_gnil0, w_gcons, w_gnsnil0, w_gnscons0, w_gsub, w_par, w_par3, w_aug, w_for, w_range1, w_range2, w_seqI, w_enum, okO_some, okS_some, okV_some, okB_bl, okI_int, okT_tup, okC_some, okQ_tup, okO_newL, okO_if, okO_ifL, okS_if, ok2_two, ok3_three, Sh.f1, Sh.f2, br_true, br_false, br_dec, br_not, atI_0, atI_1, atI_2, atI_3, atI_4, Option.map_some, ok_val, List.map_cons, List.map_nil, List.cons_append, List.nil_append, List.replicate_succ, List.replicate_zero, List.getElem?_cons_zero, List.getElem?_cons_succ, List.set_cons_zero, List.set_cons_succ, List.length_cons, List.length_nil, Nat.reduceSub, Nat.reduceAdd, Nat.reduceLeDiff, true_and, and_true, ne_eq, not_true_eq_false, not_false_eq_true, forall_const, wipeE, big0, big1, big2, big3, big4, big5, big6, big7, big8, big9]
      refine comp_pure (fun i => .int (hs.getD i 0 - hs.getD at_ 0 + 1)) (le_big (by omega)) (fun _ => True.intro) (fun i d acc hd => ?_) ?_
      · have hi : i < hs.length := by
          have := (List.getElem?_eq_some_iff.mp hd).1
          simpa using this
        rw [List.getElem?_map, List.getElem?_eq_getElem hi] at hd
        cases hd
        simp only [w_var, w_c, w_bin, w_un, w_dB, wt_and, wt_or, wt_not, w_if, w_andV, w_orV, w_notV, w_anil, w_acons, w_call, w_app, w_tup, w_lst, w_dict, w_onone, w_osome, w_sl, w_tru, w_chain, w_meth, w_lc, w_nop, w_brk, w_cnt, w_seq, w_ret, w_retN, w_drop, w_ifS, w_asg, w_gN, w_gN0, w_gT, w_gT0, w_gnil, w_gnil0, w_gcons, w_gnsnil0, w_gnscons0, w_gsub, w_par, w_par3, w_aug, w_for, w_range1, w_range2, w_seqI, w_enum, okO_some, okS_some, okV_some, okB_bl, okI_int, okT_tup, okC_some, okQ_tup, okO_newL, okO_if, okO_ifL, okS_if, ok2_two, ok3_three, Sh.f1, Sh.f2, br_true, br_false, br_dec, br_not, atI_0, atI_1, atI_2, atI_3, atI_4, Option.map_some, ok_val, List.map_cons, List.map_nil, List.cons_append, List.nil_append, List.replicate_succ, List.replicate_zero, List.getElem?_cons_zero, List.getElem?_cons_succ, List.set_cons_zero, List.set_cons_succ, List.length_cons, List.length_nil, Nat.reduceSub, Nat.reduceAdd, Nat.reduceLeDiff, true_and, and_true, ne_eq, not_true_eq_false, not_false_eq_true, forall_const, wipeE, big0, big1, big2, big3, big4, big5, big6, big7, big8, big9, tYesD, fIx, ati, fSub, fInt, if_true, fAdd]
        simp [List.getD_eq_getElem?_getD, hi]
      · have em : List.map (fun i => D.int (hs.getD i 0 - hs.getD at_ 0 + 1)) (List.range (isD hs).length) = isD ((List.range n).map fun i => hs.getD i 0 - hs.getD at_ 0 + 1) := by
          rw [hlen]; simp [isD]
        rw [em]
        generalize hms : (List.range n).map (fun i => hs.getD i 0 - hs.getD at_ 0 + 1) = ms
        have hml : ms.length = n := by rw [← hms]; simp
        have hmd : (isD ms).length = n := by simp [hml]
        have e2 : Sh.cutD (isD ms) (some ((at_ : Int) + 1)) none = (isD ms).drop (at_ + 1) := cut_drop (a := at_ + 1) (by omega)
        simp only [w_var, w_c, w_bin, w_un, w_dB, wt_and, wt_or, wt_not, w_if, w_andV, w_orV, w_notV, w_anil, w_acons, w_call, w_app, w_tup, w_lst, w_dict, w_onone, w_osome, w_sl, w_tru, w_chain, w_meth, w_lc, w_nop, w_brk, w_cnt, w_seq, w_ret, w_retN, w_drop, w_ifS, w_asg, w_gN, w_gN0, w_gT, w_gT0, w_gnil, w_gnil0, w_gcons, w_gnsnil0, w_gnscons0, w_gsub, w_par, w_par3, w_aug, w_for, w_range1, w_range2, w_seqI, w_enum, okO_some, okS_some, okV_some, okB_bl, okI_int, okT_tup, okC_some, okQ_tup, okO_newL, okO_if, okO_ifL, okS_if, ok2_two, ok3_three, Sh.f1, Sh.f2, br_true, br_false, br_dec, br_not, atI_0, atI_1, atI_2, atI_3, atI_4, Option.map_some, ok_val, List.map_cons, List.map_nil, List.cons_append, List.nil_append, List.replicate_succ, List.replicate_zero, List.getElem?_cons_zero, List.getElem?_cons_succ, List.set_cons_zero, List.set_cons_succ, List.length_cons, List.length_nil, Nat.reduceSub, Nat.reduceAdd, Nat.reduceLeDiff, true_and, and_true, ne_eq, not_true_eq_false, not_false_eq_true, forall_const, wipeE, big0, big1, big2, big3, big4, big5, big6, big7, big8, big9, fTuple, seqOf, lstAt, off0, fSl, cut_take (show at_ ≤ (isD ms).length by omega), fAdd, e2, List.length_append, List.length_take, List.length_drop]
        refine ⟨le_big (by omega), le_big (by omega), ?_⟩
        refine flat _ _ (A3.grow _) ?_ fun S4 => bad_odd (t := "bool") hml hat rfl (by decide)
        rw [lo_tup]
        refine loAll_app (loAll_app (loAll_take isD_all_lo) ?_) (loAll_drop isD_all_lo)
        rw [la_cons, la_nil, lo_bl]; exact ⟨True.intro, True.intro⟩
end K68

set_option Elab.async false
set_option linter.all false
set_option maxRecDepth 100000
set_option maxHeartbeats 4000000
set_option autoImplicit false
namespace K68
open PySem PySem.Spec PyProof.Rows L2 Sh RX

theorem isD_set {l : List Int} {k : Nat} {x : Int} : (isD l).set k (.int x) = isD (l.set k x) := by
  show (l.map D.int).set k (D.int x) = (l.set k x).map D.int
  rw [List.map_set]
theorem set_ix {l : List Int} {k : Nat} {x : Int} {p : Nat} {S : Sto} {Q : Sto → Prop} (hk : k < l.length) (h : S[p]? = some (.lst (isD l))) (hQ : Q (S.set p (.lst (isD (l.set k x))))) : okS (fSet (.loc p) (.int (k : Nat)) (.int x) S) Q := by
  simp only [fSet, h, List.length_map, ixN_nat hk, Option.map_some, okS_some, isD_set]
  exact hQ
/-- potentials of the changed heights, as the law and as the program say -/
theorem both_ok {E : List Ed} {n p b : Nat} {hs : List Int} {S : Sto} (hE : ∀ e ∈ E, e.1 < n ∧ e.2.1 < n) (hn : n < 1000) (hl : E.length < 900) (hh : hs.length = n) (hS : S[p]? = some (.lst (esD E))) (hb : S[b]? = some (.lst (isD hs))) {X : Ex → Sto → Prop} {Q : D → Sto → Prop} (hQ : Q (.bl true) S) :
    (d_is_potentials [.int (n : Nat), .tup (esD E), .tup (isD hs)] S).ok (fun a S1 => (d_law_fits [.loc p, .loc b] S1).ok (fun a2 S2 => (d_law_truth [a, a2] S2).ok Q X) X) X :=
  pot_ints hE hn hl hh (fits_ok hE hh hS hb (truth_ok rfl hQ))
theorem judged_ok {M : Mil} {S : Sto} {n p : Nat} {E : List Ed} {hs : List Int} {t : Ed} (hM : MS M S) (hn1 : 1 ≤ n) (hn : n < 200) (hE : ∀ e ∈ E, e.1 < n ∧ e.2.1 < n) (hl : E.length < 900) (hh : hs.length = n)
    (hok : ∀ e ∈ E, hs.getD e.2.1 0 ≤ hs.getD e.1 0 + e.2.2) (ht : t.2.1 < n) (hS : S[p]? = some (.lst (esD E))) (hpm : M.m ≠ p)
    {X : Ex → Sto → Prop} {Q : D → Sto → Prop} (hQ : ∀ S', After M S S' → S'.length = S.length → Q (.bl true) S') : (d_law_judged [.loc M.m, .int (n : Nat), .loc p, .tup (isD hs), eD t] S).ok Q X := by
  have lt := hM.lt
  have hpot : Pot E fun v => hs.getD v 0 := hok
  have hst0 : chg (passes E z0 n) E = false := still_n hE hpot
  unfold d_law_judged
  rw [w_fn]
  refine ⟨rfl, ?_⟩
  unfold d_law_judged_b d_law_judged_r14 d_law_judged_r13
  simp only [w_var, w_c, w_bin, w_un, w_dB, wt_and, wt_or, wt_not, w_if, w_andV, w_orV, w_notV, w_anil, w_acons, w_call, w_app, w_tup, w_lst, w_dict, w_onone, w_osome, w_sl, w_tru, w_chain, w_meth, w_lc, w_nop, w_brk, w_cnt, w_seq, w_ret, w_retN, w_drop, w_ifS, w_asg, w_gN, w_gN0, w_gT, w_gT0, w_gnil, w_gnil0, w_gcons, w_gnsnil0, w_gnscons0, w_gsub, w_par, w_par3, w_aug, w_for, w_range1, w_range2, w_seqI, w_enum, okO_some, okS_some, okV_some, okB_bl, okI_int, okT_tup, okC_some, okQ_tup, okO_newL, okO_if, okO_ifL, okS_if, ok2_two, ok3_three, Sh.f1, Sh.f2, br_true, br_false, br_dec, br_not, atI_0, atI_1, atI_2, atI_3, atI_4, Option.map_some, ok_val, List.map_cons, List.map_nil, List.cons_append, List.nil_append, List.replicate_succ, List.replicate_zero, List.getElem?_cons_zero, List.getElem?_cons_succ, List.set_cons_zero, List.set_cons_succ, List.length_cons, List.length_nil, Nat.reduceSub, Nat.reduceAdd, Nat.reduceLeDiff, true_and, and_true, ne_eq, not_true_eq_false, not_false_eq_true, forall_const, wipeE, big0, big1, big2, big3, big4, big5, big6, big7, big8, big9, fTuple, seqOf, lstAt, hS]
  refine grind_ok' hM (by decide) (small (by decide)) fun more S1 _ hA1 hl1 => ?_
  simp only [fSub, fInt, if_true, w_var, w_c, w_bin, w_un, w_dB, wt_and, wt_or, wt_not, w_if, w_andV, w_orV, w_notV, w_anil, w_acons, w_call, w_app, w_tup, w_lst, w_dict, w_onone, w_osome, w_sl, w_tru, w_chain, w_meth, w_lc, w_nop, w_brk, w_cnt, w_seq, w_ret, w_retN, w_drop, w_ifS, w_asg, w_gN, w_gN0, w_gT, w_gT0, w_gnil, w_gnil0, w_gcons, w_gnsnil0, w_gnscons0, w_gsub, w_par, w_par3, w_aug, w_for, w_range1, w_range2, w_seqI, w_enum, okO_some, okS_some, okV_some, okB_bl, okI_int, okT_tup, okC_some, okQ_tup, okO_newL, okO_if, okO_ifL, okS_if, ok2_two, ok3_three, Sh.f1, Sh.f2, br_true, br_false, br_dec, br_not, atI_0, atI_1, atI_2, atI_3, atI_4, Option.map_some, ok_val, List.map_cons, List.map_nil, List.cons_append, List.nil_append, List.replicate_succ, List.replicate_zero, List.getElem?_cons_zero, List.getElem?_cons_succ, List.set_cons_zero, List.set_cons_succ, List.length_cons, List.length_nil, Nat.reduceSub, Nat.reduceAdd, Nat.reduceLeDiff, true_and, and_true, ne_eq, not_true_eq_false, not_false_eq_true, forall_const, wipeE, big0, big1, big2, big3, big4, big5, big6, big7, big8, big9]
  generalize (more : Int) - 500 = mo
  refine comp_pure (fun i => .int (hs.getD i 0 + mo)) (le_big (by simp; omega)) (fun _ => True.intro) (fun i d acc hd => ?_) ?_
  · have hi : i < hs.length := by
      have := (List.getElem?_eq_some_iff.mp hd).1
      simpa using this
    rw [List.getElem?_map, List.getElem?_eq_getElem hi] at hd
    cases hd
    simp only [w_var, w_c, w_bin, w_un, w_dB, wt_and, wt_or, wt_not, w_if, w_andV, w_orV, w_notV, w_anil, w_acons, w_call, w_app, w_tup, w_lst, w_dict, w_onone, w_osome, w_sl, w_tru, w_chain, w_meth, w_lc, w_nop, w_brk, w_cnt, w_seq, w_ret, w_retN, w_drop, w_ifS, w_asg, w_gN, w_gN0, w_gT, w_gT0, w_gnil, w_gnil0, w_gcons, w_gnsnil0, w_gnscons0, w_gsub, w_par, w_par3, w_aug, w_for, w_range1, w_range2, w_seqI, w_enum, okO_some, okS_some, okV_some, okB_bl, okI_int, okT_tup, okC_some, okQ_tup, okO_newL, okO_if, okO_ifL, okS_if, ok2_two, ok3_three, Sh.f1, Sh.f2, br_true, br_false, br_dec, br_not, atI_0, atI_1, atI_2, atI_3, atI_4, Option.map_some, ok_val, List.map_cons, List.map_nil, List.cons_append, List.nil_append, List.replicate_succ, List.replicate_zero, List.getElem?_cons_zero, List.getElem?_cons_succ, List.set_cons_zero, List.set_cons_succ, List.length_cons, List.length_nil, Nat.reduceSub, Nat.reduceAdd, Nat.reduceLeDiff, true_and, and_true, ne_eq, not_true_eq_false, not_false_eq_true, forall_const, wipeE, big0, big1, big2, big3, big4, big5, big6, big7, big8, big9, tYesD, fAdd]
    simp [List.getD_eq_getElem?_getD, hi]
  have em : List.map (fun i => D.int (hs.getD i 0 + mo)) (List.range (isD hs).length) = isD ((List.range n).map fun i => hs.getD i 0 + mo) := by
    rw [List.length_map, hh]; simp [isD]
  rw [em]
  have hmv : ∃ mv : List Int, mv = (List.range n).map (fun i => hs.getD i 0 + mo) := ⟨_, rfl⟩
  obtain ⟨mv, emv⟩ := hmv
  rw [← emv]
  have hml : mv.length = n := by rw [emv]; simp
  have hmg : ∀ v, v < n → mv.getD v 0 = hs.getD v 0 + mo := fun v hv => by rw [emv]; simp [List.getD_eq_getElem?_getD, hv]
  unfold d_law_judged_r12
  simp only [w_var, w_c, w_bin, w_un, w_dB, wt_and, wt_or, wt_not, w_if, w_andV, w_orV, w_notV, w_anil, w_acons, w_call, w_app, w_tup, w_lst, w_dict, w_onone, w_osome, w_sl, w_tru, w_chain, w_meth, w_lc, w_nop, w_brk, w_cnt, w_seq, w_ret, w_retN, w_drop, w_ifS, w_asg, w_gN, w_gN0, w_gT, w_gT0, w_gnil, w_gnil0, w_gcons, w_gnsnil0, w_gnscons0, w_gsub, w_par, w_par3, w_aug, w_for, w_range1, w_range2, w_seqI, w_enum, okO_some, okS_some, okV_some, okB_bl, okI_int, okT_tup, okC_some, okQ_tup, okO_newL, okO_if, okO_ifL, okS_if, ok2_two, ok3_three, Sh.f1, Sh.f2, br_true, br_false, br_dec, br_not, atI_0, atI_1, atI_2, atI_3, atI_4, Option.map_some, ok_val, List.map_cons, List.map_nil, List.cons_append, List.nil_append, List.replicate_succ, List.replicate_zero, List.getElem?_cons_zero, List.getElem?_cons_succ, List.set_cons_zero, List.set_cons_succ, List.length_cons, List.length_nil, Nat.reduceSub, Nat.reduceAdd, Nat.reduceLeDiff, true_and, and_true, ne_eq, not_true_eq_false, not_false_eq_true, forall_const, wipeE, big0, big1, big2, big3, big4, big5, big6, big7, big8, big9, off0, fNeg]
  have A1 := hA1.grow [Ob.lst (isD mv)]
  refine ways_ok (s0 := z0) hE (by omega) (A1.get hS hpm) (fun k hk => ?_) (fun _ => ?_) (fun hc => by rw [hst0] at hc; cases hc)
  · have : ¬ ((k : Int) ≠ -1 ∧ (0 : Int) ≤ -1) := fun z => by omega
    rw [if_neg this]; rfl
  rw [suD_zs]
  unfold d_law_judged_r11
  simp only [w_var, w_c, w_bin, w_un, w_dB, wt_and, wt_or, wt_not, w_if, w_andV, w_orV, w_notV, w_anil, w_acons, w_call, w_app, w_tup, w_lst, w_dict, w_onone, w_osome, w_sl, w_tru, w_chain, w_meth, w_lc, w_nop, w_brk, w_cnt, w_seq, w_ret, w_retN, w_drop, w_ifS, w_asg, w_gN, w_gN0, w_gT, w_gT0, w_gnil, w_gnil0, w_gcons, w_gnsnil0, w_gnscons0, w_gsub, w_par, w_par3, w_aug, w_for, w_range1, w_range2, w_seqI, w_enum, okO_some, okS_some, okV_some, okB_bl, okI_int, okT_tup, okC_some, okQ_tup, okO_newL, okO_if, okO_ifL, okS_if, ok2_two, ok3_three, Sh.f1, Sh.f2, br_true, br_false, br_dec, br_not, atI_0, atI_1, atI_2, atI_3, atI_4, Option.map_some, ok_val, List.map_cons, List.map_nil, List.cons_append, List.nil_append, List.replicate_succ, List.replicate_zero, List.getElem?_cons_zero, List.getElem?_cons_succ, List.set_cons_zero, List.set_cons_succ, List.length_cons, List.length_nil, Nat.reduceSub, Nat.reduceAdd, Nat.reduceLeDiff, true_and, and_true, ne_eq, not_true_eq_false, not_false_eq_true, forall_const, wipeE, big0, big1, big2, big3, big4, big5, big6, big7, big8, big9]
  refine ⟨rgOk_nat (by omega), ?_⟩
  have A2 := A1.grow [Ob.lst (isD (zs E n))]
  refine comp_pure (fun i => .int (if (zs E n).getD i 0 < mv.getD i 0 then (zs E n).getD i 0 else mv.getD i 0)) (le_big (by simp; omega)) (fun _ => True.intro) (fun i d acc hd => ?_) ?_
  · obtain ⟨hi, rfl⟩ := range_at hd
    have hi : i < n := by simpa using hi
    have hz : (S1 ++ [Ob.lst (isD mv)] ++ [Ob.lst (isD (zs E n))] ++ [Ob.lst acc])[(S1 ++ [Ob.lst (isD mv)]).length]? = some (.lst (isD (zs E n))) := get_app off0
    simp only [w_var, w_c, w_bin, w_un, w_dB, wt_and, wt_or, wt_not, w_if, w_andV, w_orV, w_notV, w_anil, w_acons, w_call, w_app, w_tup, w_lst, w_dict, w_onone, w_osome, w_sl, w_tru, w_chain, w_meth, w_lc, w_nop, w_brk, w_cnt, w_seq, w_ret, w_retN, w_drop, w_ifS, w_asg, w_gN, w_gN0, w_gT, w_gT0, w_gnil, w_gnil0, w_gcons, w_gnsnil0, w_gnscons0, w_gsub, w_par, w_par3, w_aug, w_for, w_range1, w_range2, w_seqI, w_enum, okO_some, okS_some, okV_some, okB_bl, okI_int, okT_tup, okC_some, okQ_tup, okO_newL, okO_if, okO_ifL, okS_if, ok2_two, ok3_three, Sh.f1, Sh.f2, br_true, br_false, br_dec, br_not, atI_0, atI_1, atI_2, atI_3, atI_4, Option.map_some, ok_val, List.map_cons, List.map_nil, List.cons_append, List.nil_append, List.replicate_succ, List.replicate_zero, List.getElem?_cons_zero, List.getElem?_cons_succ, List.set_cons_zero, List.set_cons_succ, List.length_cons, List.length_nil, Nat.reduceSub, Nat.reduceAdd, Nat.reduceLeDiff, true_and, and_true, ne_eq, not_true_eq_false, not_false_eq_true, forall_const, wipeE, big0, big1, big2, big3, big4, big5, big6, big7, big8, big9, tYesD, fIx, isD_at (show i < mv.length by omega), hz, isD_at (show i < (zs E n).length by rw [zs_len]; exact hi), fMin2]
  have el : List.map (fun i => D.int (if (zs E n).getD i 0 < mv.getD i 0 then (zs E n).getD i 0 else mv.getD i 0)) (List.range (List.map (fun i => D.int (0 + ((i : Nat) : Int))) (List.range (n : Int).toNat)).length) = isD ((List.range n).map fun i => if (zs E n).getD i 0 < mv.getD i 0 then (zs E n).getD i 0 else mv.getD i 0) := by
    simp [isD]
  rw [el]
  have hlw : ∃ lw : List Int, lw = (List.range n).map (fun i => if (zs E n).getD i 0 < mv.getD i 0 then (zs E n).getD i 0 else mv.getD i 0) := ⟨_, rfl⟩
  obtain ⟨lw, elw⟩ := hlw
  rw [← elw]
  have hll : lw.length = n := by rw [elw]; simp
  have hlg : ∀ v, v < n → lw.getD v 0 = if (zs E n).getD v 0 < mv.getD v 0 then (zs E n).getD v 0 else mv.getD v 0 := fun v hv => by rw [elw]; simp [List.getD_eq_getElem?_getD, hv]
  have A3 := A2.grow [Ob.lst (isD lw)]
  have mvok : ∀ e ∈ E, mv.getD e.2.1 0 ≤ mv.getD e.1 0 + e.2.2 := fun e he => by
    rw [hmg _ (hE e he).1, hmg _ (hE e he).2]
    have := hok e he
    omega
  have lwok : ∀ e ∈ E, lw.getD e.2.1 0 ≤ lw.getD e.1 0 + e.2.2 := fun e he => by
    rw [hlg _ (hE e he).1, hlg _ (hE e he).2]
    have h1 := mvok e he
    have h2 := zs_fit hE hst0 e he
    split <;> split <;> omega
  have allt : ∀ l : List Int, (∀ e ∈ E, l.getD e.2.1 0 ≤ l.getD e.1 0 + e.2.2) → (E.all fun e => decide (l.getD e.2.1 0 ≤ l.getD e.1 0 + e.2.2)) = true := fun l h => List.all_eq_true.mpr fun e he => decide_eq_true (h e he)
  simp only [fTuple, seqOf, lstAt, off0, w_var, w_c, w_bin, w_un, w_dB, wt_and, wt_or, wt_not, w_if, w_andV, w_orV, w_notV, w_anil, w_acons, w_call, w_app, w_tup, w_lst, w_dict, w_onone, w_osome, w_sl, w_tru, w_chain, w_meth, w_lc, w_nop, w_brk, w_cnt, w_seq, w_ret, w_retN, w_drop, w_ifS, w_asg, w_gN, w_gN0, w_gT, w_gT0, w_gnil, w_gnil0, w_gcons, w_gnsnil0, w_gnscons0, w_gsub, w_par, w_par3, w_aug, w_for, w_range1, w_range2, w_seqI, w_enum, okO_some, okS_some, okV_some, okB_bl, okI_int, okT_tup, okC_some, okQ_tup, okO_newL, okO_if, okO_ifL, okS_if, ok2_two, ok3_three, Sh.f1, Sh.f2, br_true, br_false, br_dec, br_not, atI_0, atI_1, atI_2, atI_3, atI_4, Option.map_some, ok_val, List.map_cons, List.map_nil, List.cons_append, List.nil_append, List.replicate_succ, List.replicate_zero, List.getElem?_cons_zero, List.getElem?_cons_succ, List.set_cons_zero, List.set_cons_succ, List.length_cons, List.length_nil, Nat.reduceSub, Nat.reduceAdd, Nat.reduceLeDiff, true_and, and_true, ne_eq, not_true_eq_false, not_false_eq_true, forall_const, wipeE, big0, big1, big2, big3, big4, big5, big6, big7, big8, big9]
  generalize hS3 : S1 ++ [Ob.lst (isD mv)] ++ [.lst (isD (zs E n))] ++ [.lst (isD lw)] = S3 at *
  generalize (S1 ++ [Ob.lst (isD mv)]).length = k8
  unfold d_law_judged_r10
  simp only [w_var, w_c, w_bin, w_un, w_dB, wt_and, wt_or, wt_not, w_if, w_andV, w_orV, w_notV, w_anil, w_acons, w_call, w_app, w_tup, w_lst, w_dict, w_onone, w_osome, w_sl, w_tru, w_chain, w_meth, w_lc, w_nop, w_brk, w_cnt, w_seq, w_ret, w_retN, w_drop, w_ifS, w_asg, w_gN, w_gN0, w_gT, w_gT0, w_gnil, w_gnil0, w_gcons, w_gnsnil0, w_gnscons0, w_gsub, w_par, w_par3, w_aug, w_for, w_range1, w_range2, w_seqI, w_enum, okO_some, okS_some, okV_some, okB_bl, okI_int, okT_tup, okC_some, okQ_tup, okO_newL, okO_if, okO_ifL, okS_if, ok2_two, ok3_three, Sh.f1, Sh.f2, br_true, br_false, br_dec, br_not, atI_0, atI_1, atI_2, atI_3, atI_4, Option.map_some, ok_val, List.map_cons, List.map_nil, List.cons_append, List.nil_append, List.replicate_succ, List.replicate_zero, List.getElem?_cons_zero, List.getElem?_cons_succ, List.set_cons_zero, List.set_cons_succ, List.length_cons, List.length_nil, Nat.reduceSub, Nat.reduceAdd, Nat.reduceLeDiff, true_and, and_true, ne_eq, not_true_eq_false, not_false_eq_true, forall_const, wipeE, big0, big1, big2, big3, big4, big5, big6, big7, big8, big9]
  rw [okQ_lst off0]
  -- both potentials
  have itok : ∀ G : Sto, Iter.ok ⟨[.tup (isD mv), .tup (isD lw)], some (S3.length, [.tup (isD mv), .tup (isD lw)])⟩ (S3 ++ (.lst [.tup (isD mv), .tup (isD lw)] :: G)) := fun G => by
    show lstAt _ _ = _
    unfold lstAt
    rw [off0]; rfl
  refine for_cons ⟨itok [], ?_⟩
  simp only [w_var, w_c, w_bin, w_un, w_dB, wt_and, wt_or, wt_not, w_if, w_andV, w_orV, w_notV, w_anil, w_acons, w_call, w_app, w_tup, w_lst, w_dict, w_onone, w_osome, w_sl, w_tru, w_chain, w_meth, w_lc, w_nop, w_brk, w_cnt, w_seq, w_ret, w_retN, w_drop, w_ifS, w_asg, w_gN, w_gN0, w_gT, w_gT0, w_gnil, w_gnil0, w_gcons, w_gnsnil0, w_gnscons0, w_gsub, w_par, w_par3, w_aug, w_for, w_range1, w_range2, w_seqI, w_enum, okO_some, okS_some, okV_some, okB_bl, okI_int, okT_tup, okC_some, okQ_tup, okO_newL, okO_if, okO_ifL, okS_if, ok2_two, ok3_three, Sh.f1, Sh.f2, br_true, br_false, br_dec, br_not, atI_0, atI_1, atI_2, atI_3, atI_4, Option.map_some, ok_val, List.map_cons, List.map_nil, List.cons_append, List.nil_append, List.replicate_succ, List.replicate_zero, List.getElem?_cons_zero, List.getElem?_cons_succ, List.set_cons_zero, List.set_cons_succ, List.length_cons, List.length_nil, Nat.reduceSub, Nat.reduceAdd, Nat.reduceLeDiff, true_and, and_true, ne_eq, not_true_eq_false, not_false_eq_true, forall_const, wipeE, big0, big1, big2, big3, big4, big5, big6, big7, big8, big9, d_law_judged_l1]
  refine pot_ints hE (by omega) hl hml ?_
  rw [allt mv mvok]
  simp only [fIsNotB, decide_true, Bool.not_true, w_var, w_c, w_bin, w_un, w_dB, wt_and, wt_or, wt_not, w_if, w_andV, w_orV, w_notV, w_anil, w_acons, w_call, w_app, w_tup, w_lst, w_dict, w_onone, w_osome, w_sl, w_tru, w_chain, w_meth, w_lc, w_nop, w_brk, w_cnt, w_seq, w_ret, w_retN, w_drop, w_ifS, w_asg, w_gN, w_gN0, w_gT, w_gT0, w_gnil, w_gnil0, w_gcons, w_gnsnil0, w_gnscons0, w_gsub, w_par, w_par3, w_aug, w_for, w_range1, w_range2, w_seqI, w_enum, okO_some, okS_some, okV_some, okB_bl, okI_int, okT_tup, okC_some, okQ_tup, okO_newL, okO_if, okO_ifL, okS_if, ok2_two, ok3_three, Sh.f1, Sh.f2, br_true, br_false, br_dec, br_not, atI_0, atI_1, atI_2, atI_3, atI_4, Option.map_some, ok_val, List.map_cons, List.map_nil, List.cons_append, List.nil_append, List.replicate_succ, List.replicate_zero, List.getElem?_cons_zero, List.getElem?_cons_succ, List.set_cons_zero, List.set_cons_succ, List.length_cons, List.length_nil, Nat.reduceSub, Nat.reduceAdd, Nat.reduceLeDiff, true_and, and_true, ne_eq, not_true_eq_false, not_false_eq_true, forall_const, wipeE, big0, big1, big2, big3, big4, big5, big6, big7, big8, big9]
  refine for_cons ⟨itok [], ?_⟩
  simp only [w_var, w_c, w_bin, w_un, w_dB, wt_and, wt_or, wt_not, w_if, w_andV, w_orV, w_notV, w_anil, w_acons, w_call, w_app, w_tup, w_lst, w_dict, w_onone, w_osome, w_sl, w_tru, w_chain, w_meth, w_lc, w_nop, w_brk, w_cnt, w_seq, w_ret, w_retN, w_drop, w_ifS, w_asg, w_gN, w_gN0, w_gT, w_gT0, w_gnil, w_gnil0, w_gcons, w_gnsnil0, w_gnscons0, w_gsub, w_par, w_par3, w_aug, w_for, w_range1, w_range2, w_seqI, w_enum, okO_some, okS_some, okV_some, okB_bl, okI_int, okT_tup, okC_some, okQ_tup, okO_newL, okO_if, okO_ifL, okS_if, ok2_two, ok3_three, Sh.f1, Sh.f2, br_true, br_false, br_dec, br_not, atI_0, atI_1, atI_2, atI_3, atI_4, Option.map_some, ok_val, List.map_cons, List.map_nil, List.cons_append, List.nil_append, List.replicate_succ, List.replicate_zero, List.getElem?_cons_zero, List.getElem?_cons_succ, List.set_cons_zero, List.set_cons_succ, List.length_cons, List.length_nil, Nat.reduceSub, Nat.reduceAdd, Nat.reduceLeDiff, true_and, and_true, ne_eq, not_true_eq_false, not_false_eq_true, forall_const, wipeE, big0, big1, big2, big3, big4, big5, big6, big7, big8, big9, d_law_judged_l1]
  refine pot_ints hE (by omega) hl hll ?_
  rw [allt lw lwok]
  simp only [fIsNotB, decide_true, Bool.not_true, w_var, w_c, w_bin, w_un, w_dB, wt_and, wt_or, wt_not, w_if, w_andV, w_orV, w_notV, w_anil, w_acons, w_call, w_app, w_tup, w_lst, w_dict, w_onone, w_osome, w_sl, w_tru, w_chain, w_meth, w_lc, w_nop, w_brk, w_cnt, w_seq, w_ret, w_retN, w_drop, w_ifS, w_asg, w_gN, w_gN0, w_gT, w_gT0, w_gnil, w_gnil0, w_gcons, w_gnsnil0, w_gnscons0, w_gsub, w_par, w_par3, w_aug, w_for, w_range1, w_range2, w_seqI, w_enum, okO_some, okS_some, okV_some, okB_bl, okI_int, okT_tup, okC_some, okQ_tup, okO_newL, okO_if, okO_ifL, okS_if, ok2_two, ok3_three, Sh.f1, Sh.f2, br_true, br_false, br_dec, br_not, atI_0, atI_1, atI_2, atI_3, atI_4, Option.map_some, ok_val, List.map_cons, List.map_nil, List.cons_append, List.nil_append, List.replicate_succ, List.replicate_zero, List.getElem?_cons_zero, List.getElem?_cons_succ, List.set_cons_zero, List.set_cons_succ, List.length_cons, List.length_nil, Nat.reduceSub, Nat.reduceAdd, Nat.reduceLeDiff, true_and, and_true, ne_eq, not_true_eq_false, not_false_eq_true, forall_const, wipeE, big0, big1, big2, big3, big4, big5, big6, big7, big8, big9]
  refine for_nil ⟨itok [], ?_⟩
  -- the bent ones
  have A4 := A3.grow [Ob.lst [.tup (isD mv), .tup (isD lw)]]
  generalize S3 ++ [Ob.lst [.tup (isD mv), .tup (isD lw)]] = S4 at A4
  unfold d_law_judged_r9 d_law_judged_r8
  obtain ⟨t0, t1, t2⟩ := t
  simp only at ht
  have A5 := A4.grow [Ob.lst (isD mv)]
  simp only [w_var, w_c, w_bin, w_un, w_dB, wt_and, wt_or, wt_not, w_if, w_andV, w_orV, w_notV, w_anil, w_acons, w_call, w_app, w_tup, w_lst, w_dict, w_onone, w_osome, w_sl, w_tru, w_chain, w_meth, w_lc, w_nop, w_brk, w_cnt, w_seq, w_ret, w_retN, w_drop, w_ifS, w_asg, w_gN, w_gN0, w_gT, w_gT0, w_gnil, w_gnil0, w_gcons, w_gnsnil0, w_gnscons0, w_gsub, w_par, w_par3, w_aug, w_for, w_range1, w_range2, w_seqI, w_enum, okO_some, okS_some, okV_some, okB_bl, okI_int, okT_tup, okC_some, okQ_tup, okO_newL, okO_if, okO_ifL, okS_if, ok2_two, ok3_three, Sh.f1, Sh.f2, br_true, br_false, br_dec, br_not, atI_0, atI_1, atI_2, atI_3, atI_4, Option.map_some, ok_val, List.map_cons, List.map_nil, List.cons_append, List.nil_append, List.replicate_succ, List.replicate_zero, List.getElem?_cons_zero, List.getElem?_cons_succ, List.set_cons_zero, List.set_cons_succ, List.length_cons, List.length_nil, Nat.reduceSub, Nat.reduceAdd, Nat.reduceLeDiff, true_and, and_true, ne_eq, not_true_eq_false, not_false_eq_true, forall_const, wipeE, big0, big1, big2, big3, big4, big5, big6, big7, big8, big9, fList, seqOf, eD, fIx, off0, isD_at (show t1 < mv.length by omega), fAdd]
  refine set_ix (by omega) off0 ?_
  generalize hb1 : mv.set t1 (mv.getD t1 0 + 1) = b1
  have hb1l : b1.length = n := by rw [← hb1]; simp [hml]
  have A6 := A5.set (i := S4.length) A4.len (.lst (isD b1))
  have k6 : ((S4 ++ [Ob.lst (isD mv)]).set S4.length (.lst (isD b1)))[S4.length]? = some (.lst (isD b1)) := by rw [set_app_new]; exact off0
  generalize (S4 ++ [Ob.lst (isD mv)]).set S4.length (.lst (isD b1)) = S6 at A6 k6
  unfold d_law_judged_r7
  have hk4 : S.length ≤ S4.length := A4.len
  generalize S4.length = kb at *
  simp only [w_var, w_c, w_bin, w_un, w_dB, wt_and, wt_or, wt_not, w_if, w_andV, w_orV, w_notV, w_anil, w_acons, w_call, w_app, w_tup, w_lst, w_dict, w_onone, w_osome, w_sl, w_tru, w_chain, w_meth, w_lc, w_nop, w_brk, w_cnt, w_seq, w_ret, w_retN, w_drop, w_ifS, w_asg, w_gN, w_gN0, w_gT, w_gT0, w_gnil, w_gnil0, w_gcons, w_gnsnil0, w_gnscons0, w_gsub, w_par, w_par3, w_aug, w_for, w_range1, w_range2, w_seqI, w_enum, okO_some, okS_some, okV_some, okB_bl, okI_int, okT_tup, okC_some, okQ_tup, okO_newL, okO_if, okO_ifL, okS_if, ok2_two, ok3_three, Sh.f1, Sh.f2, br_true, br_false, br_dec, br_not, atI_0, atI_1, atI_2, atI_3, atI_4, Option.map_some, ok_val, List.map_cons, List.map_nil, List.cons_append, List.nil_append, List.replicate_succ, List.replicate_zero, List.getElem?_cons_zero, List.getElem?_cons_succ, List.set_cons_zero, List.set_cons_succ, List.length_cons, List.length_nil, Nat.reduceSub, Nat.reduceAdd, Nat.reduceLeDiff, true_and, and_true, ne_eq, not_true_eq_false, not_false_eq_true, forall_const, wipeE, big0, big1, big2, big3, big4, big5, big6, big7, big8, big9, fTuple, seqOf, lstAt, k6]
  refine both_ok hE (by omega) hl hb1l (A6.get hS hpm) k6 ?_
  simp only [fTru, okC_some, Bool.not_true, br_false, br_not, br_true, w_var, w_c, w_bin, w_un, w_dB, wt_and, wt_or, wt_not, w_if, w_andV, w_orV, w_notV, w_anil, w_acons, w_call, w_app, w_tup, w_lst, w_dict, w_onone, w_osome, w_sl, w_tru, w_chain, w_meth, w_lc, w_nop, w_brk, w_cnt, w_seq, w_ret, w_retN, w_drop, w_ifS, w_asg, w_gN, w_gN0, w_gT, w_gT0, w_gnil, w_gnil0, w_gcons, w_gnsnil0, w_gnscons0, w_gsub, w_par, w_par3, w_aug, w_for, w_range1, w_range2, w_seqI, w_enum, okO_some, okS_some, okV_some, okB_bl, okI_int, okT_tup, okC_some, okQ_tup, okO_newL, okO_if, okO_ifL, okS_if, ok2_two, ok3_three, Sh.f1, Sh.f2, br_true, br_false, br_dec, br_not, atI_0, atI_1, atI_2, atI_3, atI_4, Option.map_some, ok_val, List.map_cons, List.map_nil, List.cons_append, List.nil_append, List.replicate_succ, List.replicate_zero, List.getElem?_cons_zero, List.getElem?_cons_succ, List.set_cons_zero, List.set_cons_succ, List.length_cons, List.length_nil, Nat.reduceSub, Nat.reduceAdd, Nat.reduceLeDiff, true_and, and_true, ne_eq, not_true_eq_false, not_false_eq_true, forall_const, wipeE, big0, big1, big2, big3, big4, big5, big6, big7, big8, big9]
  unfold d_law_judged_r6 d_law_judged_r5
  simp only [w_var, w_c, w_bin, w_un, w_dB, wt_and, wt_or, wt_not, w_if, w_andV, w_orV, w_notV, w_anil, w_acons, w_call, w_app, w_tup, w_lst, w_dict, w_onone, w_osome, w_sl, w_tru, w_chain, w_meth, w_lc, w_nop, w_brk, w_cnt, w_seq, w_ret, w_retN, w_drop, w_ifS, w_asg, w_gN, w_gN0, w_gT, w_gT0, w_gnil, w_gnil0, w_gcons, w_gnsnil0, w_gnscons0, w_gsub, w_par, w_par3, w_aug, w_for, w_range1, w_range2, w_seqI, w_enum, okO_some, okS_some, okV_some, okB_bl, okI_int, okT_tup, okC_some, okQ_tup, okO_newL, okO_if, okO_ifL, okS_if, ok2_two, ok3_three, Sh.f1, Sh.f2, br_true, br_false, br_dec, br_not, atI_0, atI_1, atI_2, atI_3, atI_4, Option.map_some, ok_val, List.map_cons, List.map_nil, List.cons_append, List.nil_append, List.replicate_succ, List.replicate_zero, List.getElem?_cons_zero, List.getElem?_cons_succ, List.set_cons_zero, List.set_cons_succ, List.length_cons, List.length_nil, Nat.reduceSub, Nat.reduceAdd, Nat.reduceLeDiff, true_and, and_true, ne_eq, not_true_eq_false, not_false_eq_true, forall_const, wipeE, big0, big1, big2, big3, big4, big5, big6, big7, big8, big9]
  refine grind_ok' A6.ms (by omega) (small (by omega)) fun at_ S7 hat hA7 hl7 => ?_
  have hat : at_ < n := by omega
  have k7 := hA7.get k6 (by omega)
  simp only [fIx, k7, isD_at (show at_ < b1.length by omega), fSub, fInt, if_true, w_var, w_c, w_bin, w_un, w_dB, wt_and, wt_or, wt_not, w_if, w_andV, w_orV, w_notV, w_anil, w_acons, w_call, w_app, w_tup, w_lst, w_dict, w_onone, w_osome, w_sl, w_tru, w_chain, w_meth, w_lc, w_nop, w_brk, w_cnt, w_seq, w_ret, w_retN, w_drop, w_ifS, w_asg, w_gN, w_gN0, w_gT, w_gT0, w_gnil, w_gnil0, w_gcons, w_gnsnil0, w_gnscons0, w_gsub, w_par, w_par3, w_aug, w_for, w_range1, w_range2, w_seqI, w_enum, okO_some, okS_some, okV_some, okB_bl, okI_int, okT_tup, okC_some, okQ_tup, okO_newL, okO_if, okO_ifL, okS_if, ok2_two, ok3_three, Sh.f1, Sh.f2, br_true, br_false, br_dec, br_not, atI_0, atI_1, atI_2, atI_3, atI_4, Option.map_some, ok_val, List.map_cons, List.map_nil, List.cons_append, List.nil_append, List.replicate_succ, List.replicate_zero, List.getElem?_cons_zero, List.getElem?_cons_succ, List.set_cons_zero, List.set_cons_succ, List.length_cons, List.length_nil, Nat.reduceSub, Nat.reduceAdd, Nat.reduceLeDiff, true_and, and_true, ne_eq, not_true_eq_false, not_false_eq_true, forall_const, wipeE, big0, big1, big2, big3, big4, big5, big6, big7, big8, big9]
  refine grind_ok' hA7.ms (by decide) (small (by decide)) fun dn S8 hdn hA8 hl8 => ?_
  have k8' := hA8.get k7 (by omega)
  have A8 := (A6.trans hA7).trans hA8
  simp only [fSub, fInt, if_true, w_var, w_c, w_bin, w_un, w_dB, wt_and, wt_or, wt_not, w_if, w_andV, w_orV, w_notV, w_anil, w_acons, w_call, w_app, w_tup, w_lst, w_dict, w_onone, w_osome, w_sl, w_tru, w_chain, w_meth, w_lc, w_nop, w_brk, w_cnt, w_seq, w_ret, w_retN, w_drop, w_ifS, w_asg, w_gN, w_gN0, w_gT, w_gT0, w_gnil, w_gnil0, w_gcons, w_gnsnil0, w_gnscons0, w_gsub, w_par, w_par3, w_aug, w_for, w_range1, w_range2, w_seqI, w_enum, okO_some, okS_some, okV_some, okB_bl, okI_int, okT_tup, okC_some, okQ_tup, okO_newL, okO_if, okO_ifL, okS_if, ok2_two, ok3_three, Sh.f1, Sh.f2, br_true, br_false, br_dec, br_not, atI_0, atI_1, atI_2, atI_3, atI_4, Option.map_some, ok_val, List.map_cons, List.map_nil, List.cons_append, List.nil_append, List.replicate_succ, List.replicate_zero, List.getElem?_cons_zero, List.getElem?_cons_succ, List.set_cons_zero, List.set_cons_succ, List.length_cons, List.length_nil, Nat.reduceSub, Nat.reduceAdd, Nat.reduceLeDiff, true_and, and_true, ne_eq, not_true_eq_false, not_false_eq_true, forall_const, wipeE, big0, big1, big2, big3, big4, big5, big6, big7, big8, big9]
  refine set_ix (by omega) k8' ?_
  generalize hb2 : b1.set at_ (b1.getD at_ 0 - 1 - (dn : Int)) = b2
  have hb2l : b2.length = n := by rw [← hb2]; simp [hb1l]
  have A9 := A8.set (i := kb) hk4 (.lst (isD b2))
  have k9 : (S8.set kb (.lst (isD b2)))[kb]? = some (.lst (isD b2)) := get_set (lt_of_get k8')
  generalize S8.set kb (.lst (isD b2)) = S9 at A9 k9
  unfold d_law_judged_r4
  simp only [w_var, w_c, w_bin, w_un, w_dB, wt_and, wt_or, wt_not, w_if, w_andV, w_orV, w_notV, w_anil, w_acons, w_call, w_app, w_tup, w_lst, w_dict, w_onone, w_osome, w_sl, w_tru, w_chain, w_meth, w_lc, w_nop, w_brk, w_cnt, w_seq, w_ret, w_retN, w_drop, w_ifS, w_asg, w_gN, w_gN0, w_gT, w_gT0, w_gnil, w_gnil0, w_gcons, w_gnsnil0, w_gnscons0, w_gsub, w_par, w_par3, w_aug, w_for, w_range1, w_range2, w_seqI, w_enum, okO_some, okS_some, okV_some, okB_bl, okI_int, okT_tup, okC_some, okQ_tup, okO_newL, okO_if, okO_ifL, okS_if, ok2_two, ok3_three, Sh.f1, Sh.f2, br_true, br_false, br_dec, br_not, atI_0, atI_1, atI_2, atI_3, atI_4, Option.map_some, ok_val, List.map_cons, List.map_nil, List.cons_append, List.nil_append, List.replicate_succ, List.replicate_zero, List.getElem?_cons_zero, List.getElem?_cons_succ, List.set_cons_zero, List.set_cons_succ, List.length_cons, List.length_nil, Nat.reduceSub, Nat.reduceAdd, Nat.reduceLeDiff, true_and, and_true, ne_eq, not_true_eq_false, not_false_eq_true, forall_const, wipeE, big0, big1, big2, big3, big4, big5, big6, big7, big8, big9, fTuple, seqOf, lstAt, k9]
  refine both_ok hE (by omega) hl hb2l (A9.get hS hpm) k9 ?_
  simp only [fTru, okC_some, Bool.not_true, br_false, br_not, br_true, w_var, w_c, w_bin, w_un, w_dB, wt_and, wt_or, wt_not, w_if, w_andV, w_orV, w_notV, w_anil, w_acons, w_call, w_app, w_tup, w_lst, w_dict, w_onone, w_osome, w_sl, w_tru, w_chain, w_meth, w_lc, w_nop, w_brk, w_cnt, w_seq, w_ret, w_retN, w_drop, w_ifS, w_asg, w_gN, w_gN0, w_gT, w_gT0, w_gnil, w_gnil0, w_gcons, w_gnsnil0, w_gnscons0, w_gsub, w_par, w_par3, w_aug, w_for, w_range1, w_range2, w_seqI, w_enum, okO_some, okS_some, okV_some, okB_bl, okI_int, okT_tup, okC_some, okQ_tup, okO_newL, okO_if, okO_ifL, okS_if, ok2_two, ok3_three, Sh.f1, Sh.f2, br_true, br_false, br_dec, br_not, atI_0, atI_1, atI_2, atI_3, atI_4, Option.map_some, ok_val, List.map_cons, List.map_nil, List.cons_append, List.nil_append, List.replicate_succ, List.replicate_zero, List.getElem?_cons_zero, List.getElem?_cons_succ, List.set_cons_zero, List.set_cons_succ, List.length_cons, List.length_nil, Nat.reduceSub, Nat.reduceAdd, Nat.reduceLeDiff, true_and, and_true, ne_eq, not_true_eq_false, not_false_eq_true, forall_const, wipeE, big0, big1, big2, big3, big4, big5, big6, big7, big8, big9]
  unfold d_law_judged_r3
  simp only [w_var, w_c, w_bin, w_un, w_dB, wt_and, wt_or, wt_not, w_if, w_andV, w_orV, w_notV, w_anil, w_acons, w_call, w_app, w_tup, w_lst, w_dict, w_onone, w_osome, w_sl, w_tru, w_chain, w_meth, w_lc, w_nop, w_brk, w_cnt, w_seq, w_ret, w_retN, w_drop, w_ifS, w_asg, w_gN, w_gN0, w_gT, w_gT0, w_gnil, w_gnil0, w_gcons, w_gnsnil0, w_gnscons0, w_gsub, w_par, w_par3, w_aug, w_for, w_range1, w_range2, w_seqI, w_enum, okO_some, okS_some, okV_some, okB_bl, okI_int, okT_tup, okC_some, okQ_tup, okO_newL, okO_if, okO_ifL, okS_if, ok2_two, ok3_three, Sh.f1, Sh.f2, br_true, br_false, br_dec, br_not, atI_0, atI_1, atI_2, atI_3, atI_4, Option.map_some, ok_val, List.map_cons, List.map_nil, List.cons_append, List.nil_append, List.replicate_succ, List.replicate_zero, List.getElem?_cons_zero, List.getElem?_cons_succ, List.set_cons_zero, List.set_cons_succ, List.length_cons, List.length_nil, Nat.reduceSub, Nat.reduceAdd, Nat.reduceLeDiff, true_and, and_true, ne_eq, not_true_eq_false, not_false_eq_true, forall_const, wipeE, big0, big1, big2, big3, big4, big5, big6, big7, big8, big9]
  refine ⟨rgOk_of (by decide) (by decide), ?_⟩
  refine for_ix (fun i env S' => ∃ a13, env = [some (.loc M.m), some (.int (n : Nat)), some (.loc p), some (.tup (isD hs)), some (.tup [.int (t0 : Nat), .int (t1 : Nat), .int t2]), some (.tup (esD E)), some (.int mo), some (.tup (isD mv)), some (.loc k8), some (.tup (isD lw)), some (.tup (isD lw)), some (.loc kb), some (.int (at_ : Nat)), a13, none, none] ∧ After M S S')
    (fun _ _ _ _ => True.intro) ⟨_, rfl, A9⟩ ?_ ?_
  · rintro env S' ⟨a13, rfl, hA⟩
    obtain ⟨S10, e10, hA10, hl10⟩ := hA.flat (d := .bl true) (by rw [lo_bl]; exact True.intro)
    rw [e10]
    exact hQ _ hA10 hl10
  · rintro i d env S' hd ⟨a13, rfl, hA⟩
    simp only [w_var, w_c, w_bin, w_un, w_dB, wt_and, wt_or, wt_not, w_if, w_andV, w_orV, w_notV, w_anil, w_acons, w_call, w_app, w_tup, w_lst, w_dict, w_onone, w_osome, w_sl, w_tru, w_chain, w_meth, w_lc, w_nop, w_brk, w_cnt, w_seq, w_ret, w_retN, w_drop, w_ifS, w_asg, w_gN, w_gN0, w_gT, w_gT0, w_gnil, w_gnil0, w_gcons, w_gnsnil0, w_gnscons0, w_gsub, w_par, w_par3, w_aug, w_for, w_range1, w_range2, w_seqI, w_enum, okO_some, okS_some, okV_some, okB_bl, okI_int, okT_tup, okC_some, okQ_tup, okO_newL, okO_if, okO_ifL, okS_if, ok2_two, ok3_three, Sh.f1, Sh.f2, br_true, br_false, br_dec, br_not, atI_0, atI_1, atI_2, atI_3, atI_4, Option.map_some, ok_val, List.map_cons, List.map_nil, List.cons_append, List.nil_append, List.replicate_succ, List.replicate_zero, List.getElem?_cons_zero, List.getElem?_cons_succ, List.set_cons_zero, List.set_cons_succ, List.length_cons, List.length_nil, Nat.reduceSub, Nat.reduceAdd, Nat.reduceLeDiff, true_and, and_true, ne_eq, not_true_eq_false, not_false_eq_true, forall_const, wipeE, big0, big1, big2, big3, big4, big5, big6, big7, big8, big9, d_law_judged_l2]
    refine bent_ok hA.ms hn1 hn hml fun db S10 hA10 hbad => ?_
    refine pot_bad hbad hE (by omega) hl ?_
    simp only [fIsNotB, decide_true, Bool.not_true, w_var, w_c, w_bin, w_un, w_dB, wt_and, wt_or, wt_not, w_if, w_andV, w_orV, w_notV, w_anil, w_acons, w_call, w_app, w_tup, w_lst, w_dict, w_onone, w_osome, w_sl, w_tru, w_chain, w_meth, w_lc, w_nop, w_brk, w_cnt, w_seq, w_ret, w_retN, w_drop, w_ifS, w_asg, w_gN, w_gN0, w_gT, w_gT0, w_gnil, w_gnil0, w_gcons, w_gnsnil0, w_gnscons0, w_gsub, w_par, w_par3, w_aug, w_for, w_range1, w_range2, w_seqI, w_enum, okO_some, okS_some, okV_some, okB_bl, okI_int, okT_tup, okC_some, okQ_tup, okO_newL, okO_if, okO_ifL, okS_if, ok2_two, ok3_three, Sh.f1, Sh.f2, br_true, br_false, br_dec, br_not, atI_0, atI_1, atI_2, atI_3, atI_4, Option.map_some, ok_val, List.map_cons, List.map_nil, List.cons_append, List.nil_append, List.replicate_succ, List.replicate_zero, List.getElem?_cons_zero, List.getElem?_cons_succ, List.set_cons_zero, List.set_cons_succ, List.length_cons, List.length_nil, Nat.reduceSub, Nat.reduceAdd, Nat.reduceLeDiff, true_and, and_true, ne_eq, not_true_eq_false, not_false_eq_true, forall_const, wipeE, big0, big1, big2, big3, big4, big5, big6, big7, big8, big9]
    exact ⟨_, rfl, hA.trans hA10⟩
end K68

set_option Elab.async false
set_option linter.all false
set_option maxRecDepth 100000
set_option maxHeartbeats 4000000
set_option autoImplicit false
namespace K68
open PySem PySem.Spec PyProof.Rows L2 Sh RX

/-! ### lowered -/
def pE (e : Ed) : PyData := .tuple [.int (e.1 : Nat), .int (e.2.1 : Nat), .int e.2.2]
theorem pyD_e (e : Ed) : pyD (eD e) = some (pE e) := by
  unfold eD pE
  rw [pyD, pyDs, pyDs, pyDs, pyDs, pyD, pyD, pyD]
  rfl
theorem pyDs_e : ∀ E : List Ed, pyDs (esD E) = some (E.map pE)
  | [] => by
    show pyDs [] = some []
    rw [pyDs.eq_def]
  | e :: E => by
    show pyDs (eD e :: esD E) = some (pE e :: E.map pE)
    rw [pyDs.eq_def]
    simp only [pyD_e, pyDs_e E]
theorem can_e : ∀ E : List Ed, PyData.canLayAll0 (E.map pE) = true
  | [] => by rw [List.map_nil, PyData.canLayAll0]
  | e :: E => by
    rw [List.map_cons, PyData.canLayAll0, can_e E]
    unfold pE
    simp [PyData.canLay0, PyData.canLayAll0]
theorem dep_e (e : Ed) : (pE e).depth = 1 := by
  unfold pE
  simp [PyData.depth, PyData.depthAll]
theorem deps_e : ∀ E : List Ed, PyData.depthAll (E.map pE) ≤ 1
  | [] => by rw [List.map_nil, PyData.depthAll]; omega
  | e :: E => by
    rw [List.map_cons, PyData.depthAll, dep_e]
    have := deps_e E
    omega
theorem eqv_e {a b : Ed} : PyData.eqv (pE a) (pE b) = true ↔ a = b := by
  unfold pE
  obtain ⟨a1, a2, a3⟩ := a
  obtain ⟨b1, b2, b3⟩ := b
  simp only [PyData.eqv, PyData.eqvAll, Bool.and_true, Bool.and_eq_true, beq_iff_eq, Prod.mk.injEq]
  constructor
  · rintro ⟨h1, h2, h3⟩; exact ⟨by omega, by omega, h3⟩
  · rintro ⟨rfl, rfl, rfl⟩; exact ⟨rfl, rfl, rfl⟩
theorem index_e {E : List Ed} {t : Ed} {p : Nat} {S : Sto} (hS : S[p]? = some (.lst (esD E))) (ht : t ∈ E) : ∃ j, E[j]? = some t ∧ fIndex (.loc p) [eD t] S = some (.int (j : Nat), S) := by
  have s1 : SeqAt.shaped (.list (E.map pE)) = true := by
    unfold SeqAt.shaped
    rw [PyData.canLay0, can_e, PyData.depth]
    have := deps_e E
    simp; omega
  have s2 : SeqAt.shaped (pE t) = true := by
    unfold SeqAt.shaped
    rw [dep_e]
    unfold pE
    simp [PyData.canLay0, PyData.canLayAll0]
  cases q : (E.map pE).findIdx? fun z => PyData.eqv z (pE t) with
  | none =>
    rw [List.findIdx?_eq_none_iff] at q
    have := q (pE t) (List.mem_map.mpr ⟨t, ht, rfl⟩)
    rw [eqv_e.mpr rfl] at this
    cases this
  | some j =>
    have q0 := q
    rw [List.findIdx?_eq_some_iff_getElem] at q
    obtain ⟨hj, h1, _⟩ := q
    have hj2 : j < E.length := by simpa using hj
    rw [List.getElem_map, eqv_e] at h1
    refine ⟨j, by rw [List.getElem?_eq_getElem hj2, h1], ?_⟩
    simp only [fIndex, lstAt, hS, pyDs_e, pyD_e, s1, s2, and_self, if_true, q0, Option.map_some]
/-- the edges with place j lowered -/
def lowE (E : List Ed) (j : Nat) (t : Ed) (fall : Int) : List Ed := E.take j ++ [(t.1, t.2.1, t.2.2 - fall)] ++ E.drop (j + 1)
theorem lowered_ok {M : Mil} {S : Sto} {p : Nat} {E : List Ed} {t : Ed} (hM : MS M S) (hl : E.length < 900) (ht : t ∈ E) (hS : S[p]? = some (.lst (esD E))) (hpm : M.m ≠ p)
    {X : Ex → Sto → Prop} {Q : D → Sto → Prop} (hQ : ∀ (S' : Sto) (j : Nat) (fall : Int), After M S S' → S'.length = S.length → E[j]? = some t → 1 ≤ fall → Q (.loc S.length) (S' ++ [.lst (esD (lowE E j t fall))])) : (d_law_lowered [.loc M.m, .loc p, eD t] S).ok Q X := by
  have lt := hM.lt
  obtain ⟨j, hj, hix⟩ := index_e hS ht
  have hjl := (List.getElem?_eq_some_iff.mp hj).1
  unfold d_law_lowered
  rw [w_fn]
  refine ⟨rfl, ?_⟩
  unfold d_law_lowered_b d_law_lowered_r1
  simp only [w_var, w_c, w_bin, w_un, w_dB, wt_and, wt_or, wt_not, w_if, w_andV, w_orV, w_notV, w_anil, w_acons, w_call, w_app, w_tup, w_lst, w_dict, w_onone, w_osome, w_sl, w_tru, w_chain, w_meth, w_lc, w_nop, w_brk, w_cnt, w_seq, w_ret, w_retN, w_drop, w_ifS, w_asg, w_gN, w_gN0, w_gT, w_gT0, w_gnil, w_gnil0, w_gcons, w_gnsnil0, w_gnscons0, w_gsub, w_par, w_par3, w_aug, w_for, w_range1, w_range2, w_seqI, w_enum, okO_some, okS_some, okV_some, okB_bl, okI_int, okT_tup, okC_some, okQ_tup, okO_newL, okO_if, okO_ifL, okS_if, ok2_two, ok3_three, Sh.f1, Sh.f2, br_true, br_false, br_dec, br_not, atI_0, atI_1, atI_2, atI_3, atI_4, Option.map_some, ok_val, List.map_cons, List.map_nil, List.cons_append, List.nil_append, List.replicate_succ, List.replicate_zero, List.getElem?_cons_zero, List.getElem?_cons_succ, List.set_cons_zero, List.set_cons_succ, List.length_cons, List.length_nil, Nat.reduceSub, Nat.reduceAdd, Nat.reduceLeDiff, true_and, and_true, ne_eq, not_true_eq_false, not_false_eq_true, forall_const, wipeE, big0, big1, big2, big3, big4, big5, big6, big7, big8, big9, isL, lstAt, hS, Option.isSome_some, hix]
  refine grind_ok' hM (by decide) (small (by decide)) fun r1 S1 h1 hA1 hl1 => ?_
  refine grind_ok' hA1.ms (by decide) (small (by decide)) fun r2 S2 h2 hA2 hl2 => ?_
  have A2 := hA1.trans hA2
  have k2 := A2.get hS hpm
  have kG : ∀ G, (S2 ++ G)[p]? = some (.lst (esD E)) := fun G => get_app k2
  have e1 : Sh.cutD (esD E) (some ((j : Int) + 1)) none = (esD E).drop (j + 1) := cut_drop (a := j + 1) (by rw [List.length_map]; omega)
  have o1 : ∀ (G : Sto) k, (S2 ++ G)[S2.length + k]? = G[k]? := fun G k => get_off
  obtain ⟨t0, t1, t2⟩ := t
  simp only [fMul, fInt, fAdd, w_var, w_c, w_bin, w_un, w_dB, wt_and, wt_or, wt_not, w_if, w_andV, w_orV, w_notV, w_anil, w_acons, w_call, w_app, w_tup, w_lst, w_dict, w_onone, w_osome, w_sl, w_tru, w_chain, w_meth, w_lc, w_nop, w_brk, w_cnt, w_seq, w_ret, w_retN, w_drop, w_ifS, w_asg, w_gN, w_gN0, w_gT, w_gT0, w_gnil, w_gnil0, w_gcons, w_gnsnil0, w_gnscons0, w_gsub, w_par, w_par3, w_aug, w_for, w_range1, w_range2, w_seqI, w_enum, okO_some, okS_some, okV_some, okB_bl, okI_int, okT_tup, okC_some, okQ_tup, okO_newL, okO_if, okO_ifL, okS_if, ok2_two, ok3_three, Sh.f1, Sh.f2, br_true, br_false, br_dec, br_not, atI_0, atI_1, atI_2, atI_3, atI_4, Option.map_some, ok_val, List.map_cons, List.map_nil, List.cons_append, List.nil_append, List.replicate_succ, List.replicate_zero, List.getElem?_cons_zero, List.getElem?_cons_succ, List.set_cons_zero, List.set_cons_succ, List.length_cons, List.length_nil, Nat.reduceSub, Nat.reduceAdd, Nat.reduceLeDiff, true_and, and_true, ne_eq, not_true_eq_false, not_false_eq_true, forall_const, wipeE, big0, big1, big2, big3, big4, big5, big6, big7, big8, big9, List.append_assoc, List.length_append, Nat.zero_add, Nat.add_zero, Nat.add_assoc, Nat.reduceAdd]
  refine ⟨mulOk_r (by omega), ?_⟩
  simp only [fSl, k2, cut_take (show j ≤ (esD E).length by rw [List.length_map]; omega), eD, fIx, fSub, fInt, if_true, w_var, w_c, w_bin, w_un, w_dB, wt_and, wt_or, wt_not, w_if, w_andV, w_orV, w_notV, w_anil, w_acons, w_call, w_app, w_tup, w_lst, w_dict, w_onone, w_osome, w_sl, w_tru, w_chain, w_meth, w_lc, w_nop, w_brk, w_cnt, w_seq, w_ret, w_retN, w_drop, w_ifS, w_asg, w_gN, w_gN0, w_gT, w_gT0, w_gnil, w_gnil0, w_gcons, w_gnsnil0, w_gnscons0, w_gsub, w_par, w_par3, w_aug, w_for, w_range1, w_range2, w_seqI, w_enum, okO_some, okS_some, okV_some, okB_bl, okI_int, okT_tup, okC_some, okQ_tup, okO_newL, okO_if, okO_ifL, okS_if, ok2_two, ok3_three, Sh.f1, Sh.f2, br_true, br_false, br_dec, br_not, atI_0, atI_1, atI_2, atI_3, atI_4, Option.map_some, ok_val, List.map_cons, List.map_nil, List.cons_append, List.nil_append, List.replicate_succ, List.replicate_zero, List.getElem?_cons_zero, List.getElem?_cons_succ, List.set_cons_zero, List.set_cons_succ, List.length_cons, List.length_nil, Nat.reduceSub, Nat.reduceAdd, Nat.reduceLeDiff, true_and, and_true, ne_eq, not_true_eq_false, not_false_eq_true, forall_const, wipeE, big0, big1, big2, big3, big4, big5, big6, big7, big8, big9, List.append_assoc, List.length_append, Nat.zero_add, Nat.add_zero, Nat.add_assoc, Nat.reduceAdd, fAdd, off0, o1, kG, e1, List.length_append, List.length_take, List.length_drop, List.length_map]
  refine ⟨le_big (by omega), le_big (by omega), ?_⟩
  generalize hf : 1 + (r1 : Int) * (r2 : Int) = fall
  have hfall : 1 ≤ fall := by
    have : (0 : Int) ≤ (r1 : Int) * (r2 : Int) := Int.mul_nonneg (by omega) (by omega)
    omega
  have el : (esD E).take j ++ (D.tup [.int (t0 : Nat), .int (t1 : Nat), .int (t2 - fall)] :: (esD E).drop (j + 1)) = esD (lowE E j (t0, t1, t2) fall) := by
    unfold lowE
    simp [eD]
  obtain ⟨S3, e3, hA3, hl3⟩ := (A2.grow [Ob.lst ((esD E).take j), .lst [.tup [.int (t0 : Nat), .int (t1 : Nat), .int (t2 - fall)]], .lst ((esD E).take j ++ [.tup [.int (t0 : Nat), .int (t1 : Nat), .int (t2 - fall)]]), .lst ((esD E).drop (j + 1)), .lst (esD (lowE E j (t0, t1, t2) fall))]).new
    (l := S2.length + 4) (o := .lst (esD (lowE E j (t0, t1, t2) fall))) (by have := A2.len; omega) (by rw [o1]; rfl) (by rw [lo_lst, loAll_iff]; exact esD_lo)
  rw [el, e3]
  exact hQ S3 j fall hA3 hl3 hj hfall
/-- no potentials where the ring falls -/
theorem low_noPot {n : Nat} {hs : List Int} {E : List Ed} {t : Ed} {j : Nat} {fall : Int} (c : Calm n hs E t) (hj : E[j]? = some t) (hf : 1 ≤ fall) {h : Nat → Int} (hp : Pot (lowE E j t fall) h) : False := by
  obtain ⟨rs, hne, hrs, hall, k0, hk0, ht⟩ := c.ring
  have hmem : ∀ e ∈ E, e ≠ t → e ∈ lowE E j t fall := by
    intro e he hne
    obtain ⟨i, hi, ei⟩ := List.getElem_of_mem he
    have hij : i ≠ j := fun z => by
      subst z
      rw [List.getElem?_eq_getElem hi, ei] at hj
      exact hne (Option.some.inj hj)
    unfold lowE
    simp only [List.mem_append, List.mem_singleton]
    by_cases z : i < j
    · refine .inl (.inl ?_)
      rw [← ei]
      have : i < (E.take j).length := by rw [List.length_take]; omega
      have e2 : (E.take j)[i] = E[i] := by simp
      rw [← e2]
      exact List.getElem_mem this
    · refine .inr ?_
      have h3 : E.drop (j + 1) = E.drop (j + 1) := rfl
      have hd : i - (j + 1) < (E.drop (j + 1)).length := by rw [List.length_drop]; omega
      have e2 : (E.drop (j + 1))[i - (j + 1)] = E[i] := by
        rw [List.getElem_drop]
        congr 1
        omega
      rw [← ei, ← e2]
      exact List.getElem_mem hd
  have hlow : (t.1, t.2.1, t.2.2 - fall) ∈ lowE E j t fall := by
    unfold lowE
    simp
  -- g goes down along the ring
  have step : ∀ k, k < rs.length → (h (tightE hs rs k).2.1 - hs.getD (tightE hs rs k).2.1 0) ≤ (h (tightE hs rs k).1 - hs.getD (tightE hs rs k).1 0) ∧ (tightE hs rs k = t → (h (tightE hs rs k).2.1 - hs.getD (tightE hs rs k).2.1 0) < (h (tightE hs rs k).1 - hs.getD (tightE hs rs k).1 0)) := by
    intro k hk
    have w : (tightE hs rs k).2.2 = hs.getD (tightE hs rs k).2.1 0 - hs.getD (tightE hs rs k).1 0 := rfl
    by_cases e : tightE hs rs k = t
    · have h1 := hp _ hlow
      simp only at h1
      rw [← e] at h1
      exact ⟨by omega, fun _ => by omega⟩
    · have h1 := hp _ (hmem _ (hall k hk) e)
      exact ⟨by omega, fun z => absurd z e⟩
  generalize hg : (fun x : Nat => h x - hs.getD x 0) = g at *
  have gx : ∀ x, h x - hs.getD x 0 = g x := fun x => by rw [← hg]
  have lts : sumI ((List.range rs.length).map fun k => g (rs.getD k 0)) < sumI ((List.range rs.length).map fun k => g (rs.getD (if k = 0 then rs.length - 1 else k - 1) 0)) := by
    refine sumI_lt _ _ _ (fun k hk => ?_) ⟨k0, List.mem_range.mpr hk0, ?_⟩
    · have := (step k (List.mem_range.mp hk)).1
      rw [gx, gx] at this
      exact this
    · have := (step k0 hk0).2 ht.symm
      rw [gx, gx] at this
      exact this
  -- but the sums are one
  have eqs : ∀ m, m < rs.length → sumI ((List.range (m + 1)).map fun k => g (rs.getD (if k = 0 then rs.length - 1 else k - 1) 0)) = g (rs.getD (rs.length - 1) 0) + sumI ((List.range m).map fun k => g (rs.getD k 0)) := by
    intro m
    induction m with
    | zero => intro _; simp [List.range_succ, sumI]
    | succ m ih =>
      intro hm
      rw [List.range_succ, List.map_append, sumI_append, ih (by omega)]
      rw [List.range_succ, List.map_append, sumI_append]
      simp [sumI]
      omega
  have hrp : 0 < rs.length := List.length_pos_iff.mpr hne
  have h5 := eqs (rs.length - 1) (by omega)
  rw [show rs.length - 1 + 1 = rs.length by omega] at h5
  have h6 : sumI ((List.range rs.length).map fun k => g (rs.getD k 0)) = sumI ((List.range (rs.length - 1)).map fun k => g (rs.getD k 0)) + g (rs.getD (rs.length - 1) 0) := by
    rw [show List.range rs.length = List.range (rs.length - 1 + 1) by rw [show rs.length - 1 + 1 = rs.length by omega], List.range_succ, List.map_append, sumI_append]
    simp [sumI]
  omega

/-! ### free -/
theorem free_ok {M : Mil} {S : Sto} {n : Nat} (hM : MS M S) (hn1 : 1 ≤ n) (hn : n < 200) {X : Ex → Sto → Prop} {Q : D → Sto → Prop} (hQ : ∀ S', After M S S' → S'.length = S.length → Q (.bl true) S') : (d_law_free [.loc M.m, .int (n : Nat)] S).ok Q X := by
  have lt := hM.lt
  unfold d_law_free
  rw [w_fn]
  refine ⟨rfl, ?_⟩
  unfold d_law_free_b d_law_free_r4
  simp only [w_var, w_c, w_bin, w_un, w_dB, wt_and, wt_or, wt_not, w_if, w_andV, w_orV, w_notV, w_anil, w_acons, w_call, w_app, w_tup, w_lst, w_dict, w_onone, w_osome, w_sl, w_tru, w_chain, w_meth, w_lc, w_nop, w_brk, w_cnt, w_seq, w_ret, w_retN, w_drop, w_ifS, w_asg, w_gN, w_gN0, w_gT, w_gT0, w_gnil, w_gnil0, w_gcons, w_gnsnil0, w_gnscons0, w_gsub, w_par, w_par3, w_aug, w_for, w_range1, w_range2, w_seqI, w_enum, okO_some, okS_some, okV_some, okB_bl, okI_int, okT_tup, okC_some, okQ_tup, okO_newL, okO_if, okO_ifL, okS_if, ok2_two, ok3_three, Sh.f1, Sh.f2, br_true, br_false, br_dec, br_not, atI_0, atI_1, atI_2, atI_3, atI_4, Option.map_some, ok_val, List.map_cons, List.map_nil, List.cons_append, List.nil_append, List.replicate_succ, List.replicate_zero, List.getElem?_cons_zero, List.getElem?_cons_succ, List.set_cons_zero, List.set_cons_succ, List.length_cons, List.length_nil, Nat.reduceSub, Nat.reduceAdd, Nat.reduceLeDiff, true_and, and_true, ne_eq, not_true_eq_false, not_false_eq_true, forall_const, wipeE, big0, big1, big2, big3, big4, big5, big6, big7, big8, big9, fMul, fInt, fAdd]
  refine ⟨mulOk_l (by decide), ?_⟩
  refine grind_ok' (hM.app _) (by omega) (small (by omega)) fun r S1 hr hA1 hl1 => ?_
  refine ⟨rgOk_of (by omega) (by omega), ?_⟩
  rw [Int.toNat_natCast]
  have A1 := ((After.refl hM).grow [Ob.lst []]).trans hA1
  have k1 : S1[S.length]? = some (.lst (esD [])) := hA1.get off0 (by omega)
  refine for_ix (fun i env S' => ∃ E a3 a4, env = [some (.loc M.m), some (.int (n : Nat)), some (.loc S.length), a3, a4, none] ∧ After M S S' ∧ S'[S.length]? = some (.lst (esD E)) ∧ E.length = i ∧ ∀ e ∈ E, e.1 < n ∧ e.2.1 < n)
    (fun _ _ _ _ => True.intro) ⟨[], _, _, rfl, A1, k1, rfl, fun e he => (by cases he)⟩ ?_ ?_
  · rintro env S' ⟨E, a3, a4, rfl, hA, hk, hEl, hE⟩
    have eL : ({ items := List.map (fun i => D.int (0 + ((i : Nat) : Int))) (List.range r), root := none } : Iter).items.length = r := by simp
    rw [eL] at hEl
    have hl : E.length < 900 := by omega
    unfold d_law_free_r3 d_law_free_r2
    simp only [w_var, w_c, w_bin, w_un, w_dB, wt_and, wt_or, wt_not, w_if, w_andV, w_orV, w_notV, w_anil, w_acons, w_call, w_app, w_tup, w_lst, w_dict, w_onone, w_osome, w_sl, w_tru, w_chain, w_meth, w_lc, w_nop, w_brk, w_cnt, w_seq, w_ret, w_retN, w_drop, w_ifS, w_asg, w_gN, w_gN0, w_gT, w_gT0, w_gnil, w_gnil0, w_gcons, w_gnsnil0, w_gnscons0, w_gsub, w_par, w_par3, w_aug, w_for, w_range1, w_range2, w_seqI, w_enum, okO_some, okS_some, okV_some, okB_bl, okI_int, okT_tup, okC_some, okQ_tup, okO_newL, okO_if, okO_ifL, okS_if, ok2_two, ok3_three, Sh.f1, Sh.f2, br_true, br_false, br_dec, br_not, atI_0, atI_1, atI_2, atI_3, atI_4, Option.map_some, ok_val, List.map_cons, List.map_nil, List.cons_append, List.nil_append, List.replicate_succ, List.replicate_zero, List.getElem?_cons_zero, List.getElem?_cons_succ, List.set_cons_zero, List.set_cons_succ, List.length_cons, List.length_nil, Nat.reduceSub, Nat.reduceAdd, Nat.reduceLeDiff, true_and, and_true, ne_eq, not_true_eq_false, not_false_eq_true, forall_const, wipeE, big0, big1, big2, big3, big4, big5, big6, big7, big8, big9, fNeg]
    refine ways_ok (s0 := z0) hE (by omega) hk (fun k hk => ?_) (fun hc => ?_) (fun hc => ?_)
    · have : ¬ ((k : Int) ≠ -1 ∧ (0 : Int) ≤ -1) := fun z => by omega
      rw [if_neg this]; rfl
    · simp only [fIsN, isNon, w_var, w_c, w_bin, w_un, w_dB, wt_and, wt_or, wt_not, w_if, w_andV, w_orV, w_notV, w_anil, w_acons, w_call, w_app, w_tup, w_lst, w_dict, w_onone, w_osome, w_sl, w_tru, w_chain, w_meth, w_lc, w_nop, w_brk, w_cnt, w_seq, w_ret, w_retN, w_drop, w_ifS, w_asg, w_gN, w_gN0, w_gT, w_gT0, w_gnil, w_gnil0, w_gcons, w_gnsnil0, w_gnscons0, w_gsub, w_par, w_par3, w_aug, w_for, w_range1, w_range2, w_seqI, w_enum, okO_some, okS_some, okV_some, okB_bl, okI_int, okT_tup, okC_some, okQ_tup, okO_newL, okO_if, okO_ifL, okS_if, ok2_two, ok3_three, Sh.f1, Sh.f2, br_true, br_false, br_dec, br_not, atI_0, atI_1, atI_2, atI_3, atI_4, Option.map_some, ok_val, List.map_cons, List.map_nil, List.cons_append, List.nil_append, List.replicate_succ, List.replicate_zero, List.getElem?_cons_zero, List.getElem?_cons_succ, List.set_cons_zero, List.set_cons_succ, List.length_cons, List.length_nil, Nat.reduceSub, Nat.reduceAdd, Nat.reduceLeDiff, true_and, and_true, ne_eq, not_true_eq_false, not_false_eq_true, forall_const, wipeE, big0, big1, big2, big3, big4, big5, big6, big7, big8, big9]
      refine quiet_ok (hA.ms.app _) hn1 hn hE hl (zs_pot hE hc) (get_app hk) (by omega) fun S2 hA2 hl2 => ?_
      obtain ⟨S3, e3, hA3, hl3⟩ := ((hA.grow _).trans hA2).flat (d := .bl true) (by rw [lo_bl]; exact True.intro)
      rw [e3]
      exact hQ _ hA3 hl3
    · simp only [fIsN, isNon, w_var, w_c, w_bin, w_un, w_dB, wt_and, wt_or, wt_not, w_if, w_andV, w_orV, w_notV, w_anil, w_acons, w_call, w_app, w_tup, w_lst, w_dict, w_onone, w_osome, w_sl, w_tru, w_chain, w_meth, w_lc, w_nop, w_brk, w_cnt, w_seq, w_ret, w_retN, w_drop, w_ifS, w_asg, w_gN, w_gN0, w_gT, w_gT0, w_gnil, w_gnil0, w_gcons, w_gnsnil0, w_gnscons0, w_gsub, w_par, w_par3, w_aug, w_for, w_range1, w_range2, w_seqI, w_enum, okO_some, okS_some, okV_some, okB_bl, okI_int, okT_tup, okC_some, okQ_tup, okO_newL, okO_if, okO_ifL, okS_if, ok2_two, ok3_three, Sh.f1, Sh.f2, br_true, br_false, br_dec, br_not, atI_0, atI_1, atI_2, atI_3, atI_4, Option.map_some, ok_val, List.map_cons, List.map_nil, List.cons_append, List.nil_append, List.replicate_succ, List.replicate_zero, List.getElem?_cons_zero, List.getElem?_cons_succ, List.set_cons_zero, List.set_cons_succ, List.length_cons, List.length_nil, Nat.reduceSub, Nat.reduceAdd, Nat.reduceLeDiff, true_and, and_true, ne_eq, not_true_eq_false, not_false_eq_true, forall_const, wipeE, big0, big1, big2, big3, big4, big5, big6, big7, big8, big9, fTuple, seqOf, lstAt, hk]
      refine falling_ok hE (by omega) hl (fun h0 => by rw [hc] at h0; cases h0) (fun ps _ hf => ?_)
      refine falls_ok (by omega) hf hk ?_
      obtain ⟨S3, e3, hA3, hl3⟩ := hA.flat (d := .bl true) (by rw [lo_bl]; exact True.intro)
      rw [e3]
      exact hQ _ hA3 hl3
  · rintro i d env S' hd ⟨E, a3, a4, rfl, hA, hk, hEl, hE⟩
    have hi : i < r := (range_at hd).1
    simp only [w_var, w_c, w_bin, w_un, w_dB, wt_and, wt_or, wt_not, w_if, w_andV, w_orV, w_notV, w_anil, w_acons, w_call, w_app, w_tup, w_lst, w_dict, w_onone, w_osome, w_sl, w_tru, w_chain, w_meth, w_lc, w_nop, w_brk, w_cnt, w_seq, w_ret, w_retN, w_drop, w_ifS, w_asg, w_gN, w_gN0, w_gT, w_gT0, w_gnil, w_gnil0, w_gcons, w_gnsnil0, w_gnscons0, w_gsub, w_par, w_par3, w_aug, w_for, w_range1, w_range2, w_seqI, w_enum, okO_some, okS_some, okV_some, okB_bl, okI_int, okT_tup, okC_some, okQ_tup, okO_newL, okO_if, okO_ifL, okS_if, ok2_two, ok3_three, Sh.f1, Sh.f2, br_true, br_false, br_dec, br_not, atI_0, atI_1, atI_2, atI_3, atI_4, Option.map_some, ok_val, List.map_cons, List.map_nil, List.cons_append, List.nil_append, List.replicate_succ, List.replicate_zero, List.getElem?_cons_zero, List.getElem?_cons_succ, List.set_cons_zero, List.set_cons_succ, List.length_cons, List.length_nil, Nat.reduceSub, Nat.reduceAdd, Nat.reduceLeDiff, true_and, and_true, ne_eq, not_true_eq_false, not_false_eq_true, forall_const, wipeE, big0, big1, big2, big3, big4, big5, big6, big7, big8, big9, d_law_free_l1]
    refine grind_ok' hA.ms (by decide) (small (by decide)) fun w S2 hw hA2 hl2 => ?_
    have k2 := hA2.get hk (by omega)
    simp only [fSub, fInt, if_true, w_var, w_c, w_bin, w_un, w_dB, wt_and, wt_or, wt_not, w_if, w_andV, w_orV, w_notV, w_anil, w_acons, w_call, w_app, w_tup, w_lst, w_dict, w_onone, w_osome, w_sl, w_tru, w_chain, w_meth, w_lc, w_nop, w_brk, w_cnt, w_seq, w_ret, w_retN, w_drop, w_ifS, w_asg, w_gN, w_gN0, w_gT, w_gT0, w_gnil, w_gnil0, w_gcons, w_gnsnil0, w_gnscons0, w_gsub, w_par, w_par3, w_aug, w_for, w_range1, w_range2, w_seqI, w_enum, okO_some, okS_some, okV_some, okB_bl, okI_int, okT_tup, okC_some, okQ_tup, okO_newL, okO_if, okO_ifL, okS_if, ok2_two, ok3_three, Sh.f1, Sh.f2, br_true, br_false, br_dec, br_not, atI_0, atI_1, atI_2, atI_3, atI_4, Option.map_some, ok_val, List.map_cons, List.map_nil, List.cons_append, List.nil_append, List.replicate_succ, List.replicate_zero, List.getElem?_cons_zero, List.getElem?_cons_succ, List.set_cons_zero, List.set_cons_succ, List.length_cons, List.length_nil, Nat.reduceSub, Nat.reduceAdd, Nat.reduceLeDiff, true_and, and_true, ne_eq, not_true_eq_false, not_false_eq_true, forall_const, wipeE, big0, big1, big2, big3, big4, big5, big6, big7, big8, big9, isL, lstAt, k2, Option.isSome_some]
    refine grind_ok' hA2.ms (by omega) (small (by omega)) fun u S3 hu hA3 hl3 => ?_
    refine grind_ok' hA3.ms (by omega) (small (by omega)) fun v S4 hv hA4 hl4 => ?_
    have k4 := hA4.get (hA3.get k2 (by omega)) (by omega)
    have b1 : E.length < big := lt_big (by omega)
    simp only [fAppend, k4, List.length_map, b1, if_true, w_var, w_c, w_bin, w_un, w_dB, wt_and, wt_or, wt_not, w_if, w_andV, w_orV, w_notV, w_anil, w_acons, w_call, w_app, w_tup, w_lst, w_dict, w_onone, w_osome, w_sl, w_tru, w_chain, w_meth, w_lc, w_nop, w_brk, w_cnt, w_seq, w_ret, w_retN, w_drop, w_ifS, w_asg, w_gN, w_gN0, w_gT, w_gT0, w_gnil, w_gnil0, w_gcons, w_gnsnil0, w_gnscons0, w_gsub, w_par, w_par3, w_aug, w_for, w_range1, w_range2, w_seqI, w_enum, okO_some, okS_some, okV_some, okB_bl, okI_int, okT_tup, okC_some, okQ_tup, okO_newL, okO_if, okO_ifL, okS_if, ok2_two, ok3_three, Sh.f1, Sh.f2, br_true, br_false, br_dec, br_not, atI_0, atI_1, atI_2, atI_3, atI_4, Option.map_some, ok_val, List.map_cons, List.map_nil, List.cons_append, List.nil_append, List.replicate_succ, List.replicate_zero, List.getElem?_cons_zero, List.getElem?_cons_succ, List.set_cons_zero, List.set_cons_succ, List.length_cons, List.length_nil, Nat.reduceSub, Nat.reduceAdd, Nat.reduceLeDiff, true_and, and_true, ne_eq, not_true_eq_false, not_false_eq_true, forall_const, wipeE, big0, big1, big2, big3, big4, big5, big6, big7, big8, big9]
    refine ⟨E ++ [(u, v, (w : Int) - 2)], _, _, rfl, (((hA.trans hA2).trans hA3).trans hA4).set (Nat.le_refl _) _, ?_, by simp; omega, fun e he => ?_⟩
    · rw [get_set (lt_of_get k4)]
      simp [eD]
    · rcases List.mem_append.mp he with he | he
      · exact hE e he
      · simp only [List.mem_singleton] at he
        rw [he]
        exact ⟨by simp only; omega, by simp only; omega⟩
end K68

set_option Elab.async false
set_option linter.all false
set_option maxRecDepth 100000
set_option maxHeartbeats 4000000
set_option autoImplicit false
namespace K68
open PySem PySem.Spec PyProof.Rows L2 Sh RX

theorem gc_bl {S0 S1 : Sto} {b : Bool} : (gc S0 (.bl b) S1).1 = .bl b := by
  unfold gc
  split
  · rw [if_pos (by rw [lo_bl]; exact True.intro)]
  · rfl
theorem one_eD {a : Nat} {w : Int} : D.tup [.tup [.int (a : Nat), .int (a : Nat), .int w]] = .tup (esD [(a, a, w)]) := rfl
theorem law_true (ns : List Int) (hl : ns.length ≤ 63) : ∃ S', d_law [.loc 0] [.ro (ns.map D.int)] = .val (.bl true) S' := by
  have main : (d_law [.loc 0] [.ro (ns.map D.int)]).ok (fun d _ => d = .bl true) NoX := by
    unfold d_law
    rw [w_fn]
    refine ⟨rfl, ?_⟩
    unfold d_law_b d_law_r14
    simp only [w_var, w_c, w_bin, w_un, w_dB, wt_and, wt_or, wt_not, w_if, w_andV, w_orV, w_notV, w_anil, w_acons, w_call, w_app, w_tup, w_lst, w_dict, w_onone, w_osome, w_sl, w_tru, w_chain, w_meth, w_lc, w_nop, w_brk, w_cnt, w_seq, w_ret, w_retN, w_drop, w_ifS, w_asg, w_gN, w_gN0, w_gT, w_gT0, w_gnil, w_gnil0, w_gcons, w_gnsnil0, w_gnscons0, w_gsub, w_par, w_par3, w_aug, w_for, w_range1, w_range2, w_seqI, w_enum, okO_some, okS_some, okV_some, okB_bl, okI_int, okT_tup, okC_some, okQ_tup, okO_newL, okO_if, okO_ifL, okS_if, ok2_two, ok3_three, Sh.f1, Sh.f2, br_true, br_false, br_dec, br_not, atI_0, atI_1, atI_2, atI_3, atI_4, Option.map_some, ok_val, List.map_cons, List.map_nil, List.cons_append, List.nil_append, List.replicate_succ, List.replicate_zero, List.getElem?_cons_zero, List.getElem?_cons_succ, List.set_cons_zero, List.set_cons_succ, List.length_cons, List.length_nil, Nat.reduceSub, Nat.reduceAdd, Nat.reduceLeDiff, true_and, and_true, ne_eq, not_true_eq_false, not_false_eq_true, forall_const, wipeE, big0, big1, big2, big3, big4, big5, big6, big7, big8, big9]
    refine mill_ok hl fun M S em ec ew hM hSl => ?_
    have e5 : (D.loc 5) = .loc M.m := by rw [em]
    rw [e5]
    have lt := hM.lt
    -- many
    refine ⟨le_big (by decide), ?_⟩
    refine grind_ok' (hM.app _) (by decide) (small (by decide)) fun r1 S1 hr1 hA1 hl1 => ?_
    have k1 := hA1.get (off0 (S := S)) (by omega)
    have hmany : ∃ n : Nat, atI [D.int 4, .int 3, .int 2, .int 5, .int 1, .int 6, .int 4, .int 3, .int 5, .int 2, .int 4, .int 7, .int 40] (r1 : Nat) = some (.int (n : Nat)) ∧ 1 ≤ n ∧ n < 200 := by
      have : r1 = 0 ∨ r1 = 1 ∨ r1 = 2 ∨ r1 = 3 ∨ r1 = 4 ∨ r1 = 5 ∨ r1 = 6 ∨ r1 = 7 ∨ r1 = 8 ∨ r1 = 9 ∨ r1 = 10 ∨ r1 = 11 ∨ r1 = 12 := by omega
      rcases this with rfl | rfl | rfl | rfl | rfl | rfl | rfl | rfl | rfl | rfl | rfl | rfl | rfl
      · exact ⟨4, rfl, by decide, by decide⟩
      · exact ⟨3, rfl, by decide, by decide⟩
      · exact ⟨2, rfl, by decide, by decide⟩
      · exact ⟨5, rfl, by decide, by decide⟩
      · exact ⟨1, rfl, by decide, by decide⟩
      · exact ⟨6, rfl, by decide, by decide⟩
      · exact ⟨4, rfl, by decide, by decide⟩
      · exact ⟨3, rfl, by decide, by decide⟩
      · exact ⟨5, rfl, by decide, by decide⟩
      · exact ⟨2, rfl, by decide, by decide⟩
      · exact ⟨4, rfl, by decide, by decide⟩
      · exact ⟨7, rfl, by decide, by decide⟩
      · exact ⟨40, rfl, by decide, by decide⟩
    obtain ⟨n, hn0, hn1, hn⟩ := hmany
    simp only [fIx, k1, hn0, Option.map_some, okO_some]
    have A1 := ((After.refl hM).grow _).trans hA1
    -- great
    unfold d_law_r13
    simp only [w_var, w_c, w_bin, w_un, w_dB, wt_and, wt_or, wt_not, w_if, w_andV, w_orV, w_notV, w_anil, w_acons, w_call, w_app, w_tup, w_lst, w_dict, w_onone, w_osome, w_sl, w_tru, w_chain, w_meth, w_lc, w_nop, w_brk, w_cnt, w_seq, w_ret, w_retN, w_drop, w_ifS, w_asg, w_gN, w_gN0, w_gT, w_gT0, w_gnil, w_gnil0, w_gcons, w_gnsnil0, w_gnscons0, w_gsub, w_par, w_par3, w_aug, w_for, w_range1, w_range2, w_seqI, w_enum, okO_some, okS_some, okV_some, okB_bl, okI_int, okT_tup, okC_some, okQ_tup, okO_newL, okO_if, okO_ifL, okS_if, ok2_two, ok3_three, Sh.f1, Sh.f2, br_true, br_false, br_dec, br_not, atI_0, atI_1, atI_2, atI_3, atI_4, Option.map_some, ok_val, List.map_cons, List.map_nil, List.cons_append, List.nil_append, List.replicate_succ, List.replicate_zero, List.getElem?_cons_zero, List.getElem?_cons_succ, List.set_cons_zero, List.set_cons_succ, List.length_cons, List.length_nil, Nat.reduceSub, Nat.reduceAdd, Nat.reduceLeDiff, true_and, and_true, ne_eq, not_true_eq_false, not_false_eq_true, forall_const, wipeE, big0, big1, big2, big3, big4, big5, big6, big7, big8, big9, fPow, fInt]
    refine ⟨by decide, ?_⟩
    refine grind_ok' (A1.ms.app _) (by decide) (small (by decide)) fun r2 S2 hr2 hA2 hl2 => ?_
    have lt1 := A1.ms.lt
    have k2 := hA2.get (off0 (S := S1)) (by omega)
    have hgreat : ∃ g : Int, atI [D.int 10, .int 100, .int 4, .int 1000, .int (10 ^ (28 : Int).toNat)] (r2 : Nat) = some (.int g) ∧ 0 < g ∧ g.natAbs < 2 ^ 100 := by
      have : r2 = 0 ∨ r2 = 1 ∨ r2 = 2 ∨ r2 = 3 ∨ r2 = 4 := by omega
      rcases this with rfl | rfl | rfl | rfl | rfl
      · exact ⟨10, rfl, by decide, by decide⟩
      · exact ⟨100, rfl, by decide, by decide⟩
      · exact ⟨4, rfl, by decide, by decide⟩
      · exact ⟨1000, rfl, by decide, by decide⟩
      · exact ⟨_, rfl, by decide, by decide⟩
    obtain ⟨g, hg0, hg1, hg2⟩ := hgreat
    simp only [fIx, k2, hg0, Option.map_some, okO_some]
    have A2 := (A1.grow _).trans hA2
    -- calm
    unfold d_law_r12
    simp only [w_var, w_c, w_bin, w_un, w_dB, wt_and, wt_or, wt_not, w_if, w_andV, w_orV, w_notV, w_anil, w_acons, w_call, w_app, w_tup, w_lst, w_dict, w_onone, w_osome, w_sl, w_tru, w_chain, w_meth, w_lc, w_nop, w_brk, w_cnt, w_seq, w_ret, w_retN, w_drop, w_ifS, w_asg, w_gN, w_gN0, w_gT, w_gT0, w_gnil, w_gnil0, w_gcons, w_gnsnil0, w_gnscons0, w_gsub, w_par, w_par3, w_aug, w_for, w_range1, w_range2, w_seqI, w_enum, okO_some, okS_some, okV_some, okB_bl, okI_int, okT_tup, okC_some, okQ_tup, okO_newL, okO_if, okO_ifL, okS_if, ok2_two, ok3_three, Sh.f1, Sh.f2, br_true, br_false, br_dec, br_not, atI_0, atI_1, atI_2, atI_3, atI_4, Option.map_some, ok_val, List.map_cons, List.map_nil, List.cons_append, List.nil_append, List.replicate_succ, List.replicate_zero, List.getElem?_cons_zero, List.getElem?_cons_succ, List.set_cons_zero, List.set_cons_succ, List.length_cons, List.length_nil, Nat.reduceSub, Nat.reduceAdd, Nat.reduceLeDiff, true_and, and_true, ne_eq, not_true_eq_false, not_false_eq_true, forall_const, wipeE, big0, big1, big2, big3, big4, big5, big6, big7, big8, big9]
    refine calm_ok A2.ms hn1 hn hg1 hg2 fun S3 l hl' el hs E t hA3 le1 le2 le3 c1 c2 c3 cm => ?_
    have A3 := A2.trans hA3
    have lt3 := A2.ms.lt
    unfold d_law_r11 d_law_r10 d_law_r9
    simp only [w_var, w_c, w_bin, w_un, w_dB, wt_and, wt_or, wt_not, w_if, w_andV, w_orV, w_notV, w_anil, w_acons, w_call, w_app, w_tup, w_lst, w_dict, w_onone, w_osome, w_sl, w_tru, w_chain, w_meth, w_lc, w_nop, w_brk, w_cnt, w_seq, w_ret, w_retN, w_drop, w_ifS, w_asg, w_gN, w_gN0, w_gT, w_gT0, w_gnil, w_gnil0, w_gcons, w_gnsnil0, w_gnscons0, w_gsub, w_par, w_par3, w_aug, w_for, w_range1, w_range2, w_seqI, w_enum, okO_some, okS_some, okV_some, okB_bl, okI_int, okT_tup, okC_some, okQ_tup, okO_newL, okO_if, okO_ifL, okS_if, ok2_two, ok3_three, Sh.f1, Sh.f2, br_true, br_false, br_dec, br_not, atI_0, atI_1, atI_2, atI_3, atI_4, Option.map_some, ok_val, List.map_cons, List.map_nil, List.cons_append, List.nil_append, List.replicate_succ, List.replicate_zero, List.getElem?_cons_zero, List.getElem?_cons_succ, List.set_cons_zero, List.set_cons_succ, List.length_cons, List.length_nil, Nat.reduceSub, Nat.reduceAdd, Nat.reduceLeDiff, true_and, and_true, ne_eq, not_true_eq_false, not_false_eq_true, forall_const, wipeE, big0, big1, big2, big3, big4, big5, big6, big7, big8, big9, fIx, c1, c2, c3, fTuple, seqOf, lstAt]
    -- facts
    have hE : ∀ e ∈ E, e.1 < n ∧ e.2.1 < n := fun e he => ⟨(cm.ok e he).1, (cm.ok e he).2.1⟩
    have hEl : E.length < 900 := by
      by_cases z : n ≤ 100
      · have := cm.el; omega
      · have : n = 4 ∨ n = 3 ∨ n = 2 ∨ n = 5 ∨ n = 1 ∨ n = 6 ∨ n = 7 ∨ n = 40 ∨ 100 < n := by omega
        exfalso
        have : r1 = 0 ∨ r1 = 1 ∨ r1 = 2 ∨ r1 = 3 ∨ r1 = 4 ∨ r1 = 5 ∨ r1 = 6 ∨ r1 = 7 ∨ r1 = 8 ∨ r1 = 9 ∨ r1 = 10 ∨ r1 = 11 ∨ r1 = 12 := by omega
        rcases this with rfl | rfl | rfl | rfl | rfl | rfl | rfl | rfl | rfl | rfl | rfl | rfl | rfl <;> (have h0 := Option.some.inj hn0; simp only [D.int.injEq] at h0; omega)
    have hok : ∀ e ∈ E, hs.getD e.2.1 0 ≤ hs.getD e.1 0 + e.2.2 := fun e he => (cm.ok e he).2.2
    have hpot : Pot E fun v => hs.getD v 0 := hok
    have htE : t ∈ E := by
      obtain ⟨rs, _, _, h3, k, hk, e⟩ := cm.ring
      rw [e]; exact h3 k hk
    obtain ⟨ht1, ht2⟩ := hE t htE
    -- quiet, judged
    unfold d_law_r8
    simp only [w_var, w_c, w_bin, w_un, w_dB, wt_and, wt_or, wt_not, w_if, w_andV, w_orV, w_notV, w_anil, w_acons, w_call, w_app, w_tup, w_lst, w_dict, w_onone, w_osome, w_sl, w_tru, w_chain, w_meth, w_lc, w_nop, w_brk, w_cnt, w_seq, w_ret, w_retN, w_drop, w_ifS, w_asg, w_gN, w_gN0, w_gT, w_gT0, w_gnil, w_gnil0, w_gcons, w_gnsnil0, w_gnscons0, w_gsub, w_par, w_par3, w_aug, w_for, w_range1, w_range2, w_seqI, w_enum, okO_some, okS_some, okV_some, okB_bl, okI_int, okT_tup, okC_some, okQ_tup, okO_newL, okO_if, okO_ifL, okS_if, ok2_two, ok3_three, Sh.f1, Sh.f2, br_true, br_false, br_dec, br_not, atI_0, atI_1, atI_2, atI_3, atI_4, Option.map_some, ok_val, List.map_cons, List.map_nil, List.cons_append, List.nil_append, List.replicate_succ, List.replicate_zero, List.getElem?_cons_zero, List.getElem?_cons_succ, List.set_cons_zero, List.set_cons_succ, List.length_cons, List.length_nil, Nat.reduceSub, Nat.reduceAdd, Nat.reduceLeDiff, true_and, and_true, ne_eq, not_true_eq_false, not_false_eq_true, forall_const, wipeE, big0, big1, big2, big3, big4, big5, big6, big7, big8, big9]
    refine quiet_ok A3.ms hn1 hn hE hEl hpot c3 (by omega) fun S4 hA4 hl4 => ?_
    simp only [fTru, okC_some, Bool.not_true, br_not, br_true, br_false, w_var, w_c, w_bin, w_un, w_dB, wt_and, wt_or, wt_not, w_if, w_andV, w_orV, w_notV, w_anil, w_acons, w_call, w_app, w_tup, w_lst, w_dict, w_onone, w_osome, w_sl, w_tru, w_chain, w_meth, w_lc, w_nop, w_brk, w_cnt, w_seq, w_ret, w_retN, w_drop, w_ifS, w_asg, w_gN, w_gN0, w_gT, w_gT0, w_gnil, w_gnil0, w_gcons, w_gnsnil0, w_gnscons0, w_gsub, w_par, w_par3, w_aug, w_for, w_range1, w_range2, w_seqI, w_enum, okO_some, okS_some, okV_some, okB_bl, okI_int, okT_tup, okC_some, okQ_tup, okO_newL, okO_if, okO_ifL, okS_if, ok2_two, ok3_three, Sh.f1, Sh.f2, br_true, br_false, br_dec, br_not, atI_0, atI_1, atI_2, atI_3, atI_4, Option.map_some, ok_val, List.map_cons, List.map_nil, List.cons_append, List.nil_append, List.replicate_succ, List.replicate_zero, List.getElem?_cons_zero, List.getElem?_cons_succ, List.set_cons_zero, List.set_cons_succ, List.length_cons, List.length_nil, Nat.reduceSub, Nat.reduceAdd, Nat.reduceLeDiff, true_and, and_true, ne_eq, not_true_eq_false, not_false_eq_true, forall_const, wipeE, big0, big1, big2, big3, big4, big5, big6, big7, big8, big9]
    have c4 := hA4.get c3 (by omega)
    have A4 := A3.trans hA4
    refine judged_ok A4.ms hn1 hn hE hEl cm.hl hok ht2 c4 (by omega) fun S5 hA5 hl5 => ?_
    simp only [fTru, okC_some, Bool.not_true, br_not, br_true, br_false, w_var, w_c, w_bin, w_un, w_dB, wt_and, wt_or, wt_not, w_if, w_andV, w_orV, w_notV, w_anil, w_acons, w_call, w_app, w_tup, w_lst, w_dict, w_onone, w_osome, w_sl, w_tru, w_chain, w_meth, w_lc, w_nop, w_brk, w_cnt, w_seq, w_ret, w_retN, w_drop, w_ifS, w_asg, w_gN, w_gN0, w_gT, w_gT0, w_gnil, w_gnil0, w_gcons, w_gnsnil0, w_gnscons0, w_gsub, w_par, w_par3, w_aug, w_for, w_range1, w_range2, w_seqI, w_enum, okO_some, okS_some, okV_some, okB_bl, okI_int, okT_tup, okC_some, okQ_tup, okO_newL, okO_if, okO_ifL, okS_if, ok2_two, ok3_three, Sh.f1, Sh.f2, br_true, br_false, br_dec, br_not, atI_0, atI_1, atI_2, atI_3, atI_4, Option.map_some, ok_val, List.map_cons, List.map_nil, List.cons_append, List.nil_append, List.replicate_succ, List.replicate_zero, List.getElem?_cons_zero, List.getElem?_cons_succ, List.set_cons_zero, List.set_cons_succ, List.length_cons, List.length_nil, Nat.reduceSub, Nat.reduceAdd, Nat.reduceLeDiff, true_and, and_true, ne_eq, not_true_eq_false, not_false_eq_true, forall_const, wipeE, big0, big1, big2, big3, big4, big5, big6, big7, big8, big9]
    have c5 := hA5.get c4 (by omega)
    have A5 := A4.trans hA5
    -- lowered
    unfold d_law_r7
    simp only [w_var, w_c, w_bin, w_un, w_dB, wt_and, wt_or, wt_not, w_if, w_andV, w_orV, w_notV, w_anil, w_acons, w_call, w_app, w_tup, w_lst, w_dict, w_onone, w_osome, w_sl, w_tru, w_chain, w_meth, w_lc, w_nop, w_brk, w_cnt, w_seq, w_ret, w_retN, w_drop, w_ifS, w_asg, w_gN, w_gN0, w_gT, w_gT0, w_gnil, w_gnil0, w_gcons, w_gnsnil0, w_gnscons0, w_gsub, w_par, w_par3, w_aug, w_for, w_range1, w_range2, w_seqI, w_enum, okO_some, okS_some, okV_some, okB_bl, okI_int, okT_tup, okC_some, okQ_tup, okO_newL, okO_if, okO_ifL, okS_if, ok2_two, ok3_three, Sh.f1, Sh.f2, br_true, br_false, br_dec, br_not, atI_0, atI_1, atI_2, atI_3, atI_4, Option.map_some, ok_val, List.map_cons, List.map_nil, List.cons_append, List.nil_append, List.replicate_succ, List.replicate_zero, List.getElem?_cons_zero, List.getElem?_cons_succ, List.set_cons_zero, List.set_cons_succ, List.length_cons, List.length_nil, Nat.reduceSub, Nat.reduceAdd, Nat.reduceLeDiff, true_and, and_true, ne_eq, not_true_eq_false, not_false_eq_true, forall_const, wipeE, big0, big1, big2, big3, big4, big5, big6, big7, big8, big9]
    refine lowered_ok A5.ms hEl htE c5 (by omega) fun S6 j fall hA6 hl6 hj hfall => ?_
    have A6 := (A5.trans hA6).grow [Ob.lst (esD (lowE E j t fall))]
    have c6 : (S6 ++ [Ob.lst (esD (lowE E j t fall))])[el]? = some (.lst (esD E)) := get_app (hA6.get c5 (by omega))
    have d6 : (S6 ++ [Ob.lst (esD (lowE E j t fall))])[S5.length]? = some (.lst (esD (lowE E j t fall))) := by rw [← hl6]; exact off0
    have lt5 := A5.ms.lt
    generalize S6 ++ [Ob.lst (esD (lowE E j t fall))] = S7 at A6 c6 d6
    generalize S5.length = lw at d6 lt5
    have hjl := (List.getElem?_eq_some_iff.mp hj).1
    have hL : ∀ e ∈ lowE E j t fall, e.1 < n ∧ e.2.1 < n := by
      intro e he
      unfold lowE at he
      simp only [List.mem_append, List.mem_singleton] at he
      rcases he with (he | he) | he
      · exact hE e (List.mem_of_mem_take he)
      · rw [he]; exact ⟨ht1, ht2⟩
      · exact hE e (List.mem_of_mem_drop he)
    have hLl : (lowE E j t fall).length < 900 := by
      unfold lowE
      simp; omega
    unfold d_law_r6
    simp only [w_var, w_c, w_bin, w_un, w_dB, wt_and, wt_or, wt_not, w_if, w_andV, w_orV, w_notV, w_anil, w_acons, w_call, w_app, w_tup, w_lst, w_dict, w_onone, w_osome, w_sl, w_tru, w_chain, w_meth, w_lc, w_nop, w_brk, w_cnt, w_seq, w_ret, w_retN, w_drop, w_ifS, w_asg, w_gN, w_gN0, w_gT, w_gT0, w_gnil, w_gnil0, w_gcons, w_gnsnil0, w_gnscons0, w_gsub, w_par, w_par3, w_aug, w_for, w_range1, w_range2, w_seqI, w_enum, okO_some, okS_some, okV_some, okB_bl, okI_int, okT_tup, okC_some, okQ_tup, okO_newL, okO_if, okO_ifL, okS_if, ok2_two, ok3_three, Sh.f1, Sh.f2, br_true, br_false, br_dec, br_not, atI_0, atI_1, atI_2, atI_3, atI_4, Option.map_some, ok_val, List.map_cons, List.map_nil, List.cons_append, List.nil_append, List.replicate_succ, List.replicate_zero, List.getElem?_cons_zero, List.getElem?_cons_succ, List.set_cons_zero, List.set_cons_succ, List.length_cons, List.length_nil, Nat.reduceSub, Nat.reduceAdd, Nat.reduceLeDiff, true_and, and_true, ne_eq, not_true_eq_false, not_false_eq_true, forall_const, wipeE, big0, big1, big2, big3, big4, big5, big6, big7, big8, big9, fTuple, seqOf, lstAt, d6]
    refine falling_ok hL (by omega) hLl (fun h0 => (low_noPot cm hj hfall (zs_pot hL h0)).elim) (fun ps _ hf => ?_)
    refine falls_ok (by omega) hf d6 ?_
    simp only [fTru, okC_some, Bool.not_true, br_not, br_true, br_false, w_var, w_c, w_bin, w_un, w_dB, wt_and, wt_or, wt_not, w_if, w_andV, w_orV, w_notV, w_anil, w_acons, w_call, w_app, w_tup, w_lst, w_dict, w_onone, w_osome, w_sl, w_tru, w_chain, w_meth, w_lc, w_nop, w_brk, w_cnt, w_seq, w_ret, w_retN, w_drop, w_ifS, w_asg, w_gN, w_gN0, w_gT, w_gT0, w_gnil, w_gnil0, w_gcons, w_gnsnil0, w_gnscons0, w_gsub, w_par, w_par3, w_aug, w_for, w_range1, w_range2, w_seqI, w_enum, okO_some, okS_some, okV_some, okB_bl, okI_int, okT_tup, okC_some, okQ_tup, okO_newL, okO_if, okO_ifL, okS_if, ok2_two, ok3_three, Sh.f1, Sh.f2, br_true, br_false, br_dec, br_not, atI_0, atI_1, atI_2, atI_3, atI_4, Option.map_some, ok_val, List.map_cons, List.map_nil, List.cons_append, List.nil_append, List.replicate_succ, List.replicate_zero, List.getElem?_cons_zero, List.getElem?_cons_succ, List.set_cons_zero, List.set_cons_succ, List.length_cons, List.length_nil, Nat.reduceSub, Nat.reduceAdd, Nat.reduceLeDiff, true_and, and_true, ne_eq, not_true_eq_false, not_false_eq_true, forall_const, wipeE, big0, big1, big2, big3, big4, big5, big6, big7, big8, big9]
    unfold d_law_r5
    simp only [w_var, w_c, w_bin, w_un, w_dB, wt_and, wt_or, wt_not, w_if, w_andV, w_orV, w_notV, w_anil, w_acons, w_call, w_app, w_tup, w_lst, w_dict, w_onone, w_osome, w_sl, w_tru, w_chain, w_meth, w_lc, w_nop, w_brk, w_cnt, w_seq, w_ret, w_retN, w_drop, w_ifS, w_asg, w_gN, w_gN0, w_gT, w_gT0, w_gnil, w_gnil0, w_gcons, w_gnsnil0, w_gnscons0, w_gsub, w_par, w_par3, w_aug, w_for, w_range1, w_range2, w_seqI, w_enum, okO_some, okS_some, okV_some, okB_bl, okI_int, okT_tup, okC_some, okQ_tup, okO_newL, okO_if, okO_ifL, okS_if, ok2_two, ok3_three, Sh.f1, Sh.f2, br_true, br_false, br_dec, br_not, atI_0, atI_1, atI_2, atI_3, atI_4, Option.map_some, ok_val, List.map_cons, List.map_nil, List.cons_append, List.nil_append, List.replicate_succ, List.replicate_zero, List.getElem?_cons_zero, List.getElem?_cons_succ, List.set_cons_zero, List.set_cons_succ, List.length_cons, List.length_nil, Nat.reduceSub, Nat.reduceAdd, Nat.reduceLeDiff, true_and, and_true, ne_eq, not_true_eq_false, not_false_eq_true, forall_const, wipeE, big0, big1, big2, big3, big4, big5, big6, big7, big8, big9, fTuple, seqOf, lstAt, d6]
    refine pot_ints hL (by omega) hLl cm.hl ?_
    have hall : ((lowE E j t fall).all fun e => decide (hs.getD e.2.1 0 ≤ hs.getD e.1 0 + e.2.2)) = false := by
      cases q : (lowE E j t fall).all fun e => decide (hs.getD e.2.1 0 ≤ hs.getD e.1 0 + e.2.2) with
      | false => rfl
      | true => exact (low_noPot cm hj hfall (h := fun v => hs.getD v 0) fun e he => of_decide_eq_true (List.all_eq_true.mp q e he)).elim
    rw [hall]
    refine truth_ok rfl ?_
    simp only [fTru, okC_some, Bool.not_true, br_not, br_true, br_false, w_var, w_c, w_bin, w_un, w_dB, wt_and, wt_or, wt_not, w_if, w_andV, w_orV, w_notV, w_anil, w_acons, w_call, w_app, w_tup, w_lst, w_dict, w_onone, w_osome, w_sl, w_tru, w_chain, w_meth, w_lc, w_nop, w_brk, w_cnt, w_seq, w_ret, w_retN, w_drop, w_ifS, w_asg, w_gN, w_gN0, w_gT, w_gT0, w_gnil, w_gnil0, w_gcons, w_gnsnil0, w_gnscons0, w_gsub, w_par, w_par3, w_aug, w_for, w_range1, w_range2, w_seqI, w_enum, okO_some, okS_some, okV_some, okB_bl, okI_int, okT_tup, okC_some, okQ_tup, okO_newL, okO_if, okO_ifL, okS_if, ok2_two, ok3_three, Sh.f1, Sh.f2, br_true, br_false, br_dec, br_not, atI_0, atI_1, atI_2, atI_3, atI_4, Option.map_some, ok_val, List.map_cons, List.map_nil, List.cons_append, List.nil_append, List.replicate_succ, List.replicate_zero, List.getElem?_cons_zero, List.getElem?_cons_succ, List.set_cons_zero, List.set_cons_succ, List.length_cons, List.length_nil, Nat.reduceSub, Nat.reduceAdd, Nat.reduceLeDiff, true_and, and_true, ne_eq, not_true_eq_false, not_false_eq_true, forall_const, wipeE, big0, big1, big2, big3, big4, big5, big6, big7, big8, big9]
    -- free, nothing
    unfold d_law_r4
    simp only [w_var, w_c, w_bin, w_un, w_dB, wt_and, wt_or, wt_not, w_if, w_andV, w_orV, w_notV, w_anil, w_acons, w_call, w_app, w_tup, w_lst, w_dict, w_onone, w_osome, w_sl, w_tru, w_chain, w_meth, w_lc, w_nop, w_brk, w_cnt, w_seq, w_ret, w_retN, w_drop, w_ifS, w_asg, w_gN, w_gN0, w_gT, w_gT0, w_gnil, w_gnil0, w_gcons, w_gnsnil0, w_gnscons0, w_gsub, w_par, w_par3, w_aug, w_for, w_range1, w_range2, w_seqI, w_enum, okO_some, okS_some, okV_some, okB_bl, okI_int, okT_tup, okC_some, okQ_tup, okO_newL, okO_if, okO_ifL, okS_if, ok2_two, ok3_three, Sh.f1, Sh.f2, br_true, br_false, br_dec, br_not, atI_0, atI_1, atI_2, atI_3, atI_4, Option.map_some, ok_val, List.map_cons, List.map_nil, List.cons_append, List.nil_append, List.replicate_succ, List.replicate_zero, List.getElem?_cons_zero, List.getElem?_cons_succ, List.set_cons_zero, List.set_cons_succ, List.length_cons, List.length_nil, Nat.reduceSub, Nat.reduceAdd, Nat.reduceLeDiff, true_and, and_true, ne_eq, not_true_eq_false, not_false_eq_true, forall_const, wipeE, big0, big1, big2, big3, big4, big5, big6, big7, big8, big9]
    refine grind_ok' A6.ms (by decide) (small (by decide)) fun r3 S8 hr3 hA8 hl8 => ?_
    simp only [fAdd, w_var, w_c, w_bin, w_un, w_dB, wt_and, wt_or, wt_not, w_if, w_andV, w_orV, w_notV, w_anil, w_acons, w_call, w_app, w_tup, w_lst, w_dict, w_onone, w_osome, w_sl, w_tru, w_chain, w_meth, w_lc, w_nop, w_brk, w_cnt, w_seq, w_ret, w_retN, w_drop, w_ifS, w_asg, w_gN, w_gN0, w_gT, w_gT0, w_gnil, w_gnil0, w_gcons, w_gnsnil0, w_gnscons0, w_gsub, w_par, w_par3, w_aug, w_for, w_range1, w_range2, w_seqI, w_enum, okO_some, okS_some, okV_some, okB_bl, okI_int, okT_tup, okC_some, okQ_tup, okO_newL, okO_if, okO_ifL, okS_if, ok2_two, ok3_three, Sh.f1, Sh.f2, br_true, br_false, br_dec, br_not, atI_0, atI_1, atI_2, atI_3, atI_4, Option.map_some, ok_val, List.map_cons, List.map_nil, List.cons_append, List.nil_append, List.replicate_succ, List.replicate_zero, List.getElem?_cons_zero, List.getElem?_cons_succ, List.set_cons_zero, List.set_cons_succ, List.length_cons, List.length_nil, Nat.reduceSub, Nat.reduceAdd, Nat.reduceLeDiff, true_and, and_true, ne_eq, not_true_eq_false, not_false_eq_true, forall_const, wipeE, big0, big1, big2, big3, big4, big5, big6, big7, big8, big9]
    have e1 : (1 + (r3 : Int)) = ((1 + r3 : Nat) : Int) := by omega
    rw [e1]
    refine free_ok hA8.ms (by omega) (by omega) fun S9 hA9 hl9 => ?_
    simp only [fTru, okC_some, Bool.not_true, br_not, br_true, br_false, w_var, w_c, w_bin, w_un, w_dB, wt_and, wt_or, wt_not, w_if, w_andV, w_orV, w_notV, w_anil, w_acons, w_call, w_app, w_tup, w_lst, w_dict, w_onone, w_osome, w_sl, w_tru, w_chain, w_meth, w_lc, w_nop, w_brk, w_cnt, w_seq, w_ret, w_retN, w_drop, w_ifS, w_asg, w_gN, w_gN0, w_gT, w_gT0, w_gnil, w_gnil0, w_gcons, w_gnsnil0, w_gnscons0, w_gsub, w_par, w_par3, w_aug, w_for, w_range1, w_range2, w_seqI, w_enum, okO_some, okS_some, okV_some, okB_bl, okI_int, okT_tup, okC_some, okQ_tup, okO_newL, okO_if, okO_ifL, okS_if, ok2_two, ok3_three, Sh.f1, Sh.f2, br_true, br_false, br_dec, br_not, atI_0, atI_1, atI_2, atI_3, atI_4, Option.map_some, ok_val, List.map_cons, List.map_nil, List.cons_append, List.nil_append, List.replicate_succ, List.replicate_zero, List.getElem?_cons_zero, List.getElem?_cons_succ, List.set_cons_zero, List.set_cons_succ, List.length_cons, List.length_nil, Nat.reduceSub, Nat.reduceAdd, Nat.reduceLeDiff, true_and, and_true, ne_eq, not_true_eq_false, not_false_eq_true, forall_const, wipeE, big0, big1, big2, big3, big4, big5, big6, big7, big8, big9]
    have A9 := (A6.trans hA8).trans hA9
    have c9 := hA9.get (hA8.get c6 (by omega)) (by omega)
    have lt9 := A9.ms.lt
    refine quiet_ok (E := []) (h := fun _ => 0) (A9.ms.app _) hn1 hn (fun e he => by cases he) (by decide) (fun e he => by cases he) off0 (by omega) fun S10 hA10 hl10 => ?_
    simp only [fTru, okC_some, Bool.not_true, br_not, br_true, br_false, w_var, w_c, w_bin, w_un, w_dB, wt_and, wt_or, wt_not, w_if, w_andV, w_orV, w_notV, w_anil, w_acons, w_call, w_app, w_tup, w_lst, w_dict, w_onone, w_osome, w_sl, w_tru, w_chain, w_meth, w_lc, w_nop, w_brk, w_cnt, w_seq, w_ret, w_retN, w_drop, w_ifS, w_asg, w_gN, w_gN0, w_gT, w_gT0, w_gnil, w_gnil0, w_gcons, w_gnsnil0, w_gnscons0, w_gsub, w_par, w_par3, w_aug, w_for, w_range1, w_range2, w_seqI, w_enum, okO_some, okS_some, okV_some, okB_bl, okI_int, okT_tup, okC_some, okQ_tup, okO_newL, okO_if, okO_ifL, okS_if, ok2_two, ok3_three, Sh.f1, Sh.f2, br_true, br_false, br_dec, br_not, atI_0, atI_1, atI_2, atI_3, atI_4, Option.map_some, ok_val, List.map_cons, List.map_nil, List.cons_append, List.nil_append, List.replicate_succ, List.replicate_zero, List.getElem?_cons_zero, List.getElem?_cons_succ, List.set_cons_zero, List.set_cons_succ, List.length_cons, List.length_nil, Nat.reduceSub, Nat.reduceAdd, Nat.reduceLeDiff, true_and, and_true, ne_eq, not_true_eq_false, not_false_eq_true, forall_const, wipeE, big0, big1, big2, big3, big4, big5, big6, big7, big8, big9]
    have c10 := hA10.get (get_app c9) (by omega)
    -- alone
    unfold d_law_r3 d_law_r2
    obtain ⟨t0, t1, t2⟩ := t
    simp only at ht1
    simp only [w_var, w_c, w_bin, w_un, w_dB, wt_and, wt_or, wt_not, w_if, w_andV, w_orV, w_notV, w_anil, w_acons, w_call, w_app, w_tup, w_lst, w_dict, w_onone, w_osome, w_sl, w_tru, w_chain, w_meth, w_lc, w_nop, w_brk, w_cnt, w_seq, w_ret, w_retN, w_drop, w_ifS, w_asg, w_gN, w_gN0, w_gT, w_gT0, w_gnil, w_gnil0, w_gcons, w_gnsnil0, w_gnscons0, w_gsub, w_par, w_par3, w_aug, w_for, w_range1, w_range2, w_seqI, w_enum, okO_some, okS_some, okV_some, okB_bl, okI_int, okT_tup, okC_some, okQ_tup, okO_newL, okO_if, okO_ifL, okS_if, ok2_two, ok3_three, Sh.f1, Sh.f2, br_true, br_false, br_dec, br_not, atI_0, atI_1, atI_2, atI_3, atI_4, Option.map_some, ok_val, List.map_cons, List.map_nil, List.cons_append, List.nil_append, List.replicate_succ, List.replicate_zero, List.getElem?_cons_zero, List.getElem?_cons_succ, List.set_cons_zero, List.set_cons_succ, List.length_cons, List.length_nil, Nat.reduceSub, Nat.reduceAdd, Nat.reduceLeDiff, true_and, and_true, ne_eq, not_true_eq_false, not_false_eq_true, forall_const, wipeE, big0, big1, big2, big3, big4, big5, big6, big7, big8, big9, eD, fIx]
    rw [one_eD]
    refine falling_ok (fun e he => by simp only [List.mem_singleton] at he; rw [he]; exact ⟨ht1, ht1⟩) (by omega) (by simp) (fun _ => ?_) (fun ps _ hf => (hf.noPot (h := fun _ => 0) (fun e he => by simp only [List.mem_singleton] at he; rw [he]; simp)).elim)
    simp only [fIsNotN, isNon, Bool.not_true, w_var, w_c, w_bin, w_un, w_dB, wt_and, wt_or, wt_not, w_if, w_andV, w_orV, w_notV, w_anil, w_acons, w_call, w_app, w_tup, w_lst, w_dict, w_onone, w_osome, w_sl, w_tru, w_chain, w_meth, w_lc, w_nop, w_brk, w_cnt, w_seq, w_ret, w_retN, w_drop, w_ifS, w_asg, w_gN, w_gN0, w_gT, w_gT0, w_gnil, w_gnil0, w_gcons, w_gnsnil0, w_gnscons0, w_gsub, w_par, w_par3, w_aug, w_for, w_range1, w_range2, w_seqI, w_enum, okO_some, okS_some, okV_some, okB_bl, okI_int, okT_tup, okC_some, okQ_tup, okO_newL, okO_if, okO_ifL, okS_if, ok2_two, ok3_three, Sh.f1, Sh.f2, br_true, br_false, br_dec, br_not, atI_0, atI_1, atI_2, atI_3, atI_4, Option.map_some, ok_val, List.map_cons, List.map_nil, List.cons_append, List.nil_append, List.replicate_succ, List.replicate_zero, List.getElem?_cons_zero, List.getElem?_cons_succ, List.set_cons_zero, List.set_cons_succ, List.length_cons, List.length_nil, Nat.reduceSub, Nat.reduceAdd, Nat.reduceLeDiff, true_and, and_true, ne_eq, not_true_eq_false, not_false_eq_true, forall_const, wipeE, big0, big1, big2, big3, big4, big5, big6, big7, big8, big9]
    unfold d_law_r1
    simp only [w_var, w_c, w_bin, w_un, w_dB, wt_and, wt_or, wt_not, w_if, w_andV, w_orV, w_notV, w_anil, w_acons, w_call, w_app, w_tup, w_lst, w_dict, w_onone, w_osome, w_sl, w_tru, w_chain, w_meth, w_lc, w_nop, w_brk, w_cnt, w_seq, w_ret, w_retN, w_drop, w_ifS, w_asg, w_gN, w_gN0, w_gT, w_gT0, w_gnil, w_gnil0, w_gcons, w_gnsnil0, w_gnscons0, w_gsub, w_par, w_par3, w_aug, w_for, w_range1, w_range2, w_seqI, w_enum, okO_some, okS_some, okV_some, okB_bl, okI_int, okT_tup, okC_some, okQ_tup, okO_newL, okO_if, okO_ifL, okS_if, ok2_two, ok3_three, Sh.f1, Sh.f2, br_true, br_false, br_dec, br_not, atI_0, atI_1, atI_2, atI_3, atI_4, Option.map_some, ok_val, List.map_cons, List.map_nil, List.cons_append, List.nil_append, List.replicate_succ, List.replicate_zero, List.getElem?_cons_zero, List.getElem?_cons_succ, List.set_cons_zero, List.set_cons_succ, List.length_cons, List.length_nil, Nat.reduceSub, Nat.reduceAdd, Nat.reduceLeDiff, true_and, and_true, ne_eq, not_true_eq_false, not_false_eq_true, forall_const, wipeE, big0, big1, big2, big3, big4, big5, big6, big7, big8, big9, fNeg, pickL, List.filterMap_cons, List.filterMap_nil]
    have hE1 : ∀ e ∈ [((t0, t0, -1) : Ed)], e.1 < n ∧ e.2.1 < n := fun e he => by simp only [List.mem_singleton] at he; rw [he]; exact ⟨ht1, ht1⟩
    rw [one_eD]
    refine falling_ok hE1 (by omega) (by simp) (fun h0 => ?_) (fun ps _ hf => ?_)
    · exfalso
      have := zs_pot hE1 h0 (t0, t0, -1) (by simp)
      simp only at this
      omega
    · have hps : ps = [0] := by
        obtain ⟨pt, _, hpt⟩ := hf.pts
        have z : ∀ p ∈ ps, p = 0 := fun p hp => by
          obtain ⟨k, hk, e⟩ := List.getElem_of_mem hp
          obtain ⟨w, hw⟩ := hpt k p (by rw [List.getElem?_eq_getElem hk, e])
          have := (List.getElem?_eq_some_iff.mp hw).1
          simp at this
          exact this
        have nd := hf.nd
        cases ps with
        | nil => exact absurd rfl hf.ne
        | cons a r =>
          have ha := z a List.mem_cons_self
          cases r with
          | nil => rw [ha]
          | cons b r =>
            have hb := z b (by simp)
            rw [ha, hb] at nd
            simp at nd
      subst hps
      refine same_ok (f := fun _ => some 0) (n := 1) (by decide) (.inl rfl) ?_
      simp only [fTru, okC_some, Bool.not_true, br_not, br_true, br_false, w_var, w_c, w_bin, w_un, w_dB, wt_and, wt_or, wt_not, w_if, w_andV, w_orV, w_notV, w_anil, w_acons, w_call, w_app, w_tup, w_lst, w_dict, w_onone, w_osome, w_sl, w_tru, w_chain, w_meth, w_lc, w_nop, w_brk, w_cnt, w_seq, w_ret, w_retN, w_drop, w_ifS, w_asg, w_gN, w_gN0, w_gT, w_gT0, w_gnil, w_gnil0, w_gcons, w_gnsnil0, w_gnscons0, w_gsub, w_par, w_par3, w_aug, w_for, w_range1, w_range2, w_seqI, w_enum, okO_some, okS_some, okV_some, okB_bl, okI_int, okT_tup, okC_some, okQ_tup, okO_newL, okO_if, okO_ifL, okS_if, ok2_two, ok3_three, Sh.f1, Sh.f2, br_true, br_false, br_dec, br_not, atI_0, atI_1, atI_2, atI_3, atI_4, Option.map_some, ok_val, List.map_cons, List.map_nil, List.cons_append, List.nil_append, List.replicate_succ, List.replicate_zero, List.getElem?_cons_zero, List.getElem?_cons_succ, List.set_cons_zero, List.set_cons_succ, List.length_cons, List.length_nil, Nat.reduceSub, Nat.reduceAdd, Nat.reduceLeDiff, true_and, and_true, ne_eq, not_true_eq_false, not_false_eq_true, forall_const, wipeE, big0, big1, big2, big3, big4, big5, big6, big7, big8, big9, fTuple, seqOf, lstAt, c10]
      refine falling_ok hE (by omega) hEl (fun _ => ?_) (fun ps _ hf => (hf.noPot hpot).elim)
      simp only [fIsN, isNon, w_var, w_c, w_bin, w_un, w_dB, wt_and, wt_or, wt_not, w_if, w_andV, w_orV, w_notV, w_anil, w_acons, w_call, w_app, w_tup, w_lst, w_dict, w_onone, w_osome, w_sl, w_tru, w_chain, w_meth, w_lc, w_nop, w_brk, w_cnt, w_seq, w_ret, w_retN, w_drop, w_ifS, w_asg, w_gN, w_gN0, w_gT, w_gT0, w_gnil, w_gnil0, w_gcons, w_gnsnil0, w_gnscons0, w_gsub, w_par, w_par3, w_aug, w_for, w_range1, w_range2, w_seqI, w_enum, okO_some, okS_some, okV_some, okB_bl, okI_int, okT_tup, okC_some, okQ_tup, okO_newL, okO_if, okO_ifL, okS_if, ok2_two, ok3_three, Sh.f1, Sh.f2, br_true, br_false, br_dec, br_not, atI_0, atI_1, atI_2, atI_3, atI_4, Option.map_some, ok_val, List.map_cons, List.map_nil, List.cons_append, List.nil_append, List.replicate_succ, List.replicate_zero, List.getElem?_cons_zero, List.getElem?_cons_succ, List.set_cons_zero, List.set_cons_succ, List.length_cons, List.length_nil, Nat.reduceSub, Nat.reduceAdd, Nat.reduceLeDiff, true_and, and_true, ne_eq, not_true_eq_false, not_false_eq_true, forall_const, wipeE, big0, big1, big2, big3, big4, big5, big6, big7, big8, big9]
      exact gc_bl
  cases q : d_law [.loc 0] [.ro (ns.map D.int)] with
  | val d S' =>
    rw [q, ok_val] at main
    exact ⟨S', by rw [main]⟩
  | exc x S' => rw [q, ok_exc] at main; exact main.elim
  | bad => rw [q, ok_bad] at main; exact main.elim
end K68

set_option Elab.async false
set_option linter.all false
set_option maxRecDepth 100000
set_option maxHeartbeats 4000000
set_option autoImplicit false
set_option maxHeartbeats 0
open PySem PySem.W PySem.Calls PyProof.Rows
theorem PySem.Challenge.cw_whichpass_k68_whole_weights_holds : PySem.Challenge.rw_whichpass_k68_whole_weights.Holds := by
  w_on; o_law
  refine HandSHeadRun.head_any (r := OpenLaw.row PySem.Challenge.rw_whichpass_k68_whole_weights) (q := view (OpenLaw.row PySem.Challenge.rw_whichpass_k68_whole_weights).prog [26]) (H := K68.hk) (ob := K68.ob) (M := 4000) (loose := ["is_integer", "is_tuple", "settle", "round_through", "falling_round", "least_ways", "is_potentials", "_law_mill", "_law_grind", "_law_number", "_law_same", "_law_falls", "_law_ways", "_law_fits", "_law_ring", "_law_put", "_law_calm", "_law_quiet", "_law_truth", "_law_bent", "_law_judged", "_law_lowered", "_law_free", "__name__"]) (d := HandSHeadRun.topDef (OpenLaw.row PySem.Challenge.rw_whichpass_k68_whole_weights).prog 26) (kwd := []) K68.ob_eq
    (by kernel_rfl) (fun s => by kernel_rfl) K68.run (by kernel_rfl) (by kernel_rfl) (by kernel_rfl) (by rfl) (by first | assumption | decide +kernel) (by decide +kernel) ⟨rfl, rfl, rfl, rfl, rfl, by decide +kernel⟩ ?hw ?hc
  case hw => w_witness2
  case hc =>
    refine Sh.walk_ofW (P := (PySem.Challenge.rw_whichpass_k68_whole_weights).prog) (l := PySem.Challenge.rw_whichpass_k68_whole_weights) (n := 63) (k := 5) (x := "script") rfl (by decide) (by kernel_rfl) ⟨rfl, by decide, by decide⟩ ?F
    intro w mg fa h Y G hmg0
    obtain ⟨K, KX, c, nK⟩ := Y
    have hmg : mg ("law" : PySem.Str) = some (.ref fa) := by
      have e : (HandSHeadRun.topDef (OpenLaw.row PySem.Challenge.rw_whichpass_k68_whole_weights).prog 26).name = ("law" : PySem.Str) := by kernel_rfl
      rw [← e]
      exact hmg0
    obtain ⟨fd, hb, hF⟩ := K68.facts (P := (PySem.Challenge.rw_whichpass_k68_whole_weights).prog) (w := w) KX G hmg c
    exact ⟨K, fd, _, KX, hb, fun H a ns hl hO hS => Sh.sp_law nK hO hS (K68.law_true ns hl), hF⟩
