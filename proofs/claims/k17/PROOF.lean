import PyProof.Rows.All
import Wide.All
import OpenK.AllK
import Wide.FinOn
import HandS.ForMost
import HandS.Walk
import HandS.Zip
import KE.LtData
import HandS.IsInst
import HandS.TupAny
import HandS.TupMul
import HandS.Flow
import HandS.Wide
import HandS.Rev
import HandS.Conv
import HandS.Style
import HandS.SortInts
import HandS.Deep
import PyProof.P3In
import KE.GoesMore
import KE.DataMinMax
import KE.SortData
import PyProof.SumAny
import PyProof.MaxThree
import PyProof.ConsumeS
import HandS.SetFor
import HandS.Strs
import HandS.Zip0
import KE.KItemsList
import HandS.ExcValue
import HandS.More
import HandS.NoneIn
import PySem.Challenge.RW_gasheld_k17_whole_store_ways
set_option Elab.async false
set_option linter.all false
set_option maxRecDepth 100000
set_option maxHeartbeats 16000000
/-! Plain data over the layer's heap: what a value stands for (Rep), what a slot owns (Own), states of slots (SlotsR). -/
namespace Ev
open PySem PySem.Spec PyProof.Rows L2

inductive D where
  | bad | non | bl (b : Bool) | int (i : Int) | str (s : Str) | scr (xs : List D) | tup (xs : List D) | lst (xs : List D) | dic (ks vs : List D)
  deriving Inhabited

abbrev Pa := Addr → Prop
def Hp0 : Hp := fun _ => none
def ofKey : Key → D
  | .inl i => .int i
  | .inr x => .str x

theorem Same.sqt {K : PySem.W.Frag} {H H' : Hp} {a : Addr} {xs : List V} (e : Same H H') (h : SqT K H a xs) : SqT K H' a xs := by
  rcases h with (h | ⟨o, h⟩) | h
  · exact .inl (.inl (e _ _ h))
  · exact .inl (.inr ⟨o, e _ _ h⟩)
  · exact .inr h
theorem Same.rd {H H' : Hp} {a : Addr} {u : HO} (e : Same H H') (h : Rd H a u) : Rd H' a u := by
  rcases h with h | ⟨o, h⟩
  · exact .inl (e _ _ h)
  · exact .inr ⟨o, e _ _ h⟩
theorem same0 (H : Hp) : Same Hp0 H := fun _ _ h => by cases h

/-- a list, a tuple at a: tracked and allowed by P, or written -/
def LS (K : PySem.W.Frag) (P : Pa) (H : Hp) (a : Addr) (vs : List V) : Prop := (Rd H a (.lst vs) ∧ P a) ∨ SqL K Hp0 a vs
def LA (K : PySem.W.Frag) (P : Pa) (H : Hp) (a : Addr) (vs : List V) : Prop := H a = some (.lst vs) ∧ P a
def TA' (K : PySem.W.Frag) (P : Pa) (H : Hp) (a : Addr) (vs : List V) : Prop := (Rd H a (.tup vs) ∧ P a) ∨ SqT K Hp0 a vs
section
variable {K : PySem.W.Frag} {P P' : Pa} {H H' : Hp} {a : Addr} {vs : List V}
theorem LA.sq (h : LA K P H a vs) : SqL K H a vs := SqL.of h.1
theorem LS.sq (h : LS K P H a vs) : SqL K H a vs := by
  rcases h with h | h
  · exact .inl h.1
  · exact Same.seq (same0 H) h
theorem TA'.sq (h : TA' K P H a vs) : SqT K H a vs := by
  rcases h with h | h
  · exact .inl h.1
  · exact Same.sqt (same0 H) h
end

section
variable (K : PySem.W.Frag) (P : Pa) (H : Hp)
mutual
def Rep : D → V → Prop
  | .bad, _ => False
  | .non, v => v = .non
  | .bl b, v => v = .bl b
  | .int i, v => v = .int i
  | .str s, v => v = .str s
  | .scr ds, v => ∃ a vs, v = .ref a ∧ LS K P H a vs ∧ Reps ds vs
  | .tup ds, v => ∃ a vs, v = .ref a ∧ TA' K P H a vs ∧ Reps ds vs
  | .lst ds, v => ∃ a vs, v = .ref a ∧ LA K P H a vs ∧ Reps ds vs
  | .dic ks ds, v => ∃ a, v = .ref a ∧ P a ∧ ((∃ xs : List (Key × V), Rd H a (.dK xs) ∧ ks = xs.map (fun p => ofKey p.1) ∧ Reps ds (xs.map (·.2))) ∨
      (∃ xs : List (List Key × V), Rd H a (.dT xs) ∧ ks = xs.map (fun p => D.tup (p.1.map ofKey)) ∧ Reps ds (xs.map (·.2))))
termination_by structural d => d
def Reps : List D → List V → Prop
  | [], vs => vs = []
  | d :: ds, vs => ∃ v r, vs = v :: r ∧ Rep d v ∧ Reps ds r
termination_by structural ds => ds
end
end

section
variable {K : PySem.W.Frag} {P P' : Pa} {H H' : Hp}
/-- a step of the heap that keeps what P allows -/
structure Kept (P P' : Pa) (H H' : Hp) : Prop where
  hp : ∀ a, P a → ∀ o, H a = some o → H' a = some o
  pp : ∀ a, P a → P' a
theorem Kept.rd {a : Addr} {u : HO} (k : Kept P P' H H') (p : P a) (h : Rd H a u) : Rd H' a u := by
  rcases h with h | ⟨o, h⟩
  · exact .inl (k.hp _ p _ h)
  · exact .inr ⟨o, k.hp _ p _ h⟩
theorem Kept.la {a : Addr} {vs : List V} (k : Kept P P' H H') (h : LA K P H a vs) : LA K P' H' a vs := ⟨k.hp _ h.2 _ h.1, k.pp _ h.2⟩
theorem Kept.ls {a : Addr} {vs : List V} (k : Kept P P' H H') (h : LS K P H a vs) : LS K P' H' a vs := by
  rcases h with h | h
  · exact .inl ⟨k.rd h.2 h.1, k.pp _ h.2⟩
  · exact .inr h
theorem Kept.ta {a : Addr} {vs : List V} (k : Kept P P' H H') (h : TA' K P H a vs) : TA' K P' H' a vs := by
  rcases h with h | h
  · exact .inl ⟨k.rd h.2 h.1, k.pp _ h.2⟩
  · exact .inr h
theorem Kept.of {P P' : Pa} (e : Same H H') (p : ∀ a, P a → P' a) : Kept P P' H H' := ⟨fun a _ o h => e a o h, p⟩
theorem Kept.trans {P2 : Pa} {H2 : Hp} (a : Kept P P' H H') (b : Kept P' P2 H' H2) : Kept P P2 H H2 := ⟨fun x p o h => b.hp x (a.pp x p) o (a.hp x p o h), fun x p => b.pp x (a.pp x p)⟩
mutual
theorem Rep.kept (k : Kept P P' H H') : ∀ (d : D) (v : V), Rep K P H d v → Rep K P' H' d v
  | .bad, _, h => by unfold Rep at h; exact h.elim
  | .non, _, h => by unfold Rep at h ⊢; exact h
  | .bl b, _, h => by unfold Rep at h ⊢; exact h
  | .int i, _, h => by unfold Rep at h ⊢; exact h
  | .str s, _, h => by unfold Rep at h ⊢; exact h
  | .scr ds, v, h => by
    unfold Rep at h ⊢
    obtain ⟨a, vs, e, t, r⟩ := h
    exact ⟨a, vs, e, k.ls t, Reps.kept k ds vs r⟩
  | .tup ds, v, h => by
    unfold Rep at h ⊢
    obtain ⟨a, vs, e, t, r⟩ := h
    exact ⟨a, vs, e, k.ta t, Reps.kept k ds vs r⟩
  | .lst ds, v, h => by
    unfold Rep at h ⊢
    obtain ⟨a, vs, e, t, r⟩ := h
    exact ⟨a, vs, e, k.la t, Reps.kept k ds vs r⟩
  | .dic ks ds, v, h => by
    unfold Rep at h ⊢
    obtain ⟨a, e, p, h⟩ := h
    refine ⟨a, e, k.pp _ p, ?_⟩
    rcases h with ⟨xs, h1, h2, h3⟩ | ⟨xs, h1, h2, h3⟩
    · exact .inl ⟨xs, k.rd p h1, h2, Reps.kept k ds _ h3⟩
    · exact .inr ⟨xs, k.rd p h1, h2, Reps.kept k ds _ h3⟩
theorem Reps.kept (k : Kept P P' H H') : ∀ (ds : List D) (vs : List V), Reps K P H ds vs → Reps K P' H' ds vs
  | [], _, h => by unfold Reps at h ⊢; exact h
  | d :: ds, _, h => by
    unfold Reps at h ⊢
    obtain ⟨v, r, e, h1, h2⟩ := h
    exact ⟨v, r, e, Rep.kept k d v h1, Reps.kept k ds r h2⟩
end
theorem Rep.mono {d : D} {v : V} (h : Rep K P H d v) (e : Same H H') (p : ∀ a, P a → P' a) : Rep K P' H' d v := Rep.kept (.of e p) d v h
theorem Reps.mono {d : List D} {v : List V} (h : Reps K P H d v) (e : Same H H') (p : ∀ a, P a → P' a) : Reps K P' H' d v := Reps.kept (.of e p) d v h

/-- pointwise -/
def AllR (p : D → V → Prop) : List D → List V → Prop
  | [], vs => vs = []
  | d :: ds, vs => ∃ v r, vs = v :: r ∧ p d v ∧ AllR p ds r
theorem reps_iff : ∀ {ds : List D} {vs : List V}, Reps K P H ds vs ↔ AllR (Rep K P H) ds vs
  | [], vs => by unfold Reps AllR; exact Iff.rfl
  | d :: ds, vs => by
    unfold Reps AllR
    constructor
    · rintro ⟨v, r, e, h1, h2⟩; exact ⟨v, r, e, h1, reps_iff.mp h2⟩
    · rintro ⟨v, r, e, h1, h2⟩; exact ⟨v, r, e, h1, reps_iff.mpr h2⟩
theorem AllR.imp {p q : D → V → Prop} : ∀ {ds : List D} {vs : List V}, AllR p ds vs → (∀ d v, d ∈ ds → p d v → q d v) → AllR q ds vs
  | [], _, h, _ => h
  | d :: ds, vs, ⟨v, r, e, h1, h2⟩, f => ⟨v, r, e, f d v (.head _) h1, AllR.imp h2 fun d v hm => f d v (.tail _ hm)⟩
theorem AllR.len {p : D → V → Prop} : ∀ {ds : List D} {vs : List V}, AllR p ds vs → vs.length = ds.length
  | [], _, h => by have h : _ = [] := h; rw [h]; rfl
  | d :: ds, vs, ⟨v, r, e, h1, h2⟩ => by rw [e, List.length_cons, List.length_cons, AllR.len h2]
theorem AllR.get {p : D → V → Prop} : ∀ {ds : List D} {vs : List V} {i : Nat} {d : D}, AllR p ds vs → ds[i]? = some d → ∃ v, vs[i]? = some v ∧ p d v
  | [], _, _, _, _, e => by simp at e
  | d :: ds, vs, 0, d', ⟨v, r, e, h1, h2⟩, q => by
    simp only [List.getElem?_cons_zero, Option.some.injEq] at q
    subst q; subst e
    exact ⟨v, rfl, h1⟩
  | d :: ds, vs, i + 1, d', ⟨v, r, e, h1, h2⟩, q => by
    rw [List.getElem?_cons_succ] at q
    subst e
    rw [List.getElem?_cons_succ]
    exact AllR.get h2 q
theorem AllR.app {p : D → V → Prop} : ∀ {ds ds' : List D} {vs vs' : List V}, AllR p ds vs → AllR p ds' vs' → AllR p (ds ++ ds') (vs ++ vs')
  | [], _, _, _, h, h' => by have h : _ = [] := h; rw [h]; exact h'
  | d :: ds, ds', vs, vs', ⟨v, r, e, h1, h2⟩, h' => ⟨v, r ++ vs', by rw [e]; rfl, h1, AllR.app h2 h'⟩
theorem AllR.snoc {p : D → V → Prop} {ds : List D} {vs : List V} {d : D} {v : V} (h : AllR p ds vs) (q : p d v) : AllR p (ds ++ [d]) (vs ++ [v]) := h.app ⟨v, [], rfl, q, rfl⟩
theorem AllR.take {p : D → V → Prop} : ∀ {ds : List D} {vs : List V} (n : Nat), AllR p ds vs → AllR p (ds.take n) (vs.take n)
  | [], vs, n, h => by have h : _ = [] := h; rw [h, List.take_nil, List.take_nil]; rfl
  | d :: ds, vs, 0, h => rfl
  | d :: ds, vs, n + 1, ⟨v, r, e, h1, h2⟩ => ⟨v, r.take n, by rw [e]; rfl, h1, AllR.take n h2⟩
theorem AllR.drop {p : D → V → Prop} : ∀ {ds : List D} {vs : List V} (n : Nat), AllR p ds vs → AllR p (ds.drop n) (vs.drop n)
  | [], vs, n, h => by have h : _ = [] := h; rw [h, List.drop_nil, List.drop_nil]; rfl
  | d :: ds, vs, 0, h => h
  | d :: ds, vs, n + 1, ⟨v, r, e, h1, h2⟩ => by rw [e]; exact AllR.drop n h2
theorem AllR.rev {p : D → V → Prop} : ∀ {ds : List D} {vs : List V}, AllR p ds vs → AllR p ds.reverse vs.reverse
  | [], vs, h => by have h : _ = [] := h; rw [h]; rfl
  | d :: ds, vs, ⟨v, r, e, h1, h2⟩ => by rw [e, List.reverse_cons, List.reverse_cons]; exact h2.rev.snoc h1
theorem AllR.set {p : D → V → Prop} {d : D} {v : V} (q : p d v) : ∀ {ds : List D} {vs : List V} (i : Nat), AllR p ds vs → AllR p (ds.set i d) (vs.set i v)
  | [], vs, i, h => by have h : _ = [] := h; rw [h]; rfl
  | d' :: ds, vs, 0, ⟨v', r, e, h1, h2⟩ => ⟨v, r, by rw [e]; rfl, q, h2⟩
  | d' :: ds, vs, i + 1, ⟨v', r, e, h1, h2⟩ => ⟨v', r.set i v, by rw [e]; rfl, h1, AllR.set q i h2⟩
theorem allR_iff {p : D → V → Prop} : ∀ {ds : List D} {vs : List V}, AllR p ds vs ↔ vs.length = ds.length ∧ ∀ (i : Nat) d v, ds[i]? = some d → vs[i]? = some v → p d v
  | [], vs => by
    constructor
    · intro h
      have h : _ = [] := h
      exact ⟨by rw [h]; rfl, fun i d v e => by simp at e⟩
    · intro h
      exact List.eq_nil_of_length_eq_zero h.1
  | d :: ds, vs => by
    constructor
    · intro h
      refine ⟨h.len, fun i d' v' e e' => ?_⟩
      obtain ⟨w, q, r⟩ := h.get e
      rw [q] at e'
      cases e'
      exact r
    · rintro ⟨hl, h⟩
      cases vs with
      | nil => simp at hl
      | cons v r =>
        refine ⟨v, r, rfl, h 0 d v rfl rfl, allR_iff.mpr ⟨by simpa using hl, fun i d' v' e e' => h (i + 1) d' v' e e'⟩⟩

/-- like Rep; above depth m any list or tuple, below only what F allows -/
def RepM (K : PySem.W.Frag) (F : Pa) (H : Hp) : Nat → D → V → Prop
  | 0, d, v => Rep K F H d v
  | m + 1, .lst ds, v => ∃ a vs, v = .ref a ∧ H a = some (.lst vs) ∧ AllR (RepM K F H m) ds vs
  | m + 1, .tup ds, v => ∃ a vs, v = .ref a ∧ SqT K H a vs ∧ AllR (RepM K F H m) ds vs
  | m + 1, .dic ks ds, v => ∃ a, v = .ref a ∧ ((∃ xs : List (Key × V), Rd H a (.dK xs) ∧ ks = xs.map (fun p => ofKey p.1) ∧ AllR (RepM K F H m) ds (xs.map (·.2))) ∨
      (∃ xs : List (List Key × V), Rd H a (.dT xs) ∧ ks = xs.map (fun p => D.tup (p.1.map ofKey)) ∧ AllR (RepM K F H m) ds (xs.map (·.2))))
  | _ + 1, d, v => Rep K F H d v
theorem RepM.succ : ∀ {m : Nat} {d : D} {v : V}, RepM K P H m d v → RepM K P H (m + 1) d v
  | 0, .bad, v, h => h
  | 0, .non, v, h => h
  | 0, .bl b, v, h => h
  | 0, .int i, v, h => h
  | 0, .str s, v, h => h
  | 0, .scr s, v, h => h
  | 0, .tup ds, v, h => by
    have h : Rep K P H (.tup ds) v := h
    unfold Rep at h
    obtain ⟨a, vs, e, t, r⟩ := h
    exact ⟨a, vs, e, t.sq, reps_iff.mp r⟩
  | 0, .lst ds, v, h => by
    have h : Rep K P H (.lst ds) v := h
    unfold Rep at h
    obtain ⟨a, vs, e, t, r⟩ := h
    exact ⟨a, vs, e, t.1, reps_iff.mp r⟩
  | 0, .dic ks ds, v, h => by
    have h : Rep K P H (.dic ks ds) v := h
    unfold Rep at h
    obtain ⟨a, e, p, h⟩ := h
    refine ⟨a, e, ?_⟩
    rcases h with ⟨xs, h1, h2, h3⟩ | ⟨xs, h1, h2, h3⟩
    · exact .inl ⟨xs, h1, h2, reps_iff.mp h3⟩
    · exact .inr ⟨xs, h1, h2, reps_iff.mp h3⟩
  | m + 1, .bad, v, h => h
  | m + 1, .non, v, h => h
  | m + 1, .bl b, v, h => h
  | m + 1, .int i, v, h => h
  | m + 1, .str s, v, h => h
  | m + 1, .scr s, v, h => h
  | m + 1, .tup ds, v, ⟨a, vs, e, t, r⟩ => ⟨a, vs, e, t, r.imp fun d v _ h => RepM.succ h⟩
  | m + 1, .lst ds, v, ⟨a, vs, e, t, r⟩ => ⟨a, vs, e, t, r.imp fun d v _ h => RepM.succ h⟩
  | m + 1, .dic ks ds, v, ⟨a, e, h⟩ => by
    refine ⟨a, e, ?_⟩
    rcases h with ⟨xs, h1, h2, h3⟩ | ⟨xs, h1, h2, h3⟩
    · exact .inl ⟨xs, h1, h2, h3.imp fun d v _ h => RepM.succ h⟩
    · exact .inr ⟨xs, h1, h2, h3.imp fun d v _ h => RepM.succ h⟩
theorem RepM.le {m n : Nat} {d : D} {v : V} (h : RepM K P H m d v) (hn : m ≤ n) : RepM K P H n d v := by
  induction hn with
  | refl => exact h
  | step _ ih => exact ih.succ
/-- all is allowed -/
abbrev Any : Pa := fun _ => True
theorem SqT.ta {a : Addr} {vs : List V} (h : SqT K H a vs) : TA' K Any H a vs := by
  rcases h with h | h
  · exact .inl ⟨h, trivial⟩
  · exact .inr (.inr h)
theorem Rep.any {d : D} {v : V} (h : Rep K P H d v) : Rep K Any H d v := h.mono (Same.refl H) fun _ _ => trivial
theorem RepM.any : ∀ {m : Nat} {d : D} {v : V}, RepM K P H m d v → Rep K Any H d v
  | 0, d, v, h => Rep.any h
  | m + 1, .bad, v, h => Rep.any h
  | m + 1, .non, v, h => Rep.any h
  | m + 1, .bl b, v, h => Rep.any h
  | m + 1, .int i, v, h => Rep.any h
  | m + 1, .str s, v, h => Rep.any h
  | m + 1, .scr s, v, h => Rep.any h
  | m + 1, .tup ds, v, ⟨a, vs, e, t, r⟩ => by
    unfold Rep
    exact ⟨a, vs, e, SqT.ta t, reps_iff.mpr (r.imp fun d v _ h => RepM.any h)⟩
  | m + 1, .lst ds, v, ⟨a, vs, e, t, r⟩ => by
    unfold Rep
    exact ⟨a, vs, e, ⟨t, trivial⟩, reps_iff.mpr (r.imp fun d v _ h => RepM.any h)⟩
  | m + 1, .dic ks ds, v, ⟨a, e, h⟩ => by
    unfold Rep
    refine ⟨a, e, trivial, ?_⟩
    rcases h with ⟨xs, h1, h2, h3⟩ | ⟨xs, h1, h2, h3⟩
    · exact .inl ⟨xs, h1, h2, reps_iff.mpr (h3.imp fun d v _ h => RepM.any h)⟩
    · exact .inr ⟨xs, h1, h2, reps_iff.mpr (h3.imp fun d v _ h => RepM.any h)⟩
theorem RepM.mono : ∀ {m : Nat} {d : D} {v : V}, RepM K P H m d v → Same H H' → (∀ a, P a → P' a) → RepM K P' H' m d v
  | 0, d, v, h, e, p => Rep.mono h e p
  | m + 1, .bad, v, h, e, p => Rep.mono (d := .bad) h e p
  | m + 1, .non, v, h, e, p => Rep.mono (d := .non) h e p
  | m + 1, .bl b, v, h, e, p => Rep.mono (d := .bl b) h e p
  | m + 1, .int i, v, h, e, p => Rep.mono (d := .int i) h e p
  | m + 1, .str s, v, h, e, p => Rep.mono (d := .str s) h e p
  | m + 1, .scr s, v, h, e, p => Rep.mono (d := .scr s) h e p
  | m + 1, .tup ds, v, ⟨a, vs, q, t, r⟩, e, p => ⟨a, vs, q, Same.sqt e t, r.imp fun d v _ h => RepM.mono h e p⟩
  | m + 1, .lst ds, v, ⟨a, vs, q, t, r⟩, e, p => ⟨a, vs, q, e _ _ t, r.imp fun d v _ h => RepM.mono h e p⟩
  | m + 1, .dic ks ds, v, ⟨a, q, h⟩, e, p => by
    refine ⟨a, q, ?_⟩
    rcases h with ⟨xs, h1, h2, h3⟩ | ⟨xs, h1, h2, h3⟩
    · exact .inl ⟨xs, Same.rd e h1, h2, h3.imp fun d v _ h => RepM.mono h e p⟩
    · exact .inr ⟨xs, Same.rd e h1, h2, h3.imp fun d v _ h => RepM.mono h e p⟩

/-- pointwise, the owned addresses in a row -/
def AllO (p : D → V → List Addr → Prop) : List D → List V → List Addr → Prop
  | [], vs, S => vs = [] ∧ S = []
  | d :: ds, vs, S => ∃ v r S1 S2, vs = v :: r ∧ S = S1 ++ S2 ∧ p d v S1 ∧ AllO p ds r S2
/-- owned to depth k: nobody else knows these objects -/
def Own (K : PySem.W.Frag) (F : Pa) (H : Hp) : Nat → D → V → List Addr → Prop
  | 0, d, v, S => S = [] ∧ Rep K F H d v
  | k + 1, .lst ds, v, S => ∃ a vs S', v = .ref a ∧ H a = some (.lst vs) ∧ AllO (Own K F H k) ds vs S' ∧ S = a :: S'
  | _ + 1, .dic ks ds, v, S => ∃ a, v = .ref a ∧ S = [a] ∧ ((∃ xs : List (Key × V), H a = some (.dK xs) ∧ ks = xs.map (fun p => ofKey p.1) ∧ AllR (Rep K F H) ds (xs.map (·.2))) ∨
      (∃ xs : List (List Key × V), H a = some (.dT xs) ∧ ks = xs.map (fun p => D.tup (p.1.map ofKey)) ∧ AllR (Rep K F H) ds (xs.map (·.2))))
  | _ + 1, _, _, _ => False
theorem AllO.imp {p q : D → V → List Addr → Prop} : ∀ {ds : List D} {vs : List V} {S : List Addr}, AllO p ds vs S → (∀ d v S', (∀ a ∈ S', a ∈ S) → p d v S' → q d v S') → AllO q ds vs S
  | [], _, _, h, _ => h
  | d :: ds, vs, S, ⟨v, r, S1, S2, e, e2, h1, h2⟩, f => by
    subst e2
    exact ⟨v, r, S1, S2, e, rfl, f d v S1 (fun a h => List.mem_append_left _ h) h1, AllO.imp h2 fun d v S' hs => f d v S' fun a h => List.mem_append_right _ (hs a h)⟩
theorem AllO.all {p : D → V → List Addr → Prop} {q : D → V → Prop} : ∀ {ds : List D} {vs : List V} {S : List Addr}, AllO p ds vs S → (∀ d v S', (∀ a ∈ S', a ∈ S) → p d v S' → q d v) → AllR q ds vs
  | [], _, _, h, _ => h.1
  | d :: ds, vs, S, ⟨v, r, S1, S2, e, e2, h1, h2⟩, f => by
    subst e2
    exact ⟨v, r, e, f d v S1 (fun a h => List.mem_append_left _ h) h1, AllO.all h2 fun d v S' hs => f d v S' fun a h => List.mem_append_right _ (hs a h)⟩
theorem AllO.len {p : D → V → List Addr → Prop} : ∀ {ds : List D} {vs : List V} {S : List Addr}, AllO p ds vs S → vs.length = ds.length
  | [], _, _, h => by rw [h.1]; rfl
  | d :: ds, vs, S, ⟨v, r, S1, S2, e, e2, h1, h2⟩ => by rw [e, List.length_cons, List.length_cons, AllO.len h2]
theorem AllO.app {p : D → V → List Addr → Prop} : ∀ {ds ds' : List D} {vs vs' : List V} {S S' : List Addr}, AllO p ds vs S → AllO p ds' vs' S' → AllO p (ds ++ ds') (vs ++ vs') (S ++ S')
  | [], _, _, _, _, _, h, h' => by rw [h.1, h.2]; exact h'
  | d :: ds, ds', vs, vs', S, S', ⟨v, r, S1, S2, e, e2, h1, h2⟩, h' => ⟨v, r ++ vs', S1, S2 ++ S', by rw [e]; rfl, by rw [e2, List.append_assoc], h1, AllO.app h2 h'⟩
theorem AllO.one {p : D → V → List Addr → Prop} {d : D} {v : V} {S : List Addr} (h : p d v S) : AllO p [d] [v] S := ⟨v, [], S, [], rfl, (List.append_nil S).symm, h, rfl, rfl⟩
theorem AllO.of0 {p : D → V → List Addr → Prop} : ∀ {ds : List D} {vs : List V} {q : D → V → Prop}, AllR q ds vs → (∀ d v, q d v → p d v []) → AllO p ds vs []
  | [], _, _, h, _ => ⟨h, rfl⟩
  | d :: ds, vs, _, ⟨v, r, e, h1, h2⟩, f => ⟨v, r, [], [], e, rfl, f d v h1, AllO.of0 h2 f⟩
theorem Own.m : ∀ {k : Nat} {d : D} {v : V} {S : List Addr}, Own K P H k d v S → RepM K P H k d v
  | 0, d, v, S, h => h.2
  | k + 1, .bad, v, S, h => h.elim
  | k + 1, .non, v, S, h => h.elim
  | k + 1, .bl b, v, S, h => h.elim
  | k + 1, .int i, v, S, h => h.elim
  | k + 1, .str s, v, S, h => h.elim
  | k + 1, .scr s, v, S, h => h.elim
  | k + 1, .tup ds, v, S, h => h.elim
  | k + 1, .lst ds, v, S, ⟨a, vs, S', e, h, r, es⟩ => ⟨a, vs, e, h, r.all fun d v S' _ h => Own.m h⟩
  | k + 1, .dic ks ds, v, S, ⟨a, e, es, h⟩ => by
    refine ⟨a, e, ?_⟩
    have up : ∀ {d : D} {v : V}, Rep K P H d v → RepM K P H k d v := fun h => RepM.le (m := 0) h (Nat.zero_le _)
    rcases h with ⟨xs, h1, h2, h3⟩ | ⟨xs, h1, h2, h3⟩
    · exact .inl ⟨xs, .inl h1, h2, h3.imp fun d v _ h => up h⟩
    · exact .inr ⟨xs, .inl h1, h2, h3.imp fun d v _ h => up h⟩
/-- the heap changed where neither P nor S look -/
theorem Own.kept : ∀ {k : Nat} {d : D} {v : V} {S : List Addr}, Own K P H k d v S → Kept P P' H H' → (∀ a ∈ S, ∀ o, H a = some o → H' a = some o) → Own K P' H' k d v S
  | 0, d, v, S, h, k, f => ⟨h.1, Rep.kept k d v h.2⟩
  | k + 1, .bad, v, S, h, _, _ => h.elim
  | k + 1, .non, v, S, h, _, _ => h.elim
  | k + 1, .bl b, v, S, h, _, _ => h.elim
  | k + 1, .int i, v, S, h, _, _ => h.elim
  | k + 1, .str s, v, S, h, _, _ => h.elim
  | k + 1, .scr s, v, S, h, _, _ => h.elim
  | k + 1, .tup ds, v, S, h, _, _ => h.elim
  | k + 1, .lst ds, v, S, ⟨a, vs, S', e, h, r, es⟩, q, f => by
    subst es
    exact ⟨a, vs, S', e, f a (.head _) _ h, r.imp fun d v S'' hs h => Own.kept h q fun a ha => f a (.tail _ (hs a ha)), rfl⟩
  | k + 1, .dic ks ds, v, S, ⟨a, e, es, h⟩, q, f => by
    subst es
    refine ⟨a, e, rfl, ?_⟩
    rcases h with ⟨xs, h1, h2, h3⟩ | ⟨xs, h1, h2, h3⟩
    · exact .inl ⟨xs, f a (.head _) _ h1, h2, h3.imp fun d v _ h => Rep.kept q d v h⟩
    · exact .inr ⟨xs, f a (.head _) _ h1, h2, h3.imp fun d v _ h => Rep.kept q d v h⟩
theorem Own.mono {k : Nat} {d : D} {v : V} {S : List Addr} (h : Own K P H k d v S) (e : Same H H') (p : ∀ a, P a → P' a) : Own K P' H' k d v S := h.kept (.of e p) fun a _ o => e a o
/-- owned things stand -/
theorem Own.there : ∀ {k : Nat} {d : D} {v : V} {S : List Addr}, Own K P H k d v S → ∀ a ∈ S, (H a).isSome = true
  | 0, d, v, S, h, a, ha => by rw [h.1] at ha; cases ha
  | k + 1, .bad, v, S, h, _, _ => h.elim
  | k + 1, .non, v, S, h, _, _ => h.elim
  | k + 1, .bl b, v, S, h, _, _ => h.elim
  | k + 1, .int i, v, S, h, _, _ => h.elim
  | k + 1, .str s, v, S, h, _, _ => h.elim
  | k + 1, .scr s, v, S, h, _, _ => h.elim
  | k + 1, .tup ds, v, S, h, _, _ => h.elim
  | k + 1, .lst ds, v, S, ⟨a, vs, S', e, h, r, es⟩, b, hb => by
    subst es
    rcases List.mem_cons.mp hb with rfl | hb
    · rw [h]; rfl
    · have go : ∀ {ds : List D} {vs : List V} {S : List Addr}, AllO (Own K P H k) ds vs S → b ∈ S → (H b).isSome = true := by
        intro ds
        induction ds with
        | nil => intro vs S h hb; rw [h.2] at hb; cases hb
        | cons d ds ih =>
          rintro vs S ⟨v, r, S1, S2, e, e2, h1, h2⟩ hb
          subst e2
          rcases List.mem_append.mp hb with hb | hb
          · exact Own.there h1 b hb
          · exact ih h2 hb
      exact go r hb
  | k + 1, .dic ks ds, v, S, ⟨a, e, es, h⟩, b, hb => by
    subst es
    have hb : b = a := by simpa using hb
    subst hb
    rcases h with ⟨xs, h1, _⟩ | ⟨xs, h1, _⟩ <;> (rw [h1]; rfl)
/-- letting go: what was owned is allowed from now on -/
theorem Own.freeze {Q : Pa} : ∀ {k : Nat} {d : D} {v : V} {S : List Addr}, Own K P H k d v S → (∀ a, P a → Q a) → (∀ a ∈ S, Q a) → Rep K Q H d v
  | 0, d, v, S, h, p, _ => h.2.mono (Same.refl H) p
  | k + 1, .bad, v, S, h, _, _ => h.elim
  | k + 1, .non, v, S, h, _, _ => h.elim
  | k + 1, .bl b, v, S, h, _, _ => h.elim
  | k + 1, .int i, v, S, h, _, _ => h.elim
  | k + 1, .str s, v, S, h, _, _ => h.elim
  | k + 1, .scr s, v, S, h, _, _ => h.elim
  | k + 1, .tup ds, v, S, h, _, _ => h.elim
  | k + 1, .lst ds, v, S, ⟨a, vs, S', e, h, r, es⟩, p, f => by
    subst es
    unfold Rep
    exact ⟨a, vs, e, ⟨h, f a (.head _)⟩, reps_iff.mpr (r.all fun d v S'' hs h => Own.freeze h p fun a ha => f a (.tail _ (hs a ha)))⟩
  | k + 1, .dic ks ds, v, S, ⟨a, e, es, h⟩, p, f => by
    subst es
    unfold Rep
    refine ⟨a, e, f a (.head _), ?_⟩
    rcases h with ⟨xs, h1, h2, h3⟩ | ⟨xs, h1, h2, h3⟩
    · exact .inl ⟨xs, .inl h1, h2, reps_iff.mpr (h3.imp fun d v _ h => h.mono (Same.refl H) p)⟩
    · exact .inr ⟨xs, .inl h1, h2, reps_iff.mpr (h3.imp fun d v _ h => h.mono (Same.refl H) p)⟩
theorem Rep.good {d : D} {v : V} (h : Rep K P H d v) : d ≠ .bad := by
  rintro rfl
  unfold Rep at h
  exact h
theorem RepM.good {m : Nat} {d : D} {v : V} (h : RepM K P H m d v) : d ≠ .bad := Rep.good h.any
theorem Own.good {k : Nat} {d : D} {v : V} {S : List Addr} (h : Own K P H k d v S) : d ≠ .bad := RepM.good h.m
end
end Ev

namespace Ev
open PySem PySem.Spec PyProof.Rows L2

/-! ### states -/
structure Ext (F : Pa) (H : Hp) (F' : Pa) (H' : Hp) : Prop where
  same : Same H H'
  up : ∀ a, F a → F' a
  new : ∀ a, F' a → F a ∨ H a = none
  fo : ∀ a, F' a → (H' a).isSome = true
theorem Ext.trans {F F1 F2 : Pa} {H H1 H2 : Hp} (a : Ext F H F1 H1) (b : Ext F1 H1 F2 H2) : Ext F H F2 H2 :=
  ⟨a.same.trans b.same, fun x h => b.up x (a.up x h), fun x h => by
    rcases b.new x h with h | h
    · exact a.new x h
    · exact .inr (a.same.free h), b.fo⟩
theorem Ext.refl {F : Pa} {H : Hp} (h : ∀ a, F a → (H a).isSome = true) : Ext F H F H := ⟨Same.refl H, fun _ h => h, fun _ h => .inl h, h⟩
theorem same_upd {H : Hp} {p : Addr} {o : HO} (h : H p = none) : Same H (upd H p o) := fun b x e => by
  rw [upd_ne (ne_of_none e h)]
  exact e
/-- a new object, owned -/
theorem Ext.laid {F : Pa} {H : Hp} {p : Addr} {o : HO} (fo : ∀ a, F a → (H a).isSome = true) (h : H p = none) : Ext F H F (upd H p o) :=
  ⟨same_upd h, fun _ h => h, fun _ h => .inl h, fun a q => by
    have := fo a q
    by_cases e : a = p
    · subst e; rw [h] at this; cases this
    · rw [upd_ne e]; exact this⟩
/-- a new object, allowed -/
theorem Ext.laidF {F : Pa} {H : Hp} {p : Addr} {o : HO} (fo : ∀ a, F a → (H a).isSome = true) (h : H p = none) : Ext F H (fun a => F a ∨ a = p) (upd H p o) :=
  ⟨same_upd h, fun _ h => .inl h, fun a q => by
    rcases q with q | q
    · exact .inl q
    · exact .inr (q ▸ h), fun a q => by
    by_cases e : a = p
    · subst e; rw [upd_same]; rfl
    · rw [upd_ne e]
      rcases q with q | q
      · exact fo a q
      · exact absurd q e⟩

def Slot (K : PySem.W.Frag) (F : Pa) (H : Hp) (k : Nat) (d : D) (o : Option V) (S : List Addr) : Prop := (d = .bad ∧ S = []) ∨ ∃ v, o = some v ∧ Own K F H k d v S
def Slots (K : PySem.W.Frag) (F : Pa) (H : Hp) : List Nat → List D → L2.St → List Addr → Prop
  | [], ρ, σ, S => ρ = [] ∧ σ = [] ∧ S = []
  | k :: φ, ρ, σ, S => ∃ d ρ' o σ' S1 S2, ρ = d :: ρ' ∧ σ = o :: σ' ∧ S = S1 ++ S2 ∧ Slot K F H k d o S1 ∧ Slots K F H φ ρ' σ' S2
structure Sta (K : PySem.W.Frag) (φ : List Nat) (ρ : List D) (σ : L2.St) (H : Hp) (F : Pa) (S : List Addr) : Prop where
  sl : Slots K F H φ ρ σ S
  fo : ∀ a, F a → (H a).isSome = true
  nf : ∀ a ∈ S, ¬ F a
  nd : S.Nodup
section
variable {K : PySem.W.Frag} {F F' : Pa} {H H' : Hp} {φ : List Nat} {ρ : List D} {σ : L2.St} {S : List Addr}
theorem Slot.there {k : Nat} {d : D} {o : Option V} (h : Slot K F H k d o S) : ∀ a ∈ S, (H a).isSome = true := by
  rcases h with ⟨_, h⟩ | ⟨v, _, h⟩
  · intro a ha; rw [h] at ha; cases ha
  · exact h.there
theorem Slot.kept {k : Nat} {d : D} {o : Option V} (h : Slot K F H k d o S) (q : Kept F F' H H') (f : ∀ a ∈ S, ∀ o, H a = some o → H' a = some o) : Slot K F' H' k d o S := by
  rcases h with h | ⟨v, e, h⟩
  · exact .inl h
  · exact .inr ⟨v, e, h.kept q f⟩
theorem Slots.there : ∀ {φ : List Nat} {ρ : List D} {σ : L2.St} {S : List Addr}, Slots K F H φ ρ σ S → ∀ a ∈ S, (H a).isSome = true
  | [], _, _, _, h, a, ha => by rw [h.2.2] at ha; cases ha
  | k :: φ, _, _, _, ⟨d, ρ', o, σ', S1, S2, _, _, e, h1, h2⟩, a, ha => by
    rw [e] at ha
    rcases List.mem_append.mp ha with ha | ha
    · exact h1.there a ha
    · exact Slots.there h2 a ha
theorem Slots.kept : ∀ {φ : List Nat} {ρ : List D} {σ : L2.St} {S : List Addr}, Slots K F H φ ρ σ S → Kept F F' H H' → (∀ a ∈ S, ∀ o, H a = some o → H' a = some o) → Slots K F' H' φ ρ σ S
  | [], _, _, _, h, _, _ => h
  | k :: φ, _, _, _, ⟨d, ρ', o, σ', S1, S2, e1, e2, e, h1, h2⟩, q, f => by
    subst e
    exact ⟨d, ρ', o, σ', S1, S2, e1, e2, rfl, h1.kept q fun a ha => f a (List.mem_append_left _ ha), Slots.kept h2 q fun a ha => f a (List.mem_append_right _ ha)⟩
theorem Slots.len : ∀ {φ : List Nat} {ρ : List D} {σ : L2.St} {S : List Addr}, Slots K F H φ ρ σ S → ρ.length = φ.length ∧ σ.length = φ.length
  | [], _, _, _, h => by rw [h.1, h.2.1]; exact ⟨rfl, rfl⟩
  | k :: φ, _, _, _, ⟨d, ρ', o, σ', S1, S2, e1, e2, e, h1, h2⟩ => by
    subst e1 e2
    have := Slots.len h2
    simp [this.1, this.2]
theorem Slots.nil_of (h : Slots K F H φ ρ σ S) : True := trivial
/-- one slot apart: and put back changed -/
theorem Slots.split : ∀ {φ : List Nat} {ρ : List D} {σ : L2.St} {S : List Addr} {i k : Nat}, Slots K F H φ ρ σ S → φ[i]? = some k →
    ∃ d o Sa Sb Sc, ρ[i]? = some d ∧ σ[i]? = some o ∧ S = Sa ++ (Sb ++ Sc) ∧ Slot K F H k d o Sb ∧
      ∀ (F' : Pa) (H' : Hp) (k' : Nat) (d' : D) (o' : Option V) (Sb' : List Addr), Kept F F' H H' → (∀ a ∈ Sa ++ Sc, ∀ o, H a = some o → H' a = some o) → Slot K F' H' k' d' o' Sb' →
        Slots K F' H' (φ.set i k') (ρ.set i d') (σ.set i o') (Sa ++ (Sb' ++ Sc))
  | [], _, _, _, i, k, h, e => by simp at e
  | k0 :: φ, _, _, _, 0, k, ⟨d, ρ', o, σ', S1, S2, e1, e2, e3, h1, h2⟩, e => by
    subst e1 e2 e3
    simp only [List.getElem?_cons_zero, Option.some.injEq] at e
    subst e
    refine ⟨d, o, [], S1, S2, rfl, rfl, rfl, h1, fun F' H' k' d' o' Sb' q f hs => ?_⟩
    exact ⟨d', ρ', o', σ', Sb', S2, rfl, rfl, rfl, hs, h2.kept q fun a ha => f a (by simpa using ha)⟩
  | k0 :: φ, _, _, _, i + 1, k, ⟨d0, ρ', o0, σ', S1, S2, e1, e2, e3, h1, h2⟩, e => by
    subst e1 e2 e3
    rw [List.getElem?_cons_succ] at e
    obtain ⟨d, o, Sa, Sb, Sc, g1, g2, g3, g4, g5⟩ := Slots.split h2 e
    subst g3
    refine ⟨d, o, S1 ++ Sa, Sb, Sc, g1, g2, by simp, g4, fun F' H' k' d' o' Sb' q f hs => ?_⟩
    refine ⟨d0, ρ'.set i d', o0, σ'.set i o', S1, Sa ++ (Sb' ++ Sc), rfl, rfl, by simp, h1.kept q fun a ha => f a (by simp [ha]), g5 F' H' k' d' o' Sb' q (fun a ha => f a ?_) hs⟩
    rcases List.mem_append.mp ha with ha | ha <;> simp [ha]
theorem Sta.ext (s : Sta K φ ρ σ H F S) (e : Ext F H F' H') : Sta K φ ρ σ H' F' S :=
  ⟨s.sl.kept (.of e.same e.up) fun a _ o h => e.same a o h, e.fo, (fun a ha h => (e.new a h).elim (s.nf a ha) fun h => by
      have := s.sl.there a ha
      rw [h] at this
      cases this), s.nd⟩
theorem Sta.get {i k : Nat} {d : D} (s : Sta K φ ρ σ H F S) (hk : φ[i]? = some k) (hd : ρ[i]? = some d) (hb : d ≠ .bad) : ∃ v S1, σ[i]? = some (some v) ∧ Own K F H k d v S1 ∧ (∀ a ∈ S1, a ∈ S) := by
  obtain ⟨d', o, Sa, Sb, Sc, g1, g2, g3, g4, _⟩ := s.sl.split hk
  rw [hd] at g1
  cases g1
  rcases g4 with ⟨e, _⟩ | ⟨v, e, h⟩
  · exact absurd e hb
  · refine ⟨v, Sb, by rw [g2, e], h, fun a ha => by rw [g3]; simp [ha]⟩
theorem nodup_repl {Sa Sb Sc Sn : List Addr} (h : (Sa ++ (Sb ++ Sc)).Nodup) (hn : Sn.Nodup) (hd : ∀ a ∈ Sn, a ∉ Sa ∧ a ∉ Sc) : (Sa ++ (Sn ++ Sc)).Nodup := by
  rw [List.nodup_append] at h ⊢
  obtain ⟨h1, h2, h3⟩ := h
  rw [List.nodup_append] at h2
  obtain ⟨h4, h5, h6⟩ := h2
  refine ⟨h1, ?_, fun a ha b hb => ?_⟩
  · rw [List.nodup_append]
    exact ⟨hn, h5, fun a ha b hb e => (hd a ha).2 (e ▸ hb)⟩
  · rcases List.mem_append.mp hb with hb | hb
    · exact fun e => (hd b hb).1 (e ▸ ha)
    · exact h3 a ha b (List.mem_append_right _ hb)
/-- a slot takes a new value -/
theorem Sta.set {i k : Nat} {d : D} {v : V} {Sn : List Addr} (s : Sta K φ ρ σ H F S) (hi : i < φ.length) (ho : Own K F H k d v Sn) (hn : Sn.Nodup) (hd : ∀ a ∈ Sn, a ∉ S ∧ ¬ F a) :
    ∃ S', Sta K (φ.set i k) (ρ.set i d) (σ.set i (some v)) H F S' ∧ ∀ a ∈ S', a ∈ S ∨ a ∈ Sn := by
  obtain ⟨d', o, Sa, Sb, Sc, g1, g2, g3, g4, g5⟩ := s.sl.split (List.getElem?_eq_getElem hi)
  subst g3
  refine ⟨Sa ++ (Sn ++ Sc), ⟨g5 F H k d (some v) Sn (.of (Same.refl H) fun _ h => h) (fun _ _ _ h => h) (.inr ⟨v, rfl, ho⟩), s.fo, fun a ha => ?_, ?_⟩, fun a ha => ?_⟩
  · simp only [List.mem_append] at ha
    rcases ha with ha | ha | ha
    · exact s.nf a (by simp [ha])
    · exact (hd a ha).2
    · exact s.nf a (by simp [ha])
  · refine nodup_repl s.nd hn fun a ha => ?_
    have := (hd a ha).1
    simp only [List.mem_append, not_or] at this
    exact ⟨this.1, this.2.2⟩
  · simp only [List.mem_append] at ha ⊢
    rcases ha with ha | ha | ha
    · exact .inl (.inl ha)
    · exact .inr ha
    · exact .inl (.inr (.inr ha))
/-- a slot is forgotten -/
theorem Sta.forget {i : Nat} (s : Sta K φ ρ σ H F S) (hi : i < φ.length) : ∃ S', Sta K (φ.set i 0) (ρ.set i .bad) σ H F S' ∧ ∀ a ∈ S', a ∈ S := by
  obtain ⟨d', o, Sa, Sb, Sc, g1, g2, g3, g4, g5⟩ := s.sl.split (List.getElem?_eq_getElem hi)
  subst g3
  have q := g5 F H 0 .bad o [] (.of (Same.refl H) fun _ h => h) (fun _ _ _ h => h) (.inl ⟨rfl, rfl⟩)
  have e : σ.set i o = σ := by
    apply List.ext_getElem?
    intro j
    by_cases hj : i = j
    · subst hj
      have hl : i < σ.length := (List.getElem?_eq_some_iff.mp g2).1
      rw [List.getElem?_set_self hl, g2]
    · rw [List.getElem?_set_ne hj]
  rw [e] at q
  refine ⟨_, ⟨q, s.fo, fun a ha => s.nf a ?_, nodup_repl s.nd List.nodup_nil (by simp)⟩, fun a ha => ?_⟩
  · simp only [List.mem_append, List.not_mem_nil, false_or] at ha ⊢
    rcases ha with ha | ha <;> simp [ha]
  · simp only [List.mem_append, List.not_mem_nil, false_or] at ha ⊢
    rcases ha with ha | ha <;> simp [ha]
/-- a slot's things are let go -/
theorem Sta.freeze {i : Nat} (s : Sta K φ ρ σ H F S) (hi : i < φ.length) : ∃ F' S', Sta K (φ.set i 0) ρ σ H F' S' ∧ (∀ a, F a → F' a) ∧ (∀ a, F' a → F a ∨ a ∈ S) ∧ ∀ a ∈ S', a ∈ S := by
  obtain ⟨d', o, Sa, Sb, Sc, g1, g2, g3, g4, g5⟩ := s.sl.split (List.getElem?_eq_getElem hi)
  subst g3
  have hs : Slot K (fun a => F a ∨ a ∈ Sb) H 0 d' o [] := by
    rcases g4 with h | ⟨v, e, h⟩
    · exact .inl ⟨h.1, rfl⟩
    · exact .inr ⟨v, e, rfl, h.freeze (fun a h => .inl h) fun a h => .inr h⟩
  have q := g5 (fun a => F a ∨ a ∈ Sb) H 0 d' o [] (.of (Same.refl H) fun _ h => .inl h) (fun _ _ _ h => h) hs
  have same : ∀ {α : Type} {l : List α} {x : α}, l[i]? = some x → l.set i x = l := by
    intro α l x g
    apply List.ext_getElem?
    intro j
    by_cases hj : i = j
    · subst hj
      have hl : i < l.length := (List.getElem?_eq_some_iff.mp g).1
      rw [List.getElem?_set_self hl, g]
    · rw [List.getElem?_set_ne hj]
  rw [same g1, same g2] at q
  have nd := s.nd
  rw [List.nodup_append] at nd
  have nd2 := nd.2.1
  rw [List.nodup_append] at nd2
  refine ⟨_, _, ⟨q, fun a ha => ?_, fun a ha => ?_, nodup_repl s.nd List.nodup_nil (by simp)⟩, fun a h => .inl h, fun a h => ?_, fun a ha => ?_⟩
  · rcases ha with ha | ha
    · exact s.fo a ha
    · exact s.sl.there a (by simp [ha])
  · simp only [List.mem_append, List.not_mem_nil, false_or] at ha
    rintro (h | h)
    · exact s.nf a (by rcases ha with ha | ha <;> simp [ha]) h
    · rcases ha with ha | ha
      · exact nd.2.2 a ha a (by simp [h]) rfl
      · exact nd2.2.2 a h a ha rfl
  · rcases h with h | h
    · exact .inl h
    · exact .inr (by simp [h])
  · simp only [List.mem_append, List.not_mem_nil, false_or] at ha ⊢
    rcases ha with ha | ha <;> simp [ha]
/-- the object of a slot is changed at an owned place -/
theorem Sta.mut {i k : Nat} {d d' : D} {v : V} {p : Addr} {o : HO} (s : Sta K φ ρ σ H F S) (hk : φ[i]? = some k) (hd : ρ[i]? = some d) (hb : d ≠ .bad)
    (h : ∀ v Sb, σ[i]? = some (some v) → Own K F H k d v Sb → p ∈ Sb ∧ (∀ H', H' = upd H p o → Kept F F H H' → (∀ a ∈ Sb, a ≠ p → H' a = H a) → Sb.Nodup → Own K F H' k d' v Sb)) :
    Sta K φ (ρ.set i d') σ (upd H p o) F S := by
  obtain ⟨d0, o0, Sa, Sb, Sc, g1, g2, g3, g4, g5⟩ := s.sl.split hk
  subst g3
  rw [hd] at g1
  cases g1
  rcases g4 with ⟨e, _⟩ | ⟨v, e, hO⟩
  · exact absurd e hb
  · subst e
    obtain ⟨hp, hn⟩ := h v Sb g2 hO
    have nfp : ¬ F p := s.nf p (by simp [hp])
    have kp : Kept F F H (upd H p o) := ⟨fun a ha u q => by rw [upd_ne (show a ≠ p from fun e => nfp (by rw [← e]; exact ha))]; exact q, fun _ h => h⟩
    have nd := s.nd
    rw [List.nodup_append] at nd
    have nd2 := nd.2.1
    rw [List.nodup_append] at nd2
    have q := g5 F (upd H p o) k d' (some v) Sb kp (fun a ha u q => by
      rw [upd_ne ?_]; exact q
      rintro rfl
      rcases List.mem_append.mp ha with ha | ha
      · exact nd.2.2 a ha a (by simp [hp]) rfl
      · exact nd2.2.2 a hp a ha rfl) (.inr ⟨v, rfl, hn _ rfl kp (fun a _ hne => upd_ne hne) nd2.1⟩)
    have e1 : φ.set i k = φ := by
      apply List.ext_getElem?
      intro j
      by_cases hj : i = j
      · subst hj
        have hl : i < φ.length := (List.getElem?_eq_some_iff.mp hk).1
        rw [List.getElem?_set_self hl, hk]
      · rw [List.getElem?_set_ne hj]
    have e2 : σ.set i (some v) = σ := by
      apply List.ext_getElem?
      intro j
      by_cases hj : i = j
      · subst hj
        have hl : i < σ.length := (List.getElem?_eq_some_iff.mp g2).1
        rw [List.getElem?_set_self hl, g2]
      · rw [List.getElem?_set_ne hj]
    rw [e1, e2] at q
    exact ⟨q, fun a ha => by rw [upd_ne (show a ≠ p from fun e => nfp (by rw [← e]; exact ha))]; exact s.fo a ha, s.nf, s.nd⟩
end

/-! ### what an expression hands on -/
inductive Res where
  | own (k : Nat) | md (m : Nat) | bor
  deriving DecidableEq, Inhabited
def Res.ok (r : Res) (K : PySem.W.Frag) (H : Hp) (F' : Pa) (H' : Hp) (d : D) (v : V) : Prop :=
  match r with
  | .own k => ∃ S, Own K F' H' k d v S ∧ S.Nodup ∧ ∀ a ∈ S, H a = none ∧ ¬ F' a
  | .md m => RepM K F' H' m d v
  | .bor => Rep K Any H' d v
def Res.le : Res → Res → Bool
  | .own k, .own j => k == j || j == 0
  | .own _, _ => true
  | .md 0, .own 0 => true
  | .md m, .md n => decide (m ≤ n)
  | .md _, .bor => true
  | .bor, .bor => true
  | _, _ => false
section
variable {K : PySem.W.Frag} {F F' : Pa} {H H' : Hp} {d : D} {v : V}
theorem Res.any {r : Res} (h : r.ok K H F' H' d v) : Rep K Any H' d v := by
  cases r with
  | own k => obtain ⟨S, h, _⟩ := h; exact h.m.any
  | md m => exact RepM.any h
  | bor => exact h
theorem Res.frz {k : Nat} (e : Ext F H F' H') (h : (Res.own k).ok K H F' H' d v) : ∃ F2, Ext F H F2 H' ∧ (∀ a, F' a → F2 a) ∧ Rep K F2 H' d v := by
  obtain ⟨S, h, nd, hS⟩ := h
  refine ⟨fun a => F' a ∨ a ∈ S, ⟨e.same, fun a h => .inl (e.up a h), fun a q => ?_, fun a q => ?_⟩, fun a h => .inl h, h.freeze (fun a h => .inl h) fun a h => .inr h⟩
  · rcases q with q | q
    · exact e.new a q
    · exact .inr (hS a q).1
  · rcases q with q | q
    · exact e.fo a q
    · exact h.there a q
theorem Res.weak {r r' : Res} (hl : r.le r' = true) (e : Ext F H F' H') (h : r.ok K H F' H' d v) : ∃ F2, Ext F H F2 H' ∧ (∀ a, F' a → F2 a) ∧ r'.ok K H F2 H' d v := by
  have stay : r'.ok K H F' H' d v → ∃ F2, Ext F H F2 H' ∧ (∀ a, F' a → F2 a) ∧ r'.ok K H F2 H' d v := fun q => ⟨F', e, fun _ h => h, q⟩
  have own0 : ∀ {F2 : Pa}, Rep K F2 H' d v → (Res.own 0).ok K H F2 H' d v := fun q => ⟨[], ⟨rfl, q⟩, List.nodup_nil, fun _ h => nomatch h⟩
  cases r with
  | own k =>
    cases r' with
    | own j =>
      simp only [Res.le, Bool.or_eq_true, beq_iff_eq] at hl
      rcases hl with rfl | rfl
      · exact stay h
      · obtain ⟨F2, e2, u, q⟩ := Res.frz e h
        exact ⟨F2, e2, u, own0 q⟩
    | md m =>
      obtain ⟨F2, e2, u, q⟩ := Res.frz e h
      exact ⟨F2, e2, u, RepM.le (m := 0) q (Nat.zero_le _)⟩
    | bor => exact stay (Res.any h)
  | md m =>
    cases r' with
    | own j =>
      cases m with
      | zero =>
        cases j with
        | zero => exact stay (own0 h)
        | succ j => cases hl
      | succ m => cases hl
    | md n => exact stay (RepM.le h (of_decide_eq_true (by cases m <;> exact hl)))
    | bor => exact stay (Res.any h)
  | bor =>
    cases r' with
    | own j => cases hl
    | md n => cases hl
    | bor => exact stay h
theorem Res.mono {r : Res} {F2 : Pa} {H2 : Hp} (h : r.ok K H F' H' d v) (e : Ext F' H' F2 H2) : r.ok K H F2 H2 d v := by
  cases r with
  | own k =>
    obtain ⟨S, h, nd, hS⟩ := h
    refine ⟨S, h.mono e.same e.up, nd, fun a ha => ⟨(hS a ha).1, fun q => ?_⟩⟩
    rcases e.new a q with q | q
    · exact (hS a ha).2 q
    · have := h.there a ha
      rw [q] at this
      cases this
  | md m => exact RepM.mono h e.same e.up
  | bor => exact Rep.mono h e.same fun _ h => h
theorem Res.good {r : Res} (h : r.ok K H F' H' d v) : d ≠ .bad := Rep.good (Res.any h)
theorem Res.lift {r : Res} {H0 : Hp} (h : r.ok K H F' H' d v) (s : Same H0 H) : r.ok K H0 F' H' d v := by
  cases r with
  | own k =>
    obtain ⟨S, h, nd, hS⟩ := h
    exact ⟨S, h, nd, fun a ha => ⟨s.free (hS a ha).1, (hS a ha).2⟩⟩
  | md m => exact h
  | bor => exact h
end

/-! ### readings over data -/
abbrev Sem1 := List D → Option D
def RdE (K : PySem.W.Frag) (φ : List Nat) (r : Res) (f : Sem1) : TE := fun σ H Q => ∃ ρ F S, Sta K φ ρ σ H F S ∧ ∃ d, f ρ = some d ∧ ∀ v H' F', Ext F H F' H' → r.ok K H F' H' d v → Q v H'
def RdT (K : PySem.W.Frag) (φ : List Nat) (f : List D → Option Bool) : TT := fun σ H Q => ∃ ρ F S, Sta K φ ρ σ H F S ∧ ∃ b, f ρ = some b ∧ ∀ H' F', Ext F H F' H' → Q b H'
/-- several, from the left -/
def Oks (r : Res) (K : PySem.W.Frag) (H : Hp) (F' : Pa) (H' : Hp) (ds : List D) (vs : List V) : Prop :=
  match r with
  | .own k => ∃ S, AllO (Own K F' H' k) ds vs S ∧ S.Nodup ∧ ∀ a ∈ S, H a = none ∧ ¬ F' a
  | r => AllR (r.ok K H F' H') ds vs
def RdA (K : PySem.W.Frag) (φ : List Nat) (r : Res) (f : List D → Option (List D)) : TA := fun σ H Q => ∃ ρ F S, Sta K φ ρ σ H F S ∧ ∃ ds, f ρ = some ds ∧ ∀ vs H' F', Ext F H F' H' → Oks r K H F' H' ds vs → Q vs H'

section
variable {X : Cx} {e : Expr} {es : List Expr} {K : PySem.W.Frag} {φ : List Nat}
theorem peI {t t' : TE} (h : PE X e t) (f : ∀ σ H Q, t' σ H Q → t σ H Q) : PE X e t' := ⟨fun pins s σ H Q I hw => h.run pins s σ H Q I (f σ H Q hw)⟩
theorem ptI {t t' : TT} (h : PT X e t) (f : ∀ σ H Q, t' σ H Q → t σ H Q) : PT X e t' := ⟨fun pins s σ H Q I hw => h.run pins s σ H Q I (f σ H Q hw)⟩
theorem pwI {t t' : TT} (h : PW X e t) (f : ∀ σ H Q, t' σ H Q → t σ H Q) : PW X e t' := ⟨fun wh pins s σ H Q I hw => h.run wh pins s σ H Q I (f σ H Q hw)⟩
theorem paI {t t' : TA} (h : PA X es t) (f : ∀ σ H Q, t' σ H Q → t σ H Q) : PA X es t' := ⟨fun pos pins s σ H Q I hw => h.run pos pins s σ H Q I (f σ H Q hw)⟩
theorem RdE.weak {r r' : Res} {f : Sem1} (hl : r.le r' = true) {σ : L2.St} {H : Hp} {Q : VK} (h : RdE K φ r' f σ H Q) : RdE K φ r f σ H Q := by
  obtain ⟨ρ, F, S, st, d, e, q⟩ := h
  refine ⟨ρ, F, S, st, d, e, fun v H' F' x hr => ?_⟩
  obtain ⟨F2, e2, _, h2⟩ := Res.weak hl x hr
  exact q v H' F2 e2 h2
theorem peW {r r' : Res} {f : Sem1} (h : PE X e (RdE K φ r f)) (hl : r.le r' = true) : PE X e (RdE K φ r' f) := peI h fun _ _ _ => RdE.weak hl
end
end Ev

/-! A small language of plain expressions and its plain meaning. -/
namespace Ev
open PySem PySem.Spec PyProof.Rows L2

inductive Bop where
  | add | sub | mul | fdiv | mod | pow | catL (k : Nat) | catT | repL | repT
  deriving DecidableEq
inductive Cop where
  | eq | ne | lt | le | gt | ge | mem | nmem
  deriving DecidableEq
inductive BI where
  | len | sum | any | all | abs | int | min | max | minG | maxG | tuple | tupleL | list | sorted
  deriving DecidableEq
inductive Ty where
  | int | bool | tuple | str | list
  deriving DecidableEq
/-- targets -/
inductive Tgt where
  | nm (i : Nat)
  | two (a b : Tgt)
  | three (a b c : Tgt)
  | four (a b c d : Tgt)
mutual
inductive CE where
  | int (i : Int) | bl (b : Bool) | non | str (s : Str)
  | var (i : Nat)
  | tup (es : CEs) | lst (k : Nat) (es : CEs)
  | bin (op : Bop) (a b : CE)
  | neg (a : CE)
  | cmp (op : Cop) (a b : CE)
  | chn (op op' : Cop) (a b c : CE)
  | isN (a : CE) | noN (a : CE)
  | and (a b : CE) | or (a b : CE) | not (a : CE)
  | ifx (c a b : CE)
  | idx (a i : CE)
  | slc (t : Bool) (a : CE) (lo hi : CO)
  | rev (a : CE)
  | call (j : Nat) (es : CEs)
  | bi (f : BI) (es : CEs)
  | isi (t : Ty) (a : CE)
  | rvq (t : Bool) (a : CE)
  | lzp (a b : CE)
  | sst (a : CE)
  | rgs1 (t : Bool) (a : CE)
  | rgs2 (t : Bool) (a b : CE)
  | lc (k : Nat) (elt : CE) (own : List (Str × Nat)) (tg : Tgt) (it : CI) (c : CO)
  | lc2 (k : Nat) (elt : CE) (own : List (Str × Nat)) (tg : Tgt) (it : CI) (c : CO) (tg1 : Tgt) (it1 : CI) (c1 : CO)
inductive CEs where
  | nil | cons (e : CE) (es : CEs)
inductive CO where
  | no | yes (e : CE)
inductive CI where
  | ex (a : CE) | rg (es : CEs) | zip (a b : CE) | enm (a : CE) | rvs (a : CE)
end

/-! ### meanings -/
def D.isBad : D → Bool
  | .bad => true
  | _ => false
def D.isNon : D → Bool
  | .non => true
  | _ => false
def D.ok : D → Option D
  | .bad => none
  | d => some d
def getV (ρ : List D) (i : Nat) : Option D := (ρ.getD i .bad).ok
abbrev SL : Nat := 16777216
def mulOk (i j : Int) : Bool := decide (i.natAbs < 2 ^ 64) || decide (j.natAbs < 2 ^ 64) || decide (i.natAbs.log2 + j.natAbs.log2 < 1000000)
def divOk (j : Int) : Bool := decide (j ≠ 0) && decide (j.natAbs.log2 < 9000)
def powOk (i j : Int) : Bool := decide (0 ≤ j) && decide (j ≤ 1000000) && decide (i.natAbs < 2 ^ 64)
def repD {α : Type} (xs : List α) (k : Int) : Option (List α) := if -(2 ^ 63) ≤ k ∧ k < 2 ^ 63 ∧ xs.length * k.toNat ≤ SL then some (List.replicate k.toNat xs).flatten else none
def repTD {α : Type} (xs : List α) (k : Int) : Option (List α) := if xs ≠ [] ∧ 1 ≤ k ∧ k ≤ 1000 ∧ xs.length ≤ 1000 then some (List.replicate k.toNat xs).flatten else none
def catD {α : Type} (xs ys : List α) : Option (List α) := if xs.length + ys.length ≤ SL then some (xs ++ ys) else none
def binD : Bop → D → D → Option D
  | .add, .int i, .int j => some (.int (i + j))
  | .catL _, .lst xs, .lst ys => (catD xs ys).map .lst
  | .catT, .tup xs, .tup ys => (catD xs ys).map .tup
  | .sub, .int i, .int j => some (.int (i - j))
  | .mul, .int i, .int j => if mulOk i j then some (.int (i * j)) else none
  | .repL, .lst xs, .int k => (repD xs k).map .lst
  | .repT, .tup xs, .int k => (repTD xs k).map .tup
  | .fdiv, .int i, .int j => if divOk j then some (.int (i.fdiv j)) else none
  | .mod, .int i, .int j => if j ≠ 0 then some (.int (i.fmod j)) else none
  | .pow, .int i, .int j => if powOk i j then some (.int (i ^ j.toNat)) else none
  | _, _, _ => none
mutual
def toP : D → PyData
  | .bad => .none
  | .non => .none
  | .bl b => .bool b
  | .int i => .int i
  | .str s => .str s
  | .scr _ => .none
  | .tup xs => .tuple (toPs xs)
  | .lst xs => .list (toPs xs)
  | .dic _ _ => .none
termination_by structural d => d
def toPs : List D → List PyData
  | [] => []
  | x :: xs => toP x :: toPs xs
termination_by structural d => d
end
mutual
/-- the same datum -/
def D.beq : D → D → Bool
  | .bad, .bad => true
  | .non, .non => true
  | .bl a, .bl b => a == b
  | .int a, .int b => a == b
  | .str a, .str b => a == b
  | .scr a, .scr b => D.beqs a b
  | .tup a, .tup b => D.beqs a b
  | .lst a, .lst b => D.beqs a b
  | .dic a b, .dic c d => D.beqs a c && D.beqs b d
  | _, _ => false
def D.beqs : List D → List D → Bool
  | [], [] => true
  | x :: xs, y :: ys => D.beq x y && D.beqs xs ys
  | _, _ => false
end
mutual
/-- plain: no truth values, no dicts, of depth n at most -/
def D.pl : Nat → D → Bool
  | _, .non => true
  | _, .int _ => true
  | _, .str s => PyData.strOk s
  | n + 1, .tup xs => D.pls n xs
  | n + 1, .lst xs => D.pls n xs
  | _, _ => false
def D.pls : Nat → List D → Bool
  | _, [] => true
  | n, x :: xs => D.pl n x && D.pls n xs
end
def eqD : D → D → Option Bool
  | .bl a, .bl b => some (a == b)
  | x, y => if D.pl 40 x && D.pl 40 y then some (D.beq x y) else none
def memD (x : D) : D → Option Bool
  | .lst xs => if D.pl 40 x && D.pls 40 xs then some (xs.any (D.beq x)) else none
  | .tup xs => if D.pl 40 x && D.pls 40 xs then some (xs.any (D.beq x)) else none
  | _ => none
def cmpD : Cop → D → D → Option Bool
  | .eq, x, y => eqD x y
  | .ne, x, y => (eqD x y).map not
  | .lt, .int i, .int j => some (decide (i < j))
  | .le, .int i, .int j => some (decide (i ≤ j))
  | .gt, .int i, .int j => some (decide (j < i))
  | .ge, .int i, .int j => some (decide (j ≤ i))
  | .mem, x, y => memD x y
  | .nmem, x, y => (memD x y).map not
  | _, _, _ => none
def truD : D → Option Bool
  | .non => some false
  | .bl b => some b
  | .int i => some (i != 0)
  | .lst xs => some (!xs.isEmpty)
  | .tup xs => some (!xs.isEmpty)
  | _ => none
def blD : D → Option Bool
  | .bl b => some b
  | _ => none
def idxD : D → D → Option D
  | .scr xs, .int i => atI xs i
  | .lst xs, .int i => atI xs i
  | .tup xs, .int i => atI xs i
  | _, _ => none
def intD : D → Option Int
  | .int i => some i
  | _ => none
def cutL {α : Type} (xs : List α) (lo hi : Option Int) : List α := (xs.drop (HT.sIx xs.length 0 lo)).take (HT.sIx xs.length xs.length hi - HT.sIx xs.length 0 lo)
def slcD (t : Bool) (lo hi : Option Int) : D → Option D
  | .lst xs => if t then none else some (.lst (cutL xs lo hi))
  | .tup xs => if t then some (.tup (cutL xs lo hi)) else none
  | _ => none
def revD : D → Option D
  | .lst xs => some (.lst xs.reverse)
  | _ => none
def itemsD : D → Option (List D)
  | .scr xs => some xs
  | .lst xs => some xs
  | .tup xs => some xs
  | _ => none
def intsD : List D → Option (List Int)
  | [] => some []
  | .int i :: xs => (intsD xs).map (i :: ·)
  | _ :: _ => none
def blsD : List D → Option (List Bool)
  | [] => some []
  | .bl b :: xs => (blsD xs).map (b :: ·)
  | _ :: _ => none
def truS : D → Option Bool
  | .non => some false
  | .bl b => some b
  | .int i => some (i != 0)
  | _ => none
def trusD : List D → Option (List Bool)
  | [] => some []
  | x :: xs => (truS x).bind fun b => (trusD xs).map (b :: ·)
def minI : Int → List Int → Int
  | m, [] => m
  | m, x :: xs => minI (if x < m then x else m) xs
def maxI : Int → List Int → Int
  | m, [] => m
  | m, x :: xs => maxI (if m < x then x else m) xs
def minO : List Int → Option D
  | [] => none
  | x :: xs => some (.int (minI x xs))
def maxO : List Int → Option D
  | [] => none
  | x :: xs => some (.int (maxI x xs))
/-- the order of alike data -/
def ltP (a b : D) : Bool := PySem.W.dataLt (toP a) (toP b)
def alikeP (a b : D) : Bool := PySem.W.alike (toP a) (toP b)
/-- data that can be put in order -/
def okC (xs : List D) : Bool := D.pls 40 xs && xs.all fun a => !a.isNon && xs.all fun b => alikeP a b
def minF (x : D) (xs : List D) : D := xs.foldl (fun a y => if ltP y a then y else a) x
def maxF (x : D) (xs : List D) : D := xs.foldl (fun a y => if ltP a y then y else a) x
def minGD (x : D) : Option D := (itemsD x).bind fun xs => if okC xs then (match xs with | [] => none | y :: ys => some (minF y ys)) else none
def maxGD (x : D) : Option D := (itemsD x).bind fun xs => if okC xs then (match xs with | [] => none | y :: ys => some (maxF y ys)) else none
def isTupD : D → Bool
  | .tup (_ :: _) => true
  | _ => false
def noTupD : D → Bool
  | .tup _ => false
  | .non => false
  | _ => true
def sortL (xs : List D) : List D := xs.mergeSort fun a b => !ltP b a
def sortD : D → Option D
  | .lst xs => if okC xs && (xs.all isTupD || xs.all noTupD) then some (.lst (sortL xs)) else none
  | _ => none
def one1 (f : D → Option D) : List D → Option D
  | [x] => f x
  | _ => none
def lenD : D → Option D
  | .scr xs => some (.int xs.length)
  | .lst xs => some (.int xs.length)
  | .tup xs => some (.int xs.length)
  | _ => none
def sumD (x : D) : Option D := (itemsD x).bind fun xs => (intsD xs).map fun ns => .int ns.sum
def anyD (x : D) : Option D := (itemsD x).bind fun xs => (trusD xs).map fun bs => .bl (bs.any id)
def allD (x : D) : Option D := (itemsD x).bind fun xs => (trusD xs).map fun bs => .bl (bs.all id)
def absD : D → Option D
  | .int i => some (.int (if i < 0 then -i else i))
  | _ => none
def toIntD : D → Option D
  | .int i => some (.int i)
  | .bl b => some (.int (if b then 1 else 0))
  | _ => none
def tupleLD : D → Option D
  | .lst xs => some (.tup xs)
  | _ => none
def minD : List D → Option D
  | [x] => (itemsD x).bind fun xs => (intsD xs).bind minO
  | xs => (intsD xs).bind fun ns => if ns.length ≤ 3 then minO ns else none
def maxD : List D → Option D
  | [x] => (itemsD x).bind fun xs => (intsD xs).bind maxO
  | xs => (intsD xs).bind fun ns => if ns.length ≤ 3 then maxO ns else none
def biD (f : BI) (ds : List D) : Option D := match f with
  | .len => one1 lenD ds
  | .sum => one1 sumD ds
  | .any => one1 anyD ds
  | .all => one1 allD ds
  | .abs => one1 absD ds
  | .int => one1 toIntD ds
  | .min => minD ds
  | .max => maxD ds
  | .tuple => one1 (fun x => (itemsD x).map .tup) ds
  | .tupleL => one1 tupleLD ds
  | .list => one1 (fun x => (itemsD x).map .lst) ds
  | .sorted => one1 sortD ds
  | .minG => one1 minGD ds
  | .maxG => one1 maxGD ds
def isiD : Ty → D → Option Bool
  | _, .bad => none
  | _, .scr _ => none
  | _, .dic _ _ => none
  | .int, .int _ => some true
  | .int, .bl _ => some true
  | .bool, .bl _ => some true
  | .tuple, .tup _ => some true
  | .list, .lst _ => some true
  | .str, .str _ => some true
  | _, _ => some false
def rgD : List D → Option (List D)
  | [.int n] => if -(2 ^ 62) ≤ n ∧ n < 2 ^ 62 then some ((List.range n.toNat).map fun (k : Nat) => .int k) else none
  | [.int a, .int b] => if -(2 ^ 62) ≤ a ∧ a < 2 ^ 62 ∧ -(2 ^ 62) ≤ b ∧ b < 2 ^ 62 then some ((List.range (b - a).toNat).map fun (k : Nat) => .int (a + k)) else none
  | [.int a, .int b, .int c] => if c = -1 ∧ -(2 ^ 62) ≤ a ∧ a < 2 ^ 62 ∧ -(2 ^ 62) ≤ b ∧ b < 2 ^ 62 then some ((List.range (a - b).toNat).map fun (k : Nat) => .int (a + k * (-1))) else none
  | _ => none
/-- sorted(set(ints)) -/
def insU (k : Int) : List Int → List Int
  | [] => [k]
  | x :: xs => if k < x then k :: x :: xs else if k = x then x :: xs else x :: insU k xs
def ddU (ns : List Int) : List Int := ns.foldr insU []
def pureInts : List D → Option (List Int)
  | [] => some []
  | .int i :: ds => (pureInts ds).map (i :: ·)
  | _ :: _ => none
def sstD : D → Option D
  | .lst ds => (pureInts ds).bind fun ns => if ns.length < 4000 then some (.lst ((ddU ns).map .int)) else none
  | _ => none
/-- tuple(reversed(a tuple)), list(reversed(a list)) -/
def rvqD : Bool → D → Option D
  | true, .tup xs => some (.tup xs.reverse)
  | false, .lst xs => some (.lst xs.reverse)
  | _, _ => none
/-- a range as a list, as a tuple -/
def tolD (t : Bool) (xs : List D) : Option D := if xs.length ≤ SL then some (if t then .tup xs else .lst xs) else none
def zipD : List D → List D → List D
  | x :: xs, y :: ys => .tup [x, y] :: zipD xs ys
  | _, _ => []
def enmD : Nat → List D → List D
  | _, [] => []
  | k, x :: xs => .tup [.int k, x] :: enmD (k + 1) xs
/-- list(zip(..)) of two tuples -/
def lzpD : D → D → Option D
  | .tup xs, .tup ys => if xs.length = ys.length then some (.lst (zipD xs ys)) else none
  | _, _ => none
def D.t2 : D → Option (D × D)
  | .tup [x, y] => some (x, y)
  | _ => none
def D.t3 : D → Option (D × D × D)
  | .tup [x, y, z] => some (x, y, z)
  | _ => none
def D.t4 : D → Option (D × D × D × D)
  | .tup [x, y, z, w] => some (x, y, z, w)
  | _ => none
def asgD : Tgt → D → List D → Option (List D)
  | .nm i, d, ρ => if D.isBad d then none else some (ρ.set i d)
  | .two a b, d, ρ => (D.t2 d).bind fun p => (asgD a p.1 ρ).bind (asgD b p.2)
  | .three a b c, d, ρ => (D.t3 d).bind fun p => (asgD a p.1 ρ).bind fun ρ => (asgD b p.2.1 ρ).bind (asgD c p.2.2)
  | .four a b c e, d, ρ => (D.t4 d).bind fun p => (asgD a p.1 ρ).bind fun ρ => (asgD b p.2.1 ρ).bind fun ρ => (asgD c p.2.2.1 ρ).bind (asgD e p.2.2.2)
def wipeD (ρ : List D) : List Nat → List D
  | [] => ρ
  | v :: vs => (wipeD ρ vs).set v .bad
def consO : Option D → List D → List D
  | some d, r => d :: r
  | none, r => r
/-- what the turns of a comprehension make -/
def collect (f : D → Option (Option D)) : List D → Option (List D)
  | [] => some []
  | x :: xs => (f x).bind fun o => (collect f xs).map (consO o)

/-- in two steps -/
def collectL (f : D → Option (List D)) : List D → Option (List D)
  | [] => some []
  | x :: xs => (f x).bind fun r => (collectL f xs).map fun q => r ++ q

/-- positions of a target -/
def tIx : Tgt → List Nat
  | .nm i => [i]
  | .two a b => tIx a ++ tIx b
  | .three a b c => tIx a ++ (tIx b ++ tIx c)
  | .four a b c d => tIx a ++ (tIx b ++ (tIx c ++ tIx d))
abbrev Fns := List (List D → Option D)
mutual
def evE (Φ : Fns) : CE → List D → Option D
  | .int i, _ => some (.int i)
  | .bl b, _ => some (.bl b)
  | .non, _ => some .non
  | .str s, _ => some (.str s)
  | .var i, ρ => getV ρ i
  | .tup es, ρ => (evEs Φ es ρ).map .tup
  | .lst _ es, ρ => (evEs Φ es ρ).map .lst
  | .bin op a b, ρ => (evE Φ a ρ).bind fun x => (evE Φ b ρ).bind fun y => binD op x y
  | .neg a, ρ => (evE Φ a ρ).bind fun x => (intD x).map fun i => .int (-i)
  | .cmp op a b, ρ => (evE Φ a ρ).bind fun x => (evE Φ b ρ).bind fun y => (cmpD op x y).map .bl
  | .chn op op' a b c, ρ => (evE Φ a ρ).bind fun x => (evE Φ b ρ).bind fun y => (cmpD op x y).bind fun t =>
      if t then (evE Φ c ρ).bind fun z => (cmpD op' y z).map .bl else some (.bl false)
  | .isN a, ρ => (evE Φ a ρ).map fun x => .bl (D.isNon x)
  | .noN a, ρ => (evE Φ a ρ).map fun x => .bl (!D.isNon x)
  | .and a b, ρ => (evE Φ a ρ).bind fun x => (blD x).bind fun t => if t then evE Φ b ρ else some (.bl false)
  | .or a b, ρ => (evE Φ a ρ).bind fun x => (blD x).bind fun t => if t then some (.bl true) else evE Φ b ρ
  | .not a, ρ => (evE Φ a ρ).bind fun x => (blD x).map fun t => .bl (!t)
  | .ifx c a b, ρ => (evT Φ c ρ).bind fun t => if t then evE Φ a ρ else evE Φ b ρ
  | .idx a i, ρ => (evE Φ a ρ).bind fun x => (evE Φ i ρ).bind fun y => idxD x y
  | .slc t a lo hi, ρ => (evE Φ a ρ).bind fun x => (evO Φ lo ρ).bind fun l => (evO Φ hi ρ).bind fun h => slcD t l h x
  | .rev a, ρ => (evE Φ a ρ).bind revD
  | .call j es, ρ => (evEs Φ es ρ).bind fun ds => (Φ[j]?).bind fun f => f ds
  | .bi f es, ρ => (evEs Φ es ρ).bind fun ds => biD f ds
  | .isi t a, ρ => (evE Φ a ρ).bind fun x => (isiD t x).map .bl
  | .sst a, ρ => (evE Φ a ρ).bind sstD
  | .lzp a b, ρ => (evE Φ a ρ).bind fun x => (evE Φ b ρ).bind fun y => lzpD x y
  | .rvq t a, ρ => (evE Φ a ρ).bind (rvqD t)
  | .rgs1 t a, ρ => (evE Φ a ρ).bind fun x => (rgD [x]).bind (tolD t)
  | .rgs2 t a b, ρ => (evE Φ a ρ).bind fun x => (evE Φ b ρ).bind fun y => (rgD [x, y]).bind (tolD t)
  | .lc _ elt own tg it c, ρ => (evI Φ it ρ).bind fun xs => (collect (fun x => (asgD tg x (wipeD ρ (own.map (·.2)))).bind fun ρ' => (evC Φ c ρ').bind fun t => if t then (evE Φ elt ρ').map some else some none) xs).bind fun ds =>
      if ds.length ≤ SL then some (.lst ds) else none
  | .lc2 _ elt own tg it c tg1 it1 c1, ρ => (evI Φ it ρ).bind fun xs => (collectL (fun x => (asgD tg x (wipeD ρ (own.map (·.2)))).bind fun ρ1 => (evC Φ c ρ1).bind fun t => if t then (evI Φ it1 ρ1).bind fun ys =>
        collect (fun y => (asgD tg1 y (wipeD ρ1 (tIx tg1))).bind fun ρ2 => (evC Φ c1 ρ2).bind fun t => if t then (evE Φ elt ρ2).map some else some none) ys else some []) xs).bind fun ds =>
      if ds.length ≤ SL then some (.lst ds) else none
termination_by structural c => c
/-- as a test -/
def evT (Φ : Fns) : CE → List D → Option Bool
  | .and a b, ρ => (evT Φ a ρ).bind fun t => if t then evT Φ b ρ else some false
  | .or a b, ρ => (evT Φ a ρ).bind fun t => if t then some true else evT Φ b ρ
  | .not a, ρ => (evT Φ a ρ).map not
  | .cmp op a b, ρ => (evE Φ a ρ).bind fun x => (evE Φ b ρ).bind fun y => cmpD op x y
  | .chn op op' a b c, ρ => (evE Φ a ρ).bind fun x => (evE Φ b ρ).bind fun y => (cmpD op x y).bind fun t =>
      if t then (evE Φ c ρ).bind fun z => cmpD op' y z else some false
  | .isN a, ρ => (evE Φ a ρ).map fun x => D.isNon x
  | .noN a, ρ => (evE Φ a ρ).map fun x => !D.isNon x
  | .bl b, _ => some b
  | .var i, ρ => (getV ρ i).bind truD
  | .idx a i, ρ => ((evE Φ a ρ).bind fun x => (evE Φ i ρ).bind fun y => idxD x y).bind truD
  | .call j es, ρ => ((evEs Φ es ρ).bind fun ds => (Φ[j]?).bind fun f => f ds).bind truD
  | .bi f es, ρ => ((evEs Φ es ρ).bind fun ds => biD f ds).bind truD
  | .isi t a, ρ => (evE Φ a ρ).bind fun x => isiD t x
  | .bin op a b, ρ => ((evE Φ a ρ).bind fun x => (evE Φ b ρ).bind fun y => binD op x y).bind truD
  | _, _ => none
termination_by structural c => c
def evEs (Φ : Fns) : CEs → List D → Option (List D)
  | .nil, _ => some []
  | .cons e es, ρ => (evE Φ e ρ).bind fun d => (evEs Φ es ρ).map fun ds => d :: ds
termination_by structural c => c
/-- a part of a slice -/
def evO (Φ : Fns) : CO → List D → Option (Option Int)
  | .no, _ => some none
  | .yes e, ρ => (evE Φ e ρ).bind fun x => (intD x).map some
termination_by structural c => c
/-- a comprehension's test -/
def evC (Φ : Fns) : CO → List D → Option Bool
  | .no, _ => some true
  | .yes e, ρ => evT Φ e ρ
termination_by structural c => c
/-- what is walked -/
def evI (Φ : Fns) : CI → List D → Option (List D)
  | .ex a, ρ => (evE Φ a ρ).bind itemsD
  | .rg es, ρ => (evEs Φ es ρ).bind rgD
  | .zip a b, ρ => (evE Φ a ρ).bind fun x => (evE Φ b ρ).bind fun y => (match x, y with
      | .lst xs, .lst ys => some (zipD xs ys)
      | .tup xs, .tup ys => some (zipD xs ys)
      | _, _ => none)
  | .enm a, ρ => (evE Φ a ρ).bind fun x => (match x with
      | .lst xs => some (enmD 0 xs)
      | .tup xs => some (enmD 0 xs)
      | _ => none)
  | .rvs a, ρ => (evE Φ a ρ).bind fun x => (itemsD x).map List.reverse
termination_by structural c => c
end

/-! ### what each expression hands on -/
def flT (φ : List Nat) : Tgt → List Nat
  | .nm i => φ.set i 0
  | .two a b => flT (flT φ a) b
  | .three a b c => flT (flT (flT φ a) b) c
  | .four a b c d => flT (flT (flT (flT φ a) b) c) d
def φ0 (φ : List Nat) : List Nat → List Nat
  | [] => φ
  | v :: vs => (φ0 φ vs).set v 0
def scal (o : Option Res) : Option Res := o.map fun _ => .own 0
def leR (r : Res) (o : Option Res) : Bool := match o with
  | some r' => r'.le r
  | none => false
def lenEs : CEs → Nat
  | .nil => 0
  | .cons _ es => lenEs es + 1
mutual
def best (fr : List Nat) (φ : List Nat) : CE → Option Res
  | .int _ => some (.own 0)
  | .bl _ => some (.own 0)
  | .non => some (.own 0)
  | .str _ => some (.own 0)
  | .var i => match φ[i]? with
    | some 0 => some (.own 0)
    | some k => some (.md k)
    | none => none
  | .tup es => if lenEs es ≤ 1000 then (if bests fr φ (.md 0) es then some (.own 0) else if bests fr φ .bor es then some .bor else none) else none
  | .lst k es => if lenEs es ≤ 1000 then (if bests fr φ (.own k) es then some (.own (k + 1)) else if bests fr φ .bor es then some .bor else none) else none
  | .bin op a b => match op with
    | .catL 0 => if leR (.md 1) (best fr φ a) && leR (.md 1) (best fr φ b) then some (.own 1) else if leR .bor (best fr φ a) && leR .bor (best fr φ b) then some .bor else none
    | .catL (k + 1) => if leR (.own (k + 2)) (best fr φ a) && leR (.own (k + 2)) (best fr φ b) then some (.own (k + 2)) else none
    | .catT => if leR (.own 0) (best fr φ a) && leR (.own 0) (best fr φ b) then some (.own 0) else if leR .bor (best fr φ a) && leR .bor (best fr φ b) then some .bor else none
    | .repL => if leR (.md 1) (best fr φ a) && leR .bor (best fr φ b) then some (.own 1) else if leR .bor (best fr φ a) && leR .bor (best fr φ b) then some .bor else none
    | .repT => if leR (.own 0) (best fr φ a) && leR .bor (best fr φ b) then some (.own 0) else if leR .bor (best fr φ a) && leR .bor (best fr φ b) then some .bor else none
    | _ => if leR .bor (best fr φ a) && leR .bor (best fr φ b) then some (.own 0) else none
  | .neg a => if leR .bor (best fr φ a) then some (.own 0) else none
  | .cmp _ a b => if leR .bor (best fr φ a) && leR .bor (best fr φ b) then some (.own 0) else none
  | .chn _ _ a b c => if leR .bor (best fr φ a) && leR .bor (best fr φ b) && leR .bor (best fr φ c) then some (.own 0) else none
  | .isN a => if leR .bor (best fr φ a) then some (.own 0) else none
  | .noN a => if leR .bor (best fr φ a) then some (.own 0) else none
  | .and a b => if leR .bor (best fr φ a) then (if leR (.own 0) (best fr φ b) then some (.own 0) else if leR .bor (best fr φ b) then some .bor else none) else none
  | .or a b => if leR .bor (best fr φ a) then (if leR (.own 0) (best fr φ b) then some (.own 0) else if leR .bor (best fr φ b) then some .bor else none) else none
  | .not a => if leR .bor (best fr φ a) then some (.own 0) else none
  | .ifx c a b => if bestT fr φ c then (if leR (.own 0) (best fr φ a) && leR (.own 0) (best fr φ b) then (if best fr φ a == best fr φ b then best fr φ a else some (.own 0)) else if leR (.md 1) (best fr φ a) && leR (.md 1) (best fr φ b) then some (.md 1)
      else if leR .bor (best fr φ a) && leR .bor (best fr φ b) then some .bor else none) else none
  | .idx a i => if leR .bor (best fr φ i) then (if leR (.md 1) (best fr φ a) then some (.md 0) else match best fr φ a with
      | some (.md (m + 1)) => some (.md m)
      | some .bor => some .bor
      | _ => none) else none
  | .slc t a lo hi => if bestO fr φ lo && bestO fr φ hi then (if t then (if leR (.own 0) (best fr φ a) then some (.own 0) else if leR .bor (best fr φ a) then some .bor else none)
      else (if leR (.md 1) (best fr φ a) then some (.own 1) else if leR .bor (best fr φ a) then some .bor else none)) else none
  | .rev a => if leR (.md 1) (best fr φ a) then some (.own 1) else if leR .bor (best fr φ a) then some .bor else none
  | .call j es => match fr[j]? with
    | some k => if bests fr φ (.md 0) es then some (.own k) else if bests fr φ .bor es then some .bor else none
    | none => none
  | .bi f es => match f with
    | .tuple => if bests fr φ (.md 0) es then some (.own 0) else if bests fr φ .bor es then some .bor else none
    | .tupleL => if bests fr φ (.md 1) es then some (.own 0) else if bests fr φ .bor es then some .bor else none
    | .list => if bests fr φ (.md 1) es then some (.own 1) else if bests fr φ .bor es then some .bor else none
    | .sorted => if bests fr φ (.md 1) es then some (.own 1) else none
    | .minG => if bests fr φ (.md 1) es then some (.md 0) else if bests fr φ .bor es then some .bor else none
    | .maxG => if bests fr φ (.md 1) es then some (.md 0) else if bests fr φ .bor es then some .bor else none
    | _ => if bests fr φ .bor es then some (.own 0) else none
  | .isi _ a => if leR .bor (best fr φ a) then some (.own 0) else none
  | .sst a => if leR .bor (best fr φ a) then some (.own 1) else none
  | .lzp a b => if leR (.own 0) (best fr φ a) && leR (.own 0) (best fr φ b) then some (.own 1) else none
  | .rvq t a => if t then (if leR (.own 0) (best fr φ a) then some (.own 0) else none) else if leR (.md 1) (best fr φ a) then some (.own 1) else none
  | .rgs1 t a => if leR .bor (best fr φ a) then some (.own (if t then 0 else 1)) else none
  | .rgs2 t a b => if leR .bor (best fr φ a) && leR .bor (best fr φ b) then some (.own (if t then 0 else 1)) else none
  | .lc k elt own tg it c => if bestI fr φ it && bestC fr (flT (φ0 φ (own.map (·.2))) tg) c && leR (.own k) (best fr (flT (φ0 φ (own.map (·.2))) tg) elt) && (tIx tg).all (fun i => (own.map (·.2)).contains i) && (own.map (·.2)).all (fun i => decide (i < φ.length)) then some (.own (k + 1)) else none
  | .lc2 k elt own tg it c tg1 it1 c1 => if bestI fr φ it && bestC fr (flT (φ0 φ (own.map (·.2))) tg) c && bestJ fr (flT (φ0 φ (own.map (·.2))) tg) it1 && bestC fr (flT (φ0 (flT (φ0 φ (own.map (·.2))) tg) (tIx tg1)) tg1) c1 && leR (.own k) (best fr (flT (φ0 (flT (φ0 φ (own.map (·.2))) tg) (tIx tg1)) tg1) elt) && (tIx tg).all (fun i => (own.map (·.2)).contains i) && (tIx tg1).all (fun i => (own.map (·.2)).contains i) && (own.map (·.2)).all (fun i => decide (i < φ.length)) then some (.own (k + 1)) else none
termination_by structural c => c
/-- what is walked while owned things change -/
def bestJ (fr : List Nat) (φ : List Nat) : CI → Bool
  | .ex a => leR (.own 0) (best fr φ a)
  | .rg es => bests fr φ .bor es
  | .zip a b => leR (.own 0) (best fr φ a) && leR (.own 0) (best fr φ b)
  | .enm a => leR (.own 0) (best fr φ a)
  | .rvs a => leR (.own 0) (best fr φ a)
termination_by structural c => c
def bests (fr : List Nat) (φ : List Nat) (r : Res) : CEs → Bool
  | .nil => true
  | .cons e es => leR r (best fr φ e) && bests fr φ r es
termination_by structural c => c
def bestO (fr : List Nat) (φ : List Nat) : CO → Bool
  | .no => true
  | .yes e => leR .bor (best fr φ e)
termination_by structural c => c
def bestC (fr : List Nat) (φ : List Nat) : CO → Bool
  | .no => true
  | .yes e => bestT fr φ e
termination_by structural c => c
def bestI (fr : List Nat) (φ : List Nat) : CI → Bool
  | .ex a => leR (.md 1) (best fr φ a)
  | .rg es => bests fr φ .bor es
  | .zip a b => leR (.md 1) (best fr φ a) && leR (.md 1) (best fr φ b)
  | .enm a => leR (.md 1) (best fr φ a)
  | .rvs a => leR (.md 1) (best fr φ a)
termination_by structural c => c
def bestT (fr : List Nat) (φ : List Nat) : CE → Bool
  | .and a b => bestT fr φ a && bestT fr φ b
  | .or a b => bestT fr φ a && bestT fr φ b
  | .not a => bestT fr φ a
  | .bl _ => true
  | .cmp _ a b => leR .bor (best fr φ a) && leR .bor (best fr φ b)
  | .chn _ _ a b c => leR .bor (best fr φ a) && leR .bor (best fr φ b) && leR .bor (best fr φ c)
  | .isN a => leR .bor (best fr φ a)
  | .noN a => leR .bor (best fr φ a)
  | .var i => match φ[i]? with
    | some _ => true
    | none => false
  | .idx a i => leR .bor (best fr φ a) && leR .bor (best fr φ i)
  | .call j es => (match fr[j]? with | some _ => true | none => false) && bests fr φ .bor es
  | .bi f es => (match f with | .sorted => false | _ => true) && bests fr φ .bor es
  | .isi _ a => leR .bor (best fr φ a)
  | .bin op a b => (match op with | .catL _ => false | .catT => false | .repL => false | .repT => false | _ => true) && (leR .bor (best fr φ a) && leR .bor (best fr φ b))
  | _ => false
termination_by structural c => c
end
end Ev

/-! The written program against the small language. -/
namespace Ev
open PySem PySem.Spec PyProof.Rows L2

structure AC where
  N : List Str
  fs : List Str
  sc : Scope
  fn : Str → Bool
def visB (c : AC) (x : Str) : Bool := match c.sc.names.lookup x with
  | some .local => true
  | some .cell => true
  | some .free => true
  | _ => false
def locB (c : AC) (x : Str) : Bool := match c.sc.names.lookup x with
  | some .local => true
  | some .cell => c.fn x
  | _ => false
def glB (c : AC) (x : Str) : Bool := decide (c.sc.names.lookup x = some .globalImplicit) && !(x == ("__debug__" : Str))
def okN (x : Str) : Bool := !(x == ("__debug__" : Str)) && !(x == ("__classdict__" : Str))
def bopM : Bop → Operator → Bool
  | .add, .Add => true
  | .catL _, .Add => true
  | .catT, .Add => true
  | .sub, .Sub => true
  | .mul, .Mult => true
  | .repL, .Mult => true
  | .repT, .Mult => true
  | .fdiv, .FloorDiv => true
  | .mod, .Mod => true
  | .pow, .Pow => true
  | _, _ => false
def copM : Cop → CmpOp → Bool
  | .eq, .Eq => true
  | .ne, .NotEq => true
  | .lt, .Lt => true
  | .le, .LtE => true
  | .gt, .Gt => true
  | .ge, .GtE => true
  | .mem, .In => true
  | .nmem, .NotIn => true
  | _, _ => false
def biN : BI → Str
  | .len => "len"
  | .sum => "sum"
  | .any => "any"
  | .all => "all"
  | .abs => "abs"
  | .int => "int"
  | .min => "min"
  | .max => "max"
  | .minG => "min"
  | .maxG => "max"
  | .tuple => "tuple"
  | .tupleL => "tuple"
  | .list => "list"
  | .sorted => "sorted"
def tyN : Ty → Str
  | .int => "int"
  | .bool => "bool"
  | .tuple => "tuple"
  | .str => "str"
  | .list => "list"
def blkAC (c : AC) (scope : Scope) : AC := { c with sc := relS scope c.sc, fn := fun x => scope.names.lookup x == some .cell }
def agG : Tgt → AC → Expr → Bool
  | .nm i, c, e => match e with
    | .Name x _ => decide (c.N[i]? = some x) && locB c x
    | _ => false
  | .two a b, c, e => match e with
    | .Tuple [x, y] _ _ => agG a c x && agG b c y
    | _ => false
  | .three a b d, c, e => match e with
    | .Tuple [x, y, z] _ _ => agG a c x && agG b c y && agG d c z
    | _ => false
  | .four a b d f, c, e => match e with
    | .Tuple [x, y, z, w] _ _ => agG a c x && agG b c y && agG d c z && agG f c w
    | _ => false
mutual
def agE : CE → AC → Expr → Bool
  | .int i, _, e => match e with
    | .Constant (.int j) _ _ => decide (i = j)
    | _ => false
  | .bl b, _, e => match e with
    | .Constant (.bool j) _ _ => b == j
    | _ => false
  | .non, _, e => match e with
    | .Constant .none _ _ => true
    | _ => false
  | .str s, _, e => match e with
    | .Constant (.str j) _ _ => decide (s = j)
    | _ => false
  | .var i, c, e => match e with
    | .Name x _ => decide (c.N[i]? = some x) && visB c x && okN x
    | _ => false
  | .tup es, c, e => match e with
    | .Tuple xs _ _ => agEs es c xs
    | _ => false
  | .lst _ es, c, e => match e with
    | .List xs _ => agEs es c xs
    | _ => false
  | .bin op a b, c, e => match e with
    | .BinOp x o y _ => bopM op o && agE a c x && agE b c y
    | _ => false
  | .neg a, c, e => match e with
    | .UnaryOp .USub x _ => agE a c x
    | _ => false
  | .cmp op a b, c, e => match e with
    | .Compare x [o] [y] _ => copM op o && agE a c x && agE b c y
    | _ => false
  | .chn op op' a b d, c, e => match e with
    | .Compare x [o, o'] [y, z] _ => copM op o && copM op' o' && agE a c x && agE b c y && agE d c z
    | _ => false
  | .isN a, c, e => match e with
    | .Compare x [.Is] [.Constant .none _ _] _ => agE a c x
    | _ => false
  | .noN a, c, e => match e with
    | .Compare x [.IsNot] [.Constant .none _ _] _ => agE a c x
    | _ => false
  | .and a b, c, e => match e with
    | .BoolOp .And (x :: y :: r) p => agE a c x && (match r with
      | [] => agE b c y
      | z :: r => agE b c (.BoolOp .And (y :: z :: r) p))
    | _ => false
  | .or a b, c, e => match e with
    | .BoolOp .Or (x :: y :: r) p => agE a c x && (match r with
      | [] => agE b c y
      | z :: r => agE b c (.BoolOp .Or (y :: z :: r) p))
    | _ => false
  | .not a, c, e => match e with
    | .UnaryOp .Not x _ => agE a c x
    | _ => false
  | .ifx t a b, c, e => match e with
    | .IfExp w x y _ => agE t c w && agE a c x && agE b c y
    | _ => false
  | .idx a i, c, e => match e with
    | .Subscript x y _ => agE a c x && agE i c y
    | _ => false
  | .slc _ a lo hi, c, e => match e with
    | .Subscript x (.Slice l h none _) _ => agE a c x && agO lo c l && agO hi c h
    | _ => false
  | .rev a, c, e => match e with
    | .Subscript x (.Slice none none (some (.UnaryOp .USub (.Constant (.int 1) _ _) _)) _) _ => agE a c x
    | _ => false
  | .call j es, c, e => match e with
    | .Call (.Name x _) (y :: ys) [] _ => decide (c.fs[j]? = some x) && glB c x && agEs es c (y :: ys)
    | _ => false
  | .bi f es, c, e => match e with
    | .Call (.Name x _) (y :: ys) [] _ => decide (biN f = x) && glB c x && agEs es c (y :: ys)
    | _ => false
  | .sst a, c, e => match e with
    | .Call (.Name x _) [.Call (.Name y _) [z] [] _] [] _ => decide (x = ("sorted" : Str)) && glB c x && decide (y = ("set" : Str)) && glB c y && agE a c z
    | _ => false
  | .lzp a b, c, e => match e with
    | .Call (.Name x _) [.Call (.Name y _) [z, w] [] _] [] _ => decide (x = ("list" : Str)) && glB c x && decide (y = ("zip" : Str)) && glB c y && agE a c z && agE b c w
    | _ => false
  | .rvq t a, c, e => match e with
    | .Call (.Name x _) [.Call (.Name y _) [z] [] _] [] _ => decide (x = (if t then ("tuple" : Str) else ("list" : Str))) && glB c x && decide (y = ("reversed" : Str)) && glB c y && agE a c z
    | _ => false
  | .rgs1 t a, c, e => match e with
    | .Call (.Name x _) [.Call (.Name y _) [z] [] _] [] _ => decide (x = (if t then ("tuple" : Str) else ("list" : Str))) && glB c x && decide (y = ("range" : Str)) && glB c y && agE a c z
    | _ => false
  | .rgs2 t a b, c, e => match e with
    | .Call (.Name x _) [.Call (.Name y _) [z, w] [] _] [] _ => decide (x = (if t then ("tuple" : Str) else ("list" : Str))) && glB c x && decide (y = ("range" : Str)) && glB c y && agE a c z && agE b c w
    | _ => false
  | .isi t a, c, e => match e with
    | .Call (.Name x _) [y, .Name z _] [] _ => decide (x = ("isinstance" : Str)) && glB c x && agE a c y && decide (z = tyN t) && glB c z
    | _ => false
  | .lc _ elt own tg it t, c, e => match e with
    | .ListComp x [⟨g, i, ifs, a⟩] scope _ => decide (a = 0) && blkC c.N c.sc scope own && agI it c g i && agG tg (blkAC c scope) g && agC t (blkAC c scope) ifs && agE elt (blkAC c scope) x
    | _ => false
  | .lc2 _ elt own tg it t tg1 it1 t1, c, e => match e with
    | .ListComp x [⟨g, i, ifs, a⟩, ⟨g1, i1, ifs1, a1⟩] scope _ => decide (a = 0) && decide (a1 = 0) && blkC c.N c.sc scope own && agI it c g i && agG tg (blkAC c scope) g && agC t (blkAC c scope) ifs && agI it1 (blkAC c scope) g1 i1 && agG tg1 (blkAC c scope) g1 && agC t1 (blkAC c scope) ifs1 && agE elt (blkAC c scope) x
    | _ => false
termination_by structural c => c
def agEs : CEs → AC → List Expr → Bool
  | .nil, _, es => match es with
    | [] => true
    | _ => false
  | .cons e es, c, xs => match xs with
    | x :: r => agE e c x && agEs es c r
    | _ => false
termination_by structural c => c
def agO : CO → AC → Option Expr → Bool
  | .no, _, e => match e with
    | none => true
    | _ => false
  | .yes a, c, e => match e with
    | some x => agE a c x
    | _ => false
termination_by structural c => c
def agC : CO → AC → List Expr → Bool
  | .no, _, e => match e with
    | [] => true
    | _ => false
  | .yes a, c, e => match e with
    | [x] => agE a c x
    | _ => false
termination_by structural c => c
/-- .. by its target, too -/
def agI : CI → AC → Expr → Expr → Bool
  | .ex a, c, _, e => agE a c e
  | .rg es, c, _, e => match e with
    | .Call (.Name x _) (y :: ys) [] _ => decide (x = ("range" : Str)) && glB c x && agEs es c (y :: ys)
    | _ => false
  | .zip a b, c, g, e => match g, e with
    | .Tuple _ _ _, .Call (.Name x _) [y, z] [] _ => decide (x = ("zip" : Str)) && glB c x && agE a c y && agE b c z
    | _, _ => false
  | .enm a, c, g, e => match g, e with
    | .Tuple _ _ _, .Call (.Name x _) [y] [] _ => decide (x = ("enumerate" : Str)) && glB c x && agE a c y
    | _, _ => false
  | .rvs a, c, _, e => match e with
    | .Call (.Name x _) [y] [] _ => decide (x = ("reversed" : Str)) && glB c x && agE a c y
    | _ => false
termination_by structural c => c
end

/-- none of the written forms that need care -/
def plainE : Expr → Bool
  | .Starred .. => false
  | .Slice .. => false
  | .Set .. => false
  | _ => true
theorem agE_plain : ∀ {c : CE} {a : AC} {e : Expr}, agE c a e = true → plainE e = true := by
  intro c a e h
  cases e <;> first
    | rfl
    | (exfalso; cases c <;> simp [agE] at h)
theorem plain_star {e : Expr} (h : plainE e = true) (es : List Expr) (env : Env) : starEach (e :: es) env = (false, eval e env) :: starEach es env := by
  cases e <;> first | rfl | (simp [plainE] at h)
theorem plain_mark {e : Expr} (h : plainE e = true) (op : CmpOp) : behindInMarks op e = false := by
  cases e <;> first | rfl | (simp [plainE] at h)
theorem plain_ix {e : Expr} (h : plainE e = true) : PlainIx e := by
  intro o i
  cases e <;> first | rfl | (simp [plainE] at h)
theorem plain_fold {e : Expr} (h : plainE e = true) (env : Env) (x : Value) : foldedSetIterable e env x = pure x := by
  cases e <;> first | rfl | (simp [plainE] at h)

/-! ### the frame in which a body runs -/
/-- a def's promise over data -/
def spD (K : PySem.W.Frag) (n rk : Nat) (f : List D → Option D) : Sp := fun vs H Q _ => vs.length = n ∧ ∃ F ds, (∀ a, F a → (H a).isSome = true) ∧ AllR (Rep K F H) ds vs ∧ ∃ d, f ds = some d ∧
  ∀ v H' F', Ext F H F' H' → (Res.own rk).ok K H F' H' d v → Q v H'
structure FnD (P : Program) (w : World) (K : PySem.W.Frag) (mg : Str → Option Value) (base : Heap) (k : Nat) (x : Str) (rk : Nat) (f : List D → Option D) : Prop where
  ex : ∃ (n : Nat) (a : Addr) (fd : FuncData) (ps : List Str), FnOk P w K mg base CX0 k a fd ps (spD K n rk f) ∧ mg x = some (.ref a) ∧ PySem.W.keepIn K (.ref a) = true ∧ Binds K fd ps [] ∧ ∀ ds d, f ds = some d → ds.length = n
def bltNames : List Str := ["len", "sum", "any", "all", "abs", "int", "min", "max", "tuple", "list", "sorted", "isinstance", "bool", "str", "range", "zip", "enumerate", "reversed", "set"]
structure GX (X : Cx) (c : AC) (fr : List Nat) (Φ : Fns) (k : Nat) : Prop where
  N : X.N = c.N
  sc : X.env.scope = c.sc
  fn : X.fn = c.fn
  nd : X.N.Nodup
  calm : X.calm = true
  room : Room k X.A
  blt : ∀ x ∈ bltNames, X.mg x = none
  fns : ∀ (j : Nat) (x : Str) (rk : Nat), c.fs[j]? = some x → fr[j]? = some rk → ∃ f, Φ[j]? = some f ∧ FnD X.prog X.w X.K X.mg X.base k x rk f
theorem GX.blk {X : Cx} {c : AC} {fr : List Nat} {Φ : Fns} {k : Nat} (g : GX X c fr Φ k) (s : Shared) (H : Hp) (scope : Scope) (C : Addr) (cl : List (Str × Addr)) (fp : List Addr) :
    GX (X.blk s H scope (compEnvC scope cl C X.env) fp) (blkAC c scope) fr Φ k := by
  refine ⟨g.N, ?_, rfl, g.nd, g.calm, g.room, g.blt, g.fns⟩
  show relabel scope X.env = relS scope c.sc
  rw [← g.sc]
  rfl
end Ev

/-! Operators over data. -/
namespace Ev
open PySem PySem.Spec PyProof.Rows L2

theorem toPs_map : ∀ xs : List D, toPs xs = xs.map toP
  | [] => rfl
  | x :: xs => by rw [toPs, toPs_map xs]; rfl
mutual
/-- no dict in it -/
def D.sm : D → Bool
  | .non => true
  | .bl _ => true
  | .int _ => true
  | .str _ => true
  | .tup xs => D.sms xs
  | .lst xs => D.sms xs
  | _ => false
termination_by structural d => d
def D.sms : List D → Bool
  | [] => true
  | x :: xs => D.sm x && D.sms xs
termination_by structural d => d
end
section
variable {K : PySem.W.Frag} {P : Pa} {H : Hp}
mutual
theorem rep_dp : ∀ (d : D) (v : V), D.sm d = true → Rep K P H d v → Dp K H v (toP d)
  | .bad, v, h, _ => by simp [D.sm] at h
  | .non, v, _, r => by unfold Rep at r; subst r; exact .non
  | .bl b, v, _, r => by unfold Rep at r; subst r; exact .bl b
  | .int i, v, _, r => by unfold Rep at r; subst r; exact .int i
  | .str s, v, _, r => by unfold Rep at r; subst r; exact .str s
  | .scr xs, v, h, _ => by simp [D.sm] at h
  | .tup xs, v, h, r => by
    unfold Rep at r
    obtain ⟨a, vs, rfl, t, q⟩ := r
    unfold D.sm at h
    exact .tup t.sq (reps_dp xs vs h q)
  | .lst xs, v, h, r => by
    unfold Rep at r
    obtain ⟨a, vs, rfl, t, q⟩ := r
    unfold D.sm at h
    exact .lst t.sq (reps_dp xs vs h q)
  | .dic _ _, v, h, _ => by simp [D.sm] at h
theorem reps_dp : ∀ (ds : List D) (vs : List V), D.sms ds = true → Reps K P H ds vs → DpAll K H vs (toPs ds)
  | [], vs, _, r => by unfold Reps at r; subst r; exact .nil
  | d :: ds, vs, h, r => by
    unfold Reps at r
    obtain ⟨v, q, rfl, h1, h2⟩ := r
    unfold D.sms at h
    rw [Bool.and_eq_true] at h
    exact .cons (rep_dp d v h.1 h1) (reps_dp ds q h.2 h2)
end
end
mutual
theorem pl_sm : ∀ (n : Nat) (d : D), D.pl n d = true → D.sm d = true
  | _, .bad, h => by simp [D.pl] at h
  | _, .non, _ => by simp [D.sm]
  | _, .bl _, _ => by simp [D.sm]
  | _, .int _, _ => by simp [D.sm]
  | _, .str _, _ => by simp [D.sm]
  | _, .scr _, h => by simp [D.pl] at h
  | 0, .tup xs, h => by simp [D.pl] at h
  | n + 1, .tup xs, h => by unfold D.sm; exact pls_sm n xs (by simpa [D.pl] using h)
  | 0, .lst xs, h => by simp [D.pl] at h
  | n + 1, .lst xs, h => by unfold D.sm; exact pls_sm n xs (by simpa [D.pl] using h)
  | _, .dic _ _, h => by simp [D.pl] at h
theorem pls_sm : ∀ (n : Nat) (ds : List D), D.pls n ds = true → D.sms ds = true
  | _, [], _ => by simp [D.sms]
  | n, d :: ds, h => by
    rw [D.pls, Bool.and_eq_true] at h
    rw [D.sms, Bool.and_eq_true]
    exact ⟨pl_sm n d h.1, pls_sm n ds h.2⟩
end
mutual
theorem pl_lay : ∀ (n : Nat) (d : D), D.pl n d = true → (toP d).canLay0 = true ∧ (toP d).depth ≤ n
  | _, .bad, h => by simp [D.pl] at h
  | _, .non, _ => by simp [toP, PyData.canLay0, PyData.depth]
  | _, .bl _, h => by simp [toP, PyData.canLay0, PyData.depth]
  | _, .int _, _ => by simp [toP, PyData.canLay0, PyData.depth]
  | _, .str s, h => by
    have h : PyData.strOk s = true := by simpa [D.pl] using h
    simp [toP, PyData.canLay0, PyData.depth, h]
  | _, .scr _, h => by simp [D.pl] at h
  | 0, .tup xs, h => by simp [D.pl] at h
  | n + 1, .tup xs, h => by
    have q := pls_lay n xs (by simpa [D.pl] using h)
    simp only [toP, PyData.canLay0, PyData.depth]
    exact ⟨q.1, by omega⟩
  | 0, .lst xs, h => by simp [D.pl] at h
  | n + 1, .lst xs, h => by
    have q := pls_lay n xs (by simpa [D.pl] using h)
    simp only [toP, PyData.canLay0, PyData.depth]
    exact ⟨q.1, by omega⟩
  | _, .dic _ _, h => by simp [D.pl] at h
theorem pls_lay : ∀ (n : Nat) (ds : List D), D.pls n ds = true → PyData.canLayAll0 (toPs ds) = true ∧ PyData.depthAll (toPs ds) ≤ n
  | n, [], _ => by simp [toPs, PyData.canLayAll0, PyData.depthAll]
  | n, d :: ds, h => by
    rw [D.pls, Bool.and_eq_true] at h
    have h1 := pl_lay n d h.1
    have h2 := pls_lay n ds h.2
    simp only [toPs, PyData.canLayAll0, PyData.depthAll, h1.1, h2.1, Bool.and_true, true_and]
    omega
end
mutual
theorem pl_eqv : ∀ (n m : Nat) (x y : D), D.pl n x = true → D.pl m y = true → PyData.eqv (toP x) (toP y) = D.beq x y
  | _, _, .bad, _, h, _ => by simp [D.pl] at h
  | _, _, .bl _, _, h, _ => by simp [D.pl] at h
  | _, _, .scr _, _, h, _ => by simp [D.pl] at h
  | _, _, .dic _ _, _, h, _ => by simp [D.pl] at h
  | n, m, .non, y, _, h => by cases y <;> first | (simp [D.pl] at h; done) | simp [toP, PyData.eqv, D.beq]
  | n, m, .int i, y, _, h => by cases y <;> first | (simp [D.pl] at h; done) | simp [toP, PyData.eqv, D.beq]
  | n, m, .str i, y, _, h => by cases y <;> first | (simp [D.pl] at h; done) | simp [toP, PyData.eqv, D.beq]
  | 0, _, .tup xs, _, h, _ => by simp [D.pl] at h
  | 0, _, .lst xs, _, h, _ => by simp [D.pl] at h
  | n + 1, m, .tup xs, y, h, h' => by
    cases y with
    | tup ys =>
      cases m with
      | zero => simp [D.pl] at h'
      | succ m =>
        simp only [toP, PyData.eqv, D.beq]
        exact pls_eqv n m xs ys (by simpa [D.pl] using h) (by simpa [D.pl] using h')
    | _ => first | (simp [D.pl] at h'; done) | simp [toP, PyData.eqv, D.beq]
  | n + 1, m, .lst xs, y, h, h' => by
    cases y with
    | lst ys =>
      cases m with
      | zero => simp [D.pl] at h'
      | succ m =>
        simp only [toP, PyData.eqv, D.beq]
        exact pls_eqv n m xs ys (by simpa [D.pl] using h) (by simpa [D.pl] using h')
    | _ => first | (simp [D.pl] at h'; done) | simp [toP, PyData.eqv, D.beq]
theorem pls_eqv : ∀ (n m : Nat) (xs ys : List D), D.pls n xs = true → D.pls m ys = true → PyData.eqvAll (toPs xs) (toPs ys) = D.beqs xs ys
  | _, _, [], [], _, _ => by simp [toPs, PyData.eqvAll, D.beqs]
  | _, _, [], y :: ys, _, _ => by simp [toPs, PyData.eqvAll, D.beqs]
  | _, _, x :: xs, [], _, _ => by simp [toPs, PyData.eqvAll, D.beqs]
  | n, m, x :: xs, y :: ys, h, h' => by
    rw [D.pls, Bool.and_eq_true] at h h'
    simp only [toPs, PyData.eqvAll, D.beqs, pl_eqv n m x y h.1 h'.1, pls_eqv n m xs ys h.2 h'.2]
end
mutual
theorem beq_iff : ∀ (x y : D), D.beq x y = true ↔ x = y
  | .bad, y => by cases y <;> simp [D.beq]
  | .non, y => by cases y <;> simp [D.beq]
  | .bl _, y => by cases y <;> simp [D.beq]
  | .int _, y => by cases y <;> simp [D.beq]
  | .str _, y => by cases y <;> simp [D.beq]
  | .scr xs, y => by
    cases y <;> first | (simp [D.beq]; done) | skip
    rename_i ys
    simp only [D.beq, D.scr.injEq]
    exact beqs_iff xs ys
  | .tup xs, y => by
    cases y <;> first | (simp [D.beq]; done) | skip
    rename_i ys
    simp only [D.beq, D.tup.injEq]
    exact beqs_iff xs ys
  | .lst xs, y => by
    cases y <;> first | (simp [D.beq]; done) | skip
    rename_i ys
    simp only [D.beq, D.lst.injEq]
    exact beqs_iff xs ys
  | .dic a b, y => by
    cases y <;> first | (simp [D.beq]; done) | skip
    rename_i c d
    simp only [D.beq, D.dic.injEq, Bool.and_eq_true]
    rw [beqs_iff a c, beqs_iff b d]
theorem beqs_iff : ∀ (xs ys : List D), D.beqs xs ys = true ↔ xs = ys
  | [], [] => by simp [D.beqs]
  | [], y :: ys => by simp [D.beqs]
  | x :: xs, [] => by simp [D.beqs]
  | x :: xs, y :: ys => by
    simp only [D.beqs, Bool.and_eq_true, List.cons.injEq]
    rw [beq_iff x y, beqs_iff xs ys]
end
theorem beq_comm (x y : D) : D.beq x y = D.beq y x := by
  cases h : D.beq y x with
  | true => rw [beq_iff] at h ⊢; exact h.symm
  | false =>
    cases h' : D.beq x y with
    | false => rfl
    | true => rw [beq_iff] at h'; rw [(beq_iff y x).mpr h'.symm] at h; cases h
theorem shaped_of {n : Nat} {d : D} (hn : n ≤ 60) (h : D.pl n d = true) : SeqAt.shaped (toP d) = true := by
  obtain ⟨h1, h2⟩ := pl_lay n d h
  unfold SeqAt.shaped
  rw [h1, decide_eq_true (by omega)]
  rfl

section
variable {X : Cx} {K : PySem.W.Frag}
/-- a comparison over data -/
def rC (K : PySem.W.Frag) (o : Cop) : R2 := fun x y H Q => ∃ a b t, Rep K Any H a x ∧ Rep K Any H b y ∧ cmpD o a b = some t ∧ Q (.bl t) H
theorem rep_int {H : Hp} {P : Pa} {i : Int} {v : V} (r : Rep K P H (.int i) v) : v = .int i := by unfold Rep at r; exact r
theorem rep_bl {H : Hp} {P : Pa} {i : Bool} {v : V} (r : Rep K P H (.bl i) v) : v = .bl i := by unfold Rep at r; exact r
theorem rep_non {H : Hp} {P : Pa} {v : V} (r : Rep K P H .non v) : v = .non := by unfold Rep at r; exact r
theorem eqD_cases {a b : D} {t : Bool} (h : eqD a b = some t) : (∃ p q, a = .bl p ∧ b = .bl q ∧ t = (p == q)) ∨ (D.pl 40 a = true ∧ D.pl 40 b = true ∧ t = D.beq a b) := by
  unfold eqD at h
  split at h
  · exact .inl ⟨_, _, rfl, rfl, (Option.some.inj h).symm⟩
  · split at h
    · rename_i hc
      rw [Bool.and_eq_true] at hc
      exact .inr ⟨hc.1, hc.2, (Option.some.inj h).symm⟩
    · cases h
theorem op_eqX (hu : X.A.units + 64 < cLine) : OpR X (compareOp .Eq) (rC X.K .eq) := by
  intro pins s σ H x y v u Q I rx ry h
  obtain ⟨a, b, t, ha, hb, e, q⟩ := h
  rcases eqD_cases e with ⟨i, j, rfl, rfl, rfl⟩ | ⟨h1, h2, rfl⟩
  · have e1 := rep_bl ha
    have e2 := rep_bl hb
    subst e1 e2
    exact op_eq pins s σ H _ _ v u Q I rx ry ⟨rfl, by rw [dec_bl]; exact q⟩
  · exact op_eqD hu pins s σ H x y v u Q I rx ry ⟨toP a, toP b, rep_dp a x (pl_sm _ _ h1) ha, rep_dp b y (pl_sm _ _ h2) hb, shaped_of (by decide) h1, shaped_of (by decide) h2, by rw [pl_eqv 40 40 a b h1 h2]; exact q⟩
theorem op_neX (hu : X.A.units + 64 < cLine) : OpR X (compareOp .NotEq) (rC X.K .ne) := by
  intro pins s σ H x y v u Q I rx ry h
  obtain ⟨a, b, t, ha, hb, e, q⟩ := h
  have e : (eqD a b).map not = some t := e
  cases e' : eqD a b with
  | none => rw [e'] at e; cases e
  | some t' =>
    rw [e'] at e
    have e : (!t') = t := Option.some.inj e
    subst e
    rcases eqD_cases e' with ⟨i, j, rfl, rfl, rfl⟩ | ⟨h1, h2, rfl⟩
    · have e1 := rep_bl ha
      have e2 := rep_bl hb
      subst e1 e2
      exact op_ne pins s σ H _ _ v u Q I rx ry ⟨rfl, by rw [dec_bl]; exact q⟩
    · exact op_neD hu pins s σ H x y v u Q I rx ry ⟨toP a, toP b, rep_dp a x (pl_sm _ _ h1) ha, rep_dp b y (pl_sm _ _ h2) hb, shaped_of (by decide) h1, shaped_of (by decide) h2, by rw [pl_eqv 40 40 a b h1 h2]; exact q⟩
theorem op_ltX : OpR X (compareOp .Lt) (rC X.K .lt) := by
  intro pins s σ H x y v u Q I rx ry h
  obtain ⟨a, b, t, ha, hb, e, q⟩ := h
  cases a <;> cases b <;> first | (simp [cmpD] at e; done) | skip
  simp only [cmpD, Option.some.injEq] at e
  subst e
  exact op_lt pins s σ H x y v u Q I rx ry ⟨_, _, rep_int ha, rep_int hb, q⟩
theorem op_leX : OpR X (compareOp .LtE) (rC X.K .le) := by
  intro pins s σ H x y v u Q I rx ry h
  obtain ⟨a, b, t, ha, hb, e, q⟩ := h
  cases a <;> cases b <;> first | (simp [cmpD] at e; done) | skip
  simp only [cmpD, Option.some.injEq] at e
  subst e
  exact op_le pins s σ H x y v u Q I rx ry ⟨_, _, rep_int ha, rep_int hb, q⟩
theorem op_gtX : OpR X (compareOp .Gt) (rC X.K .gt) := by
  intro pins s σ H x y v u Q I rx ry h
  obtain ⟨a, b, t, ha, hb, e, q⟩ := h
  cases a <;> cases b <;> first | (simp [cmpD] at e; done) | skip
  simp only [cmpD, Option.some.injEq] at e
  subst e
  exact op_gt pins s σ H x y v u Q I rx ry ⟨_, _, rep_int ha, rep_int hb, q⟩
theorem op_geX : OpR X (compareOp .GtE) (rC X.K .ge) := by
  intro pins s σ H x y v u Q I rx ry h
  obtain ⟨a, b, t, ha, hb, e, q⟩ := h
  cases a <;> cases b <;> first | (simp [cmpD] at e; done) | skip
  simp only [cmpD, Option.some.injEq] at e
  subst e
  exact op_ge pins s σ H x y v u Q I rx ry ⟨_, _, rep_int ha, rep_int hb, q⟩
theorem any_eqv {x : D} (hx : D.pl 40 x = true) : ∀ xs : List D, D.pls 40 xs = true → ((toPs xs).any fun y => PyData.eqv y (toP x)) = xs.any (D.beq x)
  | [], _ => rfl
  | y :: ys, h => by
    rw [D.pls, Bool.and_eq_true] at h
    rw [toPs, List.any_cons, List.any_cons, any_eqv hx ys h.2, pl_eqv 40 40 y x h.1 hx, beq_comm]
theorem memD_cases {a b : D} {t : Bool} (h : memD a b = some t) : ∃ xs, (b = .lst xs ∨ b = .tup xs) ∧ D.pl 40 a = true ∧ D.pls 40 xs = true ∧ t = xs.any (D.beq a) := by
  unfold memD at h
  split at h
  · split at h
    · rename_i hc
      rw [Bool.and_eq_true] at hc
      exact ⟨_, .inl rfl, hc.1, hc.2, (Option.some.inj h).symm⟩
    · cases h
  · split at h
    · rename_i hc
      rw [Bool.and_eq_true] at hc
      exact ⟨_, .inr rfl, hc.1, hc.2, (Option.some.inj h).symm⟩
    · cases h
  · cases h
theorem op_inX (hu : X.A.units + 65 < cLine) : OpR X (compareOp .In) (rC X.K .mem) := by
  intro pins s σ H x y v u Q I rx ry h
  obtain ⟨a, b, t, ha, hb, e, q⟩ := h
  obtain ⟨xs, hb', h1, h2, rfl⟩ := memD_cases e
  have sx := shaped_of (by decide) h1
  obtain ⟨as, r1⟩ := Dp.reads I (toP a) x v (rep_dp a x (pl_sm _ _ h1) ha) rx
  rcases hb' with rfl | rfl
  · obtain ⟨bs, r2⟩ := Dp.reads I (toP (.lst xs)) y u (rep_dp (.lst xs) y (by unfold D.sm; exact pls_sm _ _ h2) hb) ry
    exact SeqAt.in_list_reads r2 r1 (pls_lay _ _ h2).1 (SeqAt.canLay_of_shaped sx) (room_in_shaped sx hu) (by rw [any_eqv h1 xs h2]; exact ⟨.bl _, H, I, rfl, q⟩)
  · obtain ⟨bs, r2⟩ := Dp.reads I (toP (.tup xs)) y u (rep_dp (.tup xs) y (by unfold D.sm; exact pls_sm _ _ h2) hb) ry
    exact SeqAt.in_tuple_reads r2 r1 (pls_lay _ _ h2).1 (SeqAt.canLay_of_shaped sx) (room_in_shaped sx hu) (by rw [any_eqv h1 xs h2]; exact ⟨.bl _, H, I, rfl, q⟩)
theorem op_ninX (hu : X.A.units + 65 < cLine) : OpR X (compareOp .NotIn) (rC X.K .nmem) := by
  intro pins s σ H x y v u Q I rx ry h
  obtain ⟨a, b, t, ha, hb, e, q⟩ := h
  have e : (memD a b).map not = some t := e
  cases e' : memD a b with
  | none => rw [e'] at e; cases e
  | some t' =>
    rw [e'] at e
    have e : (!t') = t := Option.some.inj e
    subst e
    obtain ⟨xs, hb', h1, h2, rfl⟩ := memD_cases e'
    have sx := shaped_of (by decide) h1
    obtain ⟨as, r1⟩ := Dp.reads I (toP a) x v (rep_dp a x (pl_sm _ _ h1) ha) rx
    rcases hb' with rfl | rfl
    · obtain ⟨bs, r2⟩ := Dp.reads I (toP (.lst xs)) y u (rep_dp (.lst xs) y (by unfold D.sm; exact pls_sm _ _ h2) hb) ry
      exact SeqAt.notIn_list_reads r2 r1 (pls_lay _ _ h2).1 (SeqAt.canLay_of_shaped sx) (room_in_shaped sx hu) (by rw [any_eqv h1 xs h2]; exact ⟨.bl _, H, I, rfl, q⟩)
    · obtain ⟨bs, r2⟩ := Dp.reads I (toP (.tup xs)) y u (rep_dp (.tup xs) y (by unfold D.sm; exact pls_sm _ _ h2) hb) ry
      exact SeqAt.notIn_tuple_reads r2 r1 (pls_lay _ _ h2).1 (SeqAt.canLay_of_shaped sx) (room_in_shaped sx hu) (by rw [any_eqv h1 xs h2]; exact ⟨.bl _, H, I, rfl, q⟩)
/-- ints by an operator -/
def rA (o : Bop) : R2 := fun x y H Q => ∃ i j r, x = .int i ∧ y = .int j ∧ binD o (.int i) (.int j) = some (.int r) ∧ Q (.int r) H
theorem op_addX : OpR X (binaryOp .Add) (rA .add) := by
  intro pins s σ H x y v u Q I rx ry h
  obtain ⟨i, j, r, rfl, rfl, e, q⟩ := h
  simp only [binD, Option.some.injEq, D.int.injEq] at e
  subst e
  exact op_add pins s σ H _ _ v u Q I rx ry ⟨_, _, rfl, rfl, q⟩
theorem op_subX : OpR X (binaryOp .Sub) (rA .sub) := by
  intro pins s σ H x y v u Q I rx ry h
  obtain ⟨i, j, r, rfl, rfl, e, q⟩ := h
  simp only [binD, Option.some.injEq, D.int.injEq] at e
  subst e
  exact op_sub pins s σ H _ _ v u Q I rx ry ⟨_, _, rfl, rfl, q⟩
theorem op_mulX : OpR X (binaryOp .Mult) (rA .mul) := by
  intro pins s σ H x y v u Q I rx ry h
  obtain ⟨i, j, r, rfl, rfl, e, q⟩ := h
  simp only [binD] at e
  split at e
  · rename_i hc
    simp only [Option.some.injEq, D.int.injEq] at e
    subst e
    unfold mulOk at hc
    simp only [Bool.or_eq_true, decide_eq_true_eq] at hc
    rcases hc with (hc | hc) | hc
    · exact op_mul pins s σ H _ _ v u Q I rx ry ⟨_, _, rfl, rfl, .inl (by omega), q⟩
    · exact op_mul pins s σ H _ _ v u Q I rx ry ⟨_, _, rfl, rfl, .inr (by omega), q⟩
    · exact op_mulW pins s σ H _ _ v u Q I rx ry ⟨_, _, rfl, rfl, hc, q⟩
  · cases e
theorem op_fdivX : OpR X (binaryOp .FloorDiv) (rA .fdiv) := by
  intro pins s σ H x y v u Q I rx ry h
  obtain ⟨i, j, r, rfl, rfl, e, q⟩ := h
  simp only [binD] at e
  split at e
  · rename_i hc
    simp only [Option.some.injEq, D.int.injEq] at e
    subst e
    unfold divOk at hc
    simp only [Bool.and_eq_true, decide_eq_true_eq] at hc
    have op : OpR X (binaryOp .FloorDiv) (rI (fun _ j => j ≠ 0 ∧ j.natAbs.log2 < 9000) fun i j => .int (i.fdiv j)) := opI fun i j _ _ _ _ _ hc q => floordiv_int hc.1 q (.inl (PyProof.noPylong_of_log2 hc.2))
    exact op pins s σ H _ _ v u Q I rx ry ⟨_, _, rfl, rfl, hc, q⟩
  · cases e
theorem op_modX : OpR X (binaryOp .Mod) (rA .mod) := by
  intro pins s σ H x y v u Q I rx ry h
  obtain ⟨i, j, r, rfl, rfl, e, q⟩ := h
  simp only [binD] at e
  split at e
  · rename_i hc
    simp only [Option.some.injEq, D.int.injEq] at e
    subst e
    exact op_modN pins s σ H _ _ v u Q I rx ry ⟨_, _, rfl, rfl, hc, q⟩
  · cases e
theorem op_powX : OpR X (binaryOp .Pow) (rA .pow) := by
  intro pins s σ H x y v u Q I rx ry h
  obtain ⟨i, j, r, rfl, rfl, e, q⟩ := h
  simp only [binD] at e
  split at e
  · rename_i hc
    simp only [Option.some.injEq, D.int.injEq] at e
    subst e
    unfold powOk at hc
    simp only [Bool.and_eq_true, decide_eq_true_eq] at hc
    exact op_pow pins s σ H _ _ v u Q I rx ry ⟨_, _, rfl, rfl, ⟨hc.1.1, hc.1.2, hc.2⟩, q⟩
  · cases e
end
end Ev

/-! Expressions: rules over data. -/
namespace Ev
open PySem PySem.Spec PyProof.Rows L2

section
variable {X : Cx} {K : PySem.W.Frag} {φ : List Nat} {r ra rb : Res} {fa fb fc : Sem1} {a b e : Expr} {es : List Expr} {pos : Pos}
theorem own0 {H H0 : Hp} {F : Pa} {d : D} {v : V} (h : Rep K F H d v) : (Res.own 0).ok K H0 F H d v := ⟨[], ⟨rfl, h⟩, List.nodup_nil, fun _ h => nomatch h⟩
theorem of0 {H H0 : Hp} {F : Pa} {d : D} {v : V} (h : (Res.own 0).ok K H0 F H d v) : Rep K F H d v := by
  obtain ⟨S, h, _⟩ := h
  exact h.2
theorem bor_of {H H0 : Hp} {F : Pa} {d : D} {v : V} (h : Res.bor.ok K H0 F H d v) : Rep K Any H d v := h
/-- a plain value -/
def sv : D → Option V
  | .non => some .non
  | .bl b => some (.bl b)
  | .int i => some (.int i)
  | .str s => some (.str s)
  | _ => none
theorem sv_rep {H : Hp} {F : Pa} {d : D} {v : V} (h : sv d = some v) : Rep K F H d v := by
  cases d <;> simp only [sv, Option.some.injEq, reduceCtorEq] at h <;> (unfold Rep; exact h.symm)
theorem sv_of {H : Hp} {F : Pa} {d : D} {v w : V} (h : sv d = some v) (r : Rep K F H d w) : w = v := by
  cases d <;> simp only [sv, Option.some.injEq, reduceCtorEq] at h <;> (unfold Rep at r; rw [r, h])
theorem r_const {d : D} {v : V} (h : PE X e (tC v)) (hv : sv d = some v) : PE X e (RdE K φ (.own 0) fun _ => some d) := by
  refine peI h fun σ H Q ⟨ρ, F, S, st, d', e, q⟩ => ?_
  cases e
  exact q v H F (.refl st.fo) (own0 (sv_rep hv))
theorem r_var {i k : Nat} (h : PE X e (tVar i)) (hk : φ[i]? = some k) : PE X e (RdE K φ (if k = 0 then .own 0 else .md k) fun ρ => getV ρ i) := by
  refine peI h fun σ H Q ⟨ρ, F, S, st, d, e, q⟩ => ?_
  try dsimp only at e
  unfold getV at e
  have hi : i < ρ.length := by
    rw [(st.sl.len).1]
    exact (List.getElem?_eq_some_iff.mp hk).1
  have e1 : ρ[i]? = some (ρ.getD i .bad) := by
    rw [List.getD_eq_getElem?_getD, List.getElem?_eq_getElem hi]
    rfl
  have hb : ρ.getD i .bad ≠ .bad ∧ ρ.getD i .bad = d := by
    have e' : (ρ.getD i .bad).ok = some d := e
    revert e'
    generalize ρ.getD i .bad = x
    intro e'
    cases x <;> simp only [D.ok, Option.some.injEq, reduceCtorEq] at e' <;> exact ⟨(fun h => nomatch h), e'⟩
  rw [hb.2] at e1
  obtain ⟨v, S1, hv, ho, _⟩ := st.get hk e1 (hb.2 ▸ hb.1)
  refine ⟨v, hv, q v H F (.refl st.fo) ?_⟩
  by_cases h0 : k = 0
  · subst h0
    rw [if_pos rfl]
    exact own0 ho.2
  · rw [if_neg h0]
    exact ho.m
/-- two in a row, then g -/
theorem r_two {g : D → D → Option D} {R : R2} {t : TE} (ha : PE X a (RdE K φ ra fa)) (hb : PE X b (RdE K φ rb fb))
    (he : ∀ {ta tb : TE}, PE X a ta → PE X b tb → PE X e (tOp R ta tb))
    (hs : ∀ x y d, g x y = some d → ∀ (F0 F1 F : Pa) (H0 H1 H : Hp) (v u : V) (Q : VK), Ext F0 H0 F1 H1 → Ext F1 H1 F H → ra.ok K H0 F1 H1 x v → rb.ok K H1 F H y u →
      (∀ w H' F', Ext F0 H0 F' H' → r.ok K H0 F' H' d w → Q w H') → R v u H Q) :
    PE X e (RdE K φ r fun ρ => (fa ρ).bind fun x => (fb ρ).bind fun y => g x y) := by
  refine peI (he ha hb) fun σ H Q ⟨ρ, F, S, st, d, e, q⟩ => ?_
  try dsimp only at e
  cases ex : fa ρ with
  | none => rw [ex] at e; cases e
  | some x =>
    rw [ex] at e
    cases ey : fb ρ with
    | none => simp only [Option.bind_some, ey, Option.bind_none, reduceCtorEq] at e
    | some y =>
      simp only [Option.bind_some, ey] at e
      refine ⟨ρ, F, S, st, x, ex, fun v H1 F1 e1 r1 => ⟨ρ, F1, S, st.ext e1, y, ey, fun u H2 F2 e2 r2 => ?_⟩⟩
      exact hs x y d e F F1 F2 H H1 H2 v u Q e1 e2 r1 r2 q
/-- one, then g -/
theorem r_one {g : D → Option D} {R : V → Hp → VK → Prop} (ha : PE X a (RdE K φ ra fa))
    (he : ∀ {ta : TE}, PE X a ta → PE X e (fun σ H Q => ta σ H fun x H1 => R x H1 Q))
    (hs : ∀ x d, g x = some d → ∀ (F0 F : Pa) (H0 H : Hp) (v : V) (Q : VK), Ext F0 H0 F H → ra.ok K H0 F H x v → (∀ w H' F', Ext F0 H0 F' H' → r.ok K H0 F' H' d w → Q w H') → R v H Q) :
    PE X e (RdE K φ r fun ρ => (fa ρ).bind g) := by
  refine peI (he ha) fun σ H Q ⟨ρ, F, S, st, d, e, q⟩ => ?_
  try dsimp only at e
  cases ex : fa ρ with
  | none => rw [ex] at e; cases e
  | some x =>
    rw [ex] at e
    refine ⟨ρ, F, S, st, x, ex, fun v H1 F1 e1 r1 => ?_⟩
    exact hs x d e F F1 H H1 v Q e1 r1 q
theorem binInt {o : Bop} {x y d : D} (ho : o = .add ∨ o = .sub ∨ o = .mul ∨ o = .fdiv ∨ o = .mod ∨ o = .pow) (h : binD o x y = some d) : ∃ i j r, x = .int i ∧ y = .int j ∧ d = .int r := by
  rcases ho with rfl | rfl | rfl | rfl | rfl | rfl <;> cases x <;> cases y <;> first
    | (simp [binD] at h; done)
    | (simp only [binD] at h
       first
         | (split at h
            · exact ⟨_, _, _, rfl, rfl, (Option.some.inj h).symm⟩
            · cases h)
         | exact ⟨_, _, _, rfl, rfl, (Option.some.inj h).symm⟩)
theorem r_arith {o : Bop} {op : Operator} (ho : o = .add ∨ o = .sub ∨ o = .mul ∨ o = .fdiv ∨ o = .mod ∨ o = .pow) (hop : OpR X (binaryOp op) (rA o)) (ha : PE X a (RdE K φ .bor fa)) (hb : PE X b (RdE K φ .bor fb)) :
    PE X (.BinOp a op b pos) (RdE K φ (.own 0) fun ρ => (fa ρ).bind fun x => (fb ρ).bind fun y => binD o x y) := by
  refine r_two (R := rA o) (t := fun _ _ _ => True) ha hb (fun h1 h2 => pe_op hop h1 h2) fun x y d e F0 F1 F H0 H1 H v u Q e1 e2 r1 r2 q => ?_
  obtain ⟨i, j, r, rfl, rfl, rfl⟩ := binInt ho e
  have h1 := rep_int (bor_of r1)
  have h2 := rep_int (bor_of r2)
  subst h1 h2
  exact ⟨i, j, r, rfl, rfl, e, q _ _ _ (e1.trans e2) (own0 (sv_rep rfl))⟩
theorem r_cmp {o : Cop} {op : CmpOp} (hop : OpR X (compareOp op) (rC K o)) (hm : behindInMarks op b = false) (ha : PE X a (RdE K φ .bor fa)) (hb : PE X b (RdE K φ .bor fb)) :
    PE X (.Compare a [op] [b] pos) (RdE K φ (.own 0) fun ρ => (fa ρ).bind fun x => (fb ρ).bind fun y => (cmpD o x y).map .bl) := by
  refine r_two (R := rC K o) (t := fun _ _ _ => True) ha hb (fun h1 h2 => pe_cmpR hop h1 h2 hm) fun x y d e F0 F1 F H0 H1 H v u Q e1 e2 r1 r2 q => ?_
  cases ec : cmpD o x y with
  | none => rw [ec] at e; cases e
  | some t =>
    rw [ec] at e
    cases e
    exact ⟨x, y, t, Rep.mono (bor_of r1) e2.same fun _ h => h, r2, ec, q _ _ _ (e1.trans e2) (own0 (sv_rep rfl))⟩
/-- .. as a test -/
theorem t_cmp {o : Cop} {op : CmpOp} (hop : OpR X (compareOp op) (rC K o)) (hm : behindInMarks op b = false) (ha : PE X a (RdE K φ .bor fa)) (hb : PE X b (RdE K φ .bor fb)) :
    PT X (.Compare a [op] [b] pos) (RdT K φ fun ρ => (fa ρ).bind fun x => (fb ρ).bind fun y => cmpD o x y) := by
  refine ptI (pt_cmpR hop ha hb hm) fun σ H Q ⟨ρ, F, S, st, d, e, q⟩ => ?_
  try dsimp only at e
  cases ex : fa ρ with
  | none => rw [ex] at e; cases e
  | some x =>
    rw [ex] at e
    cases ey : fb ρ with
    | none => simp only [Option.bind_some, ey, Option.bind_none, reduceCtorEq] at e
    | some y =>
      simp only [Option.bind_some, ey] at e
      refine ⟨ρ, F, S, st, x, ex, fun v H1 F1 e1 r1 => ⟨ρ, F1, S, st.ext e1, y, ey, fun u H2 F2 e2 r2 => ?_⟩⟩
      exact ⟨x, y, d, Rep.mono (bor_of r1) e2.same fun _ h => h, r2, e, d, rfl, q _ _ (e1.trans e2)⟩
theorem r_chain {o o' : Cop} {op op' : CmpOp} {c : Expr} (hop : OpR X (compareOp op) (rC K o)) (hop' : OpR X (compareOp op') (rC K o')) (ha : PE X a (RdE K φ .bor fa)) (hb : PE X b (RdE K φ .bor fb)) (hc : PE X c (RdE K φ .bor fc))
    (hh : ∀ {ta tb tc : TE}, PE X a ta → PE X b tb → PE X c tc → PE X e (tChain (rC K o) (rC K o') ta tb tc)) :
    PE X e (RdE K φ (.own 0) fun ρ => (fa ρ).bind fun x => (fb ρ).bind fun y => (cmpD o x y).bind fun t => if t then (fc ρ).bind fun z => (cmpD o' y z).map .bl else some (.bl false)) := by
  refine peI (hh ha hb hc) fun σ H Q ⟨ρ, F, S, st, d, e, q⟩ => ?_
  try dsimp only at e
  cases ex : fa ρ with
  | none => rw [ex] at e; cases e
  | some x =>
    rw [ex] at e
    cases ey : fb ρ with
    | none => simp only [Option.bind_some, ey, Option.bind_none, reduceCtorEq] at e
    | some y =>
      simp only [Option.bind_some, ey] at e
      cases ec : cmpD o x y with
      | none => rw [ec] at e; cases e
      | some t =>
        rw [ec] at e
        refine ⟨ρ, F, S, st, x, ex, fun v H1 F1 e1 r1 => ⟨ρ, F1, S, st.ext e1, y, ey, fun u H2 F2 e2 r2 => ?_⟩⟩
        refine ⟨x, y, t, Rep.mono (bor_of r1) e2.same fun _ h => h, r2, ec, t, rfl, ?_⟩
        cases t with
        | false =>
          cases e
          exact q _ _ _ (e1.trans e2) (own0 (sv_rep rfl))
        | true =>
          simp only [Option.bind_some, if_pos] at e
          cases ez : fc ρ with
          | none => rw [ez] at e; cases e
          | some z =>
            rw [ez] at e
            simp only [Option.bind_some] at e
            cases ec' : cmpD o' y z with
            | none => rw [ec'] at e; cases e
            | some t' =>
              rw [ec'] at e
              cases e
              refine ⟨ρ, F2, S, (st.ext e1).ext e2, z, ez, fun w H3 F3 e3 r3 => ?_⟩
              exact ⟨y, z, t', Rep.mono (bor_of r2) e3.same fun _ h => h, r3, ec', q _ _ _ ((e1.trans e2).trans e3) (own0 (sv_rep rfl))⟩
theorem t_chain {o o' : Cop} {op op' : CmpOp} {c : Expr} (hop : OpR X (compareOp op) (rC K o)) (hop' : OpR X (compareOp op') (rC K o')) (ha : PE X a (RdE K φ .bor fa)) (hb : PE X b (RdE K φ .bor fb)) (hc : PE X c (RdE K φ .bor fc))
    (hh : ∀ {ta tb tc : TE}, PE X a ta → PE X b tb → PE X c tc → PT X e (tTest (tChain (rC K o) (rC K o') ta tb tc))) :
    PT X e (RdT K φ fun ρ => (fa ρ).bind fun x => (fb ρ).bind fun y => (cmpD o x y).bind fun t => if t then (fc ρ).bind fun z => cmpD o' y z else some false) := by
  refine ptI (hh ha hb hc) fun σ H Q ⟨ρ, F, S, st, d, e, q⟩ => ?_
  try dsimp only at e
  cases ex : fa ρ with
  | none => rw [ex] at e; cases e
  | some x =>
    rw [ex] at e
    cases ey : fb ρ with
    | none => simp only [Option.bind_some, ey, Option.bind_none, reduceCtorEq] at e
    | some y =>
      simp only [Option.bind_some, ey] at e
      cases ec : cmpD o x y with
      | none => rw [ec] at e; cases e
      | some t =>
        rw [ec] at e
        refine ⟨ρ, F, S, st, x, ex, fun v H1 F1 e1 r1 => ⟨ρ, F1, S, st.ext e1, y, ey, fun u H2 F2 e2 r2 => ?_⟩⟩
        refine ⟨x, y, t, Rep.mono (bor_of r1) e2.same fun _ h => h, r2, ec, t, rfl, ?_⟩
        cases t with
        | false =>
          cases e
          exact ⟨_, rfl, q _ _ (e1.trans e2)⟩
        | true =>
          simp only [Option.bind_some, if_pos] at e
          cases ez : fc ρ with
          | none => rw [ez] at e; cases e
          | some z =>
            rw [ez] at e
            simp only [Option.bind_some] at e
            refine ⟨ρ, F2, S, (st.ext e1).ext e2, z, ez, fun w H3 F3 e3 r3 => ?_⟩
            exact ⟨y, z, d, Rep.mono (bor_of r2) e3.same fun _ h => h, r3, e, _, rfl, q _ _ ((e1.trans e2).trans e3)⟩
theorem r_neg (ha : PE X a (RdE K φ .bor fa)) : PE X (.UnaryOp .USub a pos) (RdE K φ (.own 0) fun ρ => (fa ρ).bind fun x => (intD x).map fun i => .int (-i)) := by
  refine r_one (R := rU fun i => .int (-i)) ha (fun h => pe_un un_neg h) fun x d e F0 F H0 H v Q e1 r1 q => ?_
  cases x <;> simp only [intD, Option.map_none, Option.map_some, Option.some.injEq, reduceCtorEq] at e
  subst e
  have h1 := rep_int (bor_of r1)
  subst h1
  exact ⟨_, rfl, q _ _ _ e1 (own0 (sv_rep rfl))⟩
theorem rep_isN {H : Hp} {F : Pa} {d : D} {v : V} (r : Rep K F H d v) : (decide (v = .non)) = D.isNon d := by
  cases d
  · unfold Rep at r; exact r.elim
  · unfold Rep at r; subst r; rfl
  all_goals first
    | (unfold Rep at r; subst r; rfl)
    | (unfold Rep at r; obtain ⟨a, vs, rfl, _⟩ := r; rfl)
    | (unfold Rep at r; obtain ⟨a, rfl, _⟩ := r; rfl)
theorem rep_noN {H : Hp} {F : Pa} {d : D} {v : V} (r : Rep K F H d v) : (!decide (v = .non)) = !D.isNon d := by
  rw [rep_isN r]
theorem r_isN {j pos'} (ha : PE X a (RdE K φ .bor fa)) : PE X (.Compare a [.Is] [.Constant .none j pos'] pos) (RdE K φ (.own 0) fun ρ => (fa ρ).map fun x => .bl (D.isNon x)) := by
  have := r_one (r := .own 0) (g := fun x => some (.bl (D.isNon x))) (R := fun x H Q => Q (.bl (decide (x = .non))) H) (e := .Compare a [.Is] [.Constant .none j pos'] pos) ha
    (fun h => pe_cmp (pc_isN h) rfl) fun x d e F0 F H0 H v Q e1 r1 q => by
      cases e
      rw [rep_isN (bor_of r1)]
      exact q _ _ _ e1 (own0 (sv_rep rfl))
  refine peI this fun σ H Q ⟨ρ, F, S, st, d, e, q⟩ => ⟨ρ, F, S, st, d, ?_, q⟩
  dsimp only at e ⊢
  cases h : fa ρ <;> rw [h] at e <;> exact e
theorem r_noN {j pos'} (ha : PE X a (RdE K φ .bor fa)) : PE X (.Compare a [.IsNot] [.Constant .none j pos'] pos) (RdE K φ (.own 0) fun ρ => (fa ρ).map fun x => .bl (!D.isNon x)) := by
  have := r_one (r := .own 0) (g := fun x => some (.bl (!D.isNon x))) (R := fun x H Q => Q (.bl (!decide (x = .non))) H) (e := .Compare a [.IsNot] [.Constant .none j pos'] pos) ha
    (fun h => pe_cmp (pc_notN h) rfl) fun x d e F0 F H0 H v Q e1 r1 q => by
      cases e
      rw [rep_noN (bor_of r1)]
      exact q _ _ _ e1 (own0 (sv_rep rfl))
  refine peI this fun σ H Q ⟨ρ, F, S, st, d, e, q⟩ => ⟨ρ, F, S, st, d, ?_, q⟩
  dsimp only at e ⊢
  cases h : fa ρ <;> rw [h] at e <;> exact e
theorem t_isN {j pos'} (ha : PE X a (RdE K φ .bor fa)) : PT X (.Compare a [.Is] [.Constant .none j pos'] pos) (RdT K φ fun ρ => (fa ρ).map fun x => D.isNon x) := by
  refine ptI (pt_cmp (pc_isN ha) rfl) fun σ H Q ⟨ρ, F, S, st, d, e, q⟩ => ?_
  try dsimp only at e
  cases ex : fa ρ with
  | none => rw [ex] at e; cases e
  | some x =>
    rw [ex] at e
    refine ⟨ρ, F, S, st, x, ex, fun v H1 F1 e1 r1 => ⟨d, ?_, q _ _ e1⟩⟩
    rw [rep_isN (bor_of r1)]
    exact congrArg V.bl (Option.some.inj e)
theorem t_noN {j pos'} (ha : PE X a (RdE K φ .bor fa)) : PT X (.Compare a [.IsNot] [.Constant .none j pos'] pos) (RdT K φ fun ρ => (fa ρ).map fun x => !D.isNon x) := by
  refine ptI (pt_cmp (pc_notN ha) rfl) fun σ H Q ⟨ρ, F, S, st, d, e, q⟩ => ?_
  try dsimp only at e
  cases ex : fa ρ with
  | none => rw [ex] at e; cases e
  | some x =>
    rw [ex] at e
    refine ⟨ρ, F, S, st, x, ex, fun v H1 F1 e1 r1 => ⟨d, ?_, q _ _ e1⟩⟩
    rw [rep_noN (bor_of r1)]
    exact congrArg V.bl (Option.some.inj e)

/-! ### and, or, not, if -/
theorem bind_some {α β : Type} {o : Option α} {f : α → Option β} {d : β} (h : o.bind f = some d) : ∃ x, o = some x ∧ f x = some d := by
  cases o with
  | none => cases h
  | some x => exact ⟨x, rfl, h⟩
theorem blD_of {x : D} {t : Bool} (h : blD x = some t) : x = .bl t := by
  cases x <;> simp only [blD, Option.some.injEq, reduceCtorEq] at h
  rw [h]
theorem r_and (hr : r = .own 0 ∨ r = .bor) (ha : PE X a (RdE K φ .bor fa)) (hb : PE X b (RdE K φ r fb)) (he : ∀ {ta tb : TE}, PE X a ta → PE X b tb → PE X e (tAndV ta tb)) :
    PE X e (RdE K φ r fun ρ => (fa ρ).bind fun x => (blD x).bind fun t => if t then fb ρ else some (.bl false)) := by
  refine peI (he ha hb) fun σ H Q ⟨ρ, F, S, st, d, e, q⟩ => ?_
  try dsimp only at e
  obtain ⟨x, ex, e⟩ := bind_some e
  obtain ⟨t, et, e⟩ := bind_some e
  have := blD_of et
  subst this
  refine ⟨ρ, F, S, st, _, ex, fun v H1 F1 e1 r1 => ⟨t, rep_bl (bor_of r1), ?_⟩⟩
  cases t with
  | false =>
    rw [if_neg (by decide)]
    cases e
    refine q _ _ _ e1 ?_
    rcases hr with rfl | rfl
    · exact own0 (sv_rep rfl)
    · exact sv_rep rfl
  | true =>
    rw [if_pos rfl]
    exact ⟨ρ, F1, S, st.ext e1, d, e, fun u H2 F2 e2 r2 => q _ _ _ (e1.trans e2) (Res.lift r2 e1.same)⟩
theorem r_or (hr : r = .own 0 ∨ r = .bor) (ha : PE X a (RdE K φ .bor fa)) (hb : PE X b (RdE K φ r fb)) (he : ∀ {ta tb : TE}, PE X a ta → PE X b tb → PE X e (tOrV ta tb)) :
    PE X e (RdE K φ r fun ρ => (fa ρ).bind fun x => (blD x).bind fun t => if t then some (.bl true) else fb ρ) := by
  refine peI (he ha hb) fun σ H Q ⟨ρ, F, S, st, d, e, q⟩ => ?_
  try dsimp only at e
  obtain ⟨x, ex, e⟩ := bind_some e
  obtain ⟨t, et, e⟩ := bind_some e
  have := blD_of et
  subst this
  refine ⟨ρ, F, S, st, _, ex, fun v H1 F1 e1 r1 => ⟨t, rep_bl (bor_of r1), ?_⟩⟩
  cases t with
  | true =>
    rw [if_pos rfl]
    cases e
    refine q _ _ _ e1 ?_
    rcases hr with rfl | rfl
    · exact own0 (sv_rep rfl)
    · exact sv_rep rfl
  | false =>
    rw [if_neg (by decide)]
    exact ⟨ρ, F1, S, st.ext e1, d, e, fun u H2 F2 e2 r2 => q _ _ _ (e1.trans e2) (Res.lift r2 e1.same)⟩
theorem r_not (ha : PE X a (RdE K φ .bor fa)) : PE X (.UnaryOp .Not a pos) (RdE K φ (.own 0) fun ρ => (fa ρ).bind fun x => (blD x).map fun t => .bl (!t)) := by
  refine r_one (R := fun x H Q => ∃ c, x = .bl c ∧ Q (.bl (!c)) H) ha (fun h => pe_not h) fun x d e F0 F H0 H v Q e1 r1 q => ?_
  cases x <;> simp only [blD, Option.map_none, Option.map_some, Option.some.injEq, reduceCtorEq] at e
  subst e
  exact ⟨_, rep_bl (bor_of r1), q _ _ _ e1 (own0 (sv_rep rfl))⟩
theorem r_ifx {c : Expr} {ft : List D → Option Bool} (hc : PT X c (RdT K φ ft)) (ha : PE X a (RdE K φ r fa)) (hb : PE X b (RdE K φ r fb)) :
    PE X (.IfExp c a b pos) (RdE K φ r fun ρ => (ft ρ).bind fun t => if t then fa ρ else fb ρ) := by
  refine peI (pe_ifExp hc ha hb) fun σ H Q ⟨ρ, F, S, st, d, e, q⟩ => ?_
  try dsimp only at e
  obtain ⟨t, et, e⟩ := bind_some e
  refine ⟨ρ, F, S, st, t, et, fun H1 F1 e1 => ?_⟩
  cases t with
  | true =>
    rw [if_pos rfl]
    exact ⟨ρ, F1, S, st.ext e1, d, e, fun u H2 F2 e2 r2 => q _ _ _ (e1.trans e2) (Res.lift r2 e1.same)⟩
  | false =>
    rw [if_neg (by decide)]
    exact ⟨ρ, F1, S, st.ext e1, d, e, fun u H2 F2 e2 r2 => q _ _ _ (e1.trans e2) (Res.lift r2 e1.same)⟩
theorem t_and {fa fb : List D → Option Bool} (ha : PT X a (RdT K φ fa)) (hb : PW X b (RdT K φ fb)) (he : ∀ {ta tb : TT}, PT X a ta → PW X b tb → PW X e (tAnd ta tb)) :
    PW X e (RdT K φ fun ρ => (fa ρ).bind fun t => if t then fb ρ else some false) := by
  refine pwI (he ha hb) fun σ H Q ⟨ρ, F, S, st, d, e, q⟩ => ?_
  try dsimp only at e
  obtain ⟨t, et, e⟩ := bind_some e
  refine ⟨ρ, F, S, st, t, et, fun H1 F1 e1 => ?_⟩
  cases t with
  | true =>
    rw [if_pos rfl]
    exact ⟨ρ, F1, S, st.ext e1, d, e, fun H2 F2 e2 => q _ _ (e1.trans e2)⟩
  | false =>
    rw [if_neg (by decide)]
    cases e
    exact q _ _ e1
theorem t_or {fa fb : List D → Option Bool} (ha : PT X a (RdT K φ fa)) (hb : PW X b (RdT K φ fb)) (he : ∀ {ta tb : TT}, PT X a ta → PW X b tb → PW X e (tOr ta tb)) :
    PW X e (RdT K φ fun ρ => (fa ρ).bind fun t => if t then some true else fb ρ) := by
  refine pwI (he ha hb) fun σ H Q ⟨ρ, F, S, st, d, e, q⟩ => ?_
  try dsimp only at e
  obtain ⟨t, et, e⟩ := bind_some e
  refine ⟨ρ, F, S, st, t, et, fun H1 F1 e1 => ?_⟩
  cases t with
  | false =>
    rw [if_neg (by decide)]
    exact ⟨ρ, F1, S, st.ext e1, d, e, fun H2 F2 e2 => q _ _ (e1.trans e2)⟩
  | true =>
    rw [if_pos rfl]
    cases e
    exact q _ _ e1
theorem t_not {fa : List D → Option Bool} (ha : PT X a (RdT K φ fa)) : PT X (.UnaryOp .Not a pos) (RdT K φ fun ρ => (fa ρ).map not) := by
  refine ptI (pt_not ha) fun σ H Q ⟨ρ, F, S, st, d, e, q⟩ => ?_
  try dsimp only at e
  cases ex : fa ρ with
  | none => rw [ex] at e; cases e
  | some t =>
    rw [ex] at e
    cases e
    exact ⟨ρ, F, S, st, t, ex, fun H1 F1 e1 => q _ _ e1⟩
theorem isE_len {α β : Type} : ∀ {xs : List α} {ys : List β}, xs.length = ys.length → xs.isEmpty = ys.isEmpty
  | [], [], _ => rfl
  | [], _ :: _, h => by simp at h
  | _ :: _, [], h => by simp at h
  | _ :: _, _ :: _, _ => rfl
theorem tru_rep {H : Hp} {F : Pa} {d : D} {v : V} {t : Bool} (r : Rep K F H d v) (h : truD d = some t) : TruV K v H t := by
  cases d <;> simp only [truD, Option.some.injEq, reduceCtorEq] at h
  · unfold Rep at r; subst r; exact h.symm
  · unfold Rep at r; subst r; exact h.symm
  · unfold Rep at r; subst r; exact h.symm
  · unfold Rep at r
    obtain ⟨a, vs, rfl, t, q⟩ := r
    exact .inr (.inl ⟨vs, t.sq, by rw [isE_len (AllR.len (reps_iff.mp q)), h]⟩)
  · unfold Rep at r
    obtain ⟨a, vs, rfl, t, q⟩ := r
    exact .inl ⟨vs, t.sq, by rw [isE_len (AllR.len (reps_iff.mp q)), h]⟩
/-- any expression as a test, by its value's truth -/
theorem t_val (ha : PE X a (RdE X.K φ .bor fa)) (he : ∀ whole, isTrue a X.env whole = (do let v ← whole; standAt a.pos; holding [v] (truthy v))) : PT X a (RdT X.K φ fun ρ => (fa ρ).bind truD) := by
  refine ptI (pt_truth ha he) fun σ H Q ⟨ρ, F, S, st, d, e, q⟩ => ?_
  try dsimp only at e
  obtain ⟨x, ex, e⟩ := bind_some e
  exact ⟨ρ, F, S, st, x, ex, fun v H1 F1 e1 r1 => ⟨d, tru_rep (bor_of r1) e, q _ _ e1⟩⟩
end
end Ev

/-! Displays, arguments, subscripts, slices, calls. -/
namespace Ev
open PySem PySem.Spec PyProof.Rows L2

section
variable {X : Cx} {K : PySem.W.Frag} {φ : List Nat} {r ra rb : Res} {fa fb fc : Sem1} {fs : List D → Option (List D)} {a b e : Expr} {es : List Expr} {pos : Pos}
theorem AllR.len' {p : D → V → Prop} {ds : List D} {vs : List V} (h : AllR p ds vs) : vs.length = ds.length := AllR.len h
theorem reps_of {P : Pa} {H : Hp} {ds : List D} {vs : List V} (h : AllR (Rep K P H) ds vs) : Reps K P H ds vs := reps_iff.mpr h

theorem a_nil : PA X [] (RdA K φ r fun _ => some []) := by
  refine paI pa_nil fun σ H Q ⟨ρ, F, S, st, ds, e, q⟩ => ?_
  cases e
  refine q [] H F (.refl st.fo) ?_
  cases r with
  | own k => exact ⟨[], ⟨rfl, rfl⟩, List.nodup_nil, fun _ h => nomatch h⟩
  | md m => exact rfl
  | bor => exact rfl
theorem a_cons (he : PE X e (RdE K φ r fa)) (hr : PA X es (RdA K φ r fs)) (hp : plainE e = true) : PA X (e :: es) (RdA K φ r fun ρ => (fa ρ).bind fun d => (fs ρ).map fun ds => d :: ds) := by
  refine paI (pa_cons he hr (plain_star hp es X.env)) fun σ H Q ⟨ρ, F, S, st, ds, e, q⟩ => ?_
  dsimp only at e
  obtain ⟨x, ex, e⟩ := bind_some e
  cases es' : fs ρ with
  | none => rw [es'] at e; cases e
  | some xs =>
    rw [es'] at e
    cases e
    refine ⟨ρ, F, S, st, x, ex, fun v H1 F1 e1 r1 => ⟨ρ, F1, S, st.ext e1, xs, es', fun vs H2 F2 e2 r2 => ?_⟩⟩
    refine q _ _ _ (e1.trans e2) ?_
    have r1' := Res.mono r1 e2
    cases r with
    | own k =>
      obtain ⟨S2, h2, n2, d2⟩ := r2
      obtain ⟨S1, h1, n1, d1⟩ := r1
      obtain ⟨S1', h1', n1', d1'⟩ := r1'
      refine ⟨S1 ++ S2, ⟨v, vs, S1, S2, rfl, rfl, h1.mono e2.same e2.up, h2⟩, ?_, ?_⟩
      · rw [List.nodup_append]
        refine ⟨n1, n2, fun a ha b hb z => ?_⟩
        subst z
        have := h1.there a ha
        rw [(d2 a hb).1] at this
        cases this
      · intro a ha
        rcases List.mem_append.mp ha with ha | ha
        · refine ⟨(d1 a ha).1, fun hf => ?_⟩
          rcases e2.new a hf with hf | hf
          · exact (d1 a ha).2 hf
          · have := h1.there a ha
            rw [hf] at this
            cases this
        · exact ⟨e1.same.free (d2 a ha).1, (d2 a ha).2⟩
    | md m => exact ⟨v, vs, rfl, r1', r2⟩
    | bor => exact ⟨v, vs, rfl, r1', r2⟩
theorem a_weak {r r' : Res} (h : PA X es (RdA K φ r fs)) (hl : r = .md 0 ∧ r' = .bor ∨ r = .md 1 ∧ r' = .bor ∨ r = r') : PA X es (RdA K φ r' fs) := by
  refine paI h fun σ H Q ⟨ρ, F, S, st, ds, e, q⟩ => ⟨ρ, F, S, st, ds, e, fun vs H' F' x hr => q vs H' F' x ?_⟩
  rcases hl with ⟨rfl, rfl⟩ | ⟨rfl, rfl⟩ | rfl
  · exact AllR.imp (show AllR (RepM K F' H' 0) ds vs from hr) fun d v _ h => RepM.any h
  · exact AllR.imp (show AllR (RepM K F' H' 1) ds vs from hr) fun d v _ h => RepM.any h
  · exact hr
theorem Oks.len {r : Res} {H0 H : Hp} {F : Pa} {ds : List D} {vs : List V} (h : Oks r K H0 F H ds vs) : vs.length = ds.length := by
  cases r with
  | own k => obtain ⟨S, h, _⟩ := h; exact AllO.len h
  | md m => exact AllR.len (p := fun d v => (Res.md m).ok K H0 F H d v) h
  | bor => exact AllR.len (p := fun d v => Res.bor.ok K H0 F H d v) h
theorem SL_eq : SL = sizeLine := by rw [sizeLine_eq]
theorem r_tup {kk : Nat} (h : PA X es (RdA K φ (.md 0) fs)) (hl : ∀ ρ ds, fs ρ = some ds → ds.length ≤ SL) : PE X (.Tuple es kk pos) (RdE K φ (.own 0) fun ρ => (fs ρ).map .tup) := by
  refine peI (pe_tup h) fun σ H Q ⟨ρ, F, S, st, d, e, q⟩ => ?_
  dsimp only at e
  cases es' : fs ρ with
  | none => rw [es'] at e; cases e
  | some ds =>
    rw [es'] at e
    cases e
    refine ⟨ρ, F, S, st, ds, es', fun vs H1 F1 e1 r1 => ⟨by rw [Oks.len r1, ← SL_eq]; exact hl ρ ds es', fun p hp => ?_⟩⟩
    have e2 := Ext.laidF (o := .tup vs) e1.fo hp
    refine q _ _ _ (e1.trans e2) (own0 ?_)
    unfold Rep
    exact ⟨p, vs, rfl, .inl ⟨.inl upd_same, .inr rfl⟩, reps_of (AllR.imp (show AllR (Rep K F1 H1) ds vs from r1) fun d v _ h => h.mono e2.same e2.up)⟩
theorem r_tupB {kk : Nat} (h : PA X es (RdA K φ .bor fs)) (hl : ∀ ρ ds, fs ρ = some ds → ds.length ≤ SL) : PE X (.Tuple es kk pos) (RdE K φ .bor fun ρ => (fs ρ).map .tup) := by
  refine peI (pe_tup h) fun σ H Q ⟨ρ, F, S, st, d, e, q⟩ => ?_
  dsimp only at e
  cases es' : fs ρ with
  | none => rw [es'] at e; cases e
  | some ds =>
    rw [es'] at e
    cases e
    refine ⟨ρ, F, S, st, ds, es', fun vs H1 F1 e1 r1 => ⟨by rw [Oks.len r1, ← SL_eq]; exact hl ρ ds es', fun p hp => ?_⟩⟩
    have e2 := Ext.laid (o := .tup vs) e1.fo hp
    refine q _ _ _ (e1.trans e2) ?_
    show Rep K Any _ (.tup ds) _
    unfold Rep
    exact ⟨p, vs, rfl, .inl ⟨.inl upd_same, trivial⟩, reps_of (AllR.imp (show AllR (Rep K Any H1) ds vs from r1) fun d v _ h => h.mono e2.same fun _ h => h)⟩
theorem fresh_own {k : Nat} {F1 : Pa} {H H1 : Hp} {ds : List D} {vs : List V} {p : Addr} {S : List Addr} (fo : ∀ a, F1 a → (H1 a).isSome = true) (hs : Same H H1) (hp : H1 p = none) (h : AllO (Own K F1 H1 k) ds vs S) (nd : S.Nodup) (hd : ∀ a ∈ S, H a = none ∧ ¬ F1 a) :
    (Res.own (k + 1)).ok K H F1 (upd H1 p (.lst vs)) (.lst ds) (.ref p) := by
  have there : ∀ a ∈ S, (H1 a).isSome = true := by
    have go : ∀ {ds : List D} {vs : List V} {S : List Addr}, AllO (Own K F1 H1 k) ds vs S → ∀ b ∈ S, (H1 b).isSome = true := by
      intro ds
      induction ds with
      | nil => intro vs S h b hb; rw [h.2] at hb; cases hb
      | cons d ds ih =>
        rintro vs S ⟨v, r, S1, S2, e, e2, h1, h2⟩ b hb
        subst e2
        rcases List.mem_append.mp hb with hb | hb
        · exact Own.there h1 b hb
        · exact ih h2 b hb
    exact go h
  refine ⟨p :: S, ⟨p, vs, S, rfl, upd_same, h.imp fun d v S' _ h => h.mono (same_upd hp) fun _ h => h, rfl⟩, ?_, ?_⟩
  · rw [List.nodup_cons]
    refine ⟨fun hm => ?_, nd⟩
    have := there p hm
    rw [hp] at this
    cases this
  · intro a ha
    rcases List.mem_cons.mp ha with rfl | ha
    · refine ⟨hs.free hp, fun hf => ?_⟩
      have := fo a hf
      rw [hp] at this
      cases this
    · exact hd a ha
theorem fresh_own1 {F1 : Pa} {H H1 : Hp} {ds : List D} {vs : List V} {p : Addr} (fo : ∀ a, F1 a → (H1 a).isSome = true) (hs : Same H H1) (hp : H1 p = none) (h : AllR (Rep K F1 H1) ds vs) :
    (Res.own 1).ok K H F1 (upd H1 p (.lst vs)) (.lst ds) (.ref p) :=
  fresh_own fo hs hp (AllO.of0 h fun d v r => ⟨rfl, r⟩) List.nodup_nil fun _ h => nomatch h
theorem r_lst {k : Nat} (h : PA X es (RdA K φ (.own k) fs)) (hl : ∀ ρ ds, fs ρ = some ds → ds.length ≤ SL) : PE X (.List es pos) (RdE K φ (.own (k + 1)) fun ρ => (fs ρ).map .lst) := by
  refine peI (pe_lst h) fun σ H Q ⟨ρ, F, S, st, d, e, q⟩ => ?_
  dsimp only at e
  cases es' : fs ρ with
  | none => rw [es'] at e; cases e
  | some ds =>
    rw [es'] at e
    cases e
    refine ⟨ρ, F, S, st, ds, es', fun vs H1 F1 e1 r1 => ⟨by rw [Oks.len r1, ← SL_eq]; exact hl ρ ds es', fun p hp => ?_⟩⟩
    have e2 := Ext.laid (o := .lst vs) e1.fo hp
    obtain ⟨S1, h1, n1, d1⟩ := r1
    exact q _ _ _ (e1.trans e2) (fresh_own e1.fo e1.same hp h1 n1 d1)
theorem r_lstB (h : PA X es (RdA K φ .bor fs)) (hl : ∀ ρ ds, fs ρ = some ds → ds.length ≤ SL) : PE X (.List es pos) (RdE K φ .bor fun ρ => (fs ρ).map .lst) := by
  refine peI (pe_lst h) fun σ H Q ⟨ρ, F, S, st, d, e, q⟩ => ?_
  dsimp only at e
  cases es' : fs ρ with
  | none => rw [es'] at e; cases e
  | some ds =>
    rw [es'] at e
    cases e
    refine ⟨ρ, F, S, st, ds, es', fun vs H1 F1 e1 r1 => ⟨by rw [Oks.len r1, ← SL_eq]; exact hl ρ ds es', fun p hp => ?_⟩⟩
    have e2 := Ext.laid (o := .lst vs) e1.fo hp
    refine q _ _ _ (e1.trans e2) ?_
    show Rep K Any _ (.lst ds) _
    unfold Rep
    exact ⟨p, vs, rfl, ⟨upd_same, trivial⟩, reps_of (AllR.imp (show AllR (Rep K Any H1) ds vs from r1) fun d v _ h => h.mono e2.same fun _ h => h)⟩

/-! ### lists and tuples by operators -/
theorem rep_lst {P : Pa} {H : Hp} {ds : List D} {v : V} (h : Rep K P H (.lst ds) v) : ∃ a vs, v = .ref a ∧ LA K P H a vs ∧ AllR (Rep K P H) ds vs := by
  unfold Rep at h
  obtain ⟨a, vs, e, t, r⟩ := h
  exact ⟨a, vs, e, t, reps_iff.mp r⟩
theorem rep_tup {P : Pa} {H : Hp} {ds : List D} {v : V} (h : Rep K P H (.tup ds) v) : ∃ a vs, v = .ref a ∧ TA' K P H a vs ∧ AllR (Rep K P H) ds vs := by
  unfold Rep at h
  obtain ⟨a, vs, e, t, r⟩ := h
  exact ⟨a, vs, e, t, reps_iff.mp r⟩
theorem rep_scr {P : Pa} {H : Hp} {ds : List D} {v : V} (h : Rep K P H (.scr ds) v) : ∃ a vs, v = .ref a ∧ LS K P H a vs ∧ AllR (Rep K P H) ds vs := by
  unfold Rep at h
  obtain ⟨a, vs, e, t, r⟩ := h
  exact ⟨a, vs, e, t, reps_iff.mp r⟩
theorem mk_lst {P : Pa} {H : Hp} {ds : List D} {a : Addr} {vs : List V} (h : H a = some (.lst vs)) (p : P a) (r : AllR (Rep K P H) ds vs) : Rep K P H (.lst ds) (.ref a) := by
  unfold Rep
  exact ⟨a, vs, rfl, ⟨h, p⟩, reps_of r⟩
theorem mk_tup {P : Pa} {H : Hp} {ds : List D} {a : Addr} {vs : List V} (h : H a = some (.tup vs)) (p : P a) (r : AllR (Rep K P H) ds vs) : Rep K P H (.tup ds) (.ref a) := by
  unfold Rep
  exact ⟨a, vs, rfl, .inl ⟨.inl h, p⟩, reps_of r⟩
theorem all_mono {P P' : Pa} {H H' : Hp} {ds : List D} {vs : List V} (h : AllR (Rep K P H) ds vs) (s : Same H H') (p : ∀ a, P a → P' a) : AllR (Rep K P' H') ds vs := h.imp fun d v _ h => h.mono s p
theorem catD_some {α : Type} {xs ys zs : List α} (h : catD xs ys = some zs) : zs = xs ++ ys ∧ xs.length + ys.length ≤ SL := by
  unfold catD at h
  split at h
  · exact ⟨(Option.some.inj h).symm, by assumption⟩
  · cases h
theorem catL_cases {k : Nat} {x y d : D} (h : binD (.catL k) x y = some d) : ∃ xs ys, x = .lst xs ∧ y = .lst ys ∧ d = .lst (xs ++ ys) ∧ xs.length + ys.length ≤ SL := by
  cases x <;> cases y <;> simp only [binD, reduceCtorEq] at h
  rename_i xs ys
  cases e : catD xs ys with
  | none => rw [e] at h; cases h
  | some zs =>
    rw [e] at h
    cases h
    obtain ⟨rfl, h2⟩ := catD_some e
    exact ⟨xs, ys, rfl, rfl, rfl, h2⟩
theorem catT_cases {x y d : D} (h : binD .catT x y = some d) : ∃ xs ys, x = .tup xs ∧ y = .tup ys ∧ d = .tup (xs ++ ys) ∧ xs.length + ys.length ≤ SL := by
  cases x <;> cases y <;> simp only [binD, reduceCtorEq] at h
  rename_i xs ys
  cases e : catD xs ys with
  | none => rw [e] at h; cases h
  | some zs =>
    rw [e] at h
    cases h
    obtain ⟨rfl, h2⟩ := catD_some e
    exact ⟨xs, ys, rfl, rfl, rfl, h2⟩
theorem r_catL (ha : PE X a (RdE K φ (.md 1) fa)) (hb : PE X b (RdE K φ (.md 1) fb)) {k : Nat} : PE X (.BinOp a .Add b pos) (RdE K φ (.own 1) fun ρ => (fa ρ).bind fun x => (fb ρ).bind fun y => binD (.catL k) x y) := by
  refine r_two (R := rCat) (t := fun _ _ _ => True) ha hb (fun h1 h2 => pe_op op_cat h1 h2) fun x y d e F0 F1 F H0 H1 H v u Q e1 e2 r1 r2 q => ?_
  obtain ⟨xs, ys, rfl, rfl, rfl, hl⟩ := catL_cases e
  obtain ⟨l, vs, rfl, h1, q1⟩ := (show ∃ a vs, v = .ref a ∧ H1 a = some (.lst vs) ∧ AllR (Rep K F1 H1) xs vs from r1)
  obtain ⟨m, ws, rfl, h2, q2⟩ := (show ∃ a vs, u = .ref a ∧ H a = some (.lst vs) ∧ AllR (Rep K F H) ys vs from r2)
  refine ⟨l, m, vs, ws, rfl, rfl, e2.same _ _ h1, h2, by rw [AllR.len q1, AllR.len q2, ← SL_eq]; exact hl, fun p hp => ?_⟩
  exact q _ _ _ ((e1.trans e2).trans (Ext.laid e2.fo hp)) (fresh_own1 e2.fo (e1.trans e2).same hp ((all_mono q1 e2.same e2.up).app q2))
theorem r_catLB (ha : PE X a (RdE K φ .bor fa)) (hb : PE X b (RdE K φ .bor fb)) {k : Nat} : PE X (.BinOp a .Add b pos) (RdE K φ .bor fun ρ => (fa ρ).bind fun x => (fb ρ).bind fun y => binD (.catL k) x y) := by
  refine r_two (R := rCat) (t := fun _ _ _ => True) ha hb (fun h1 h2 => pe_op op_cat h1 h2) fun x y d e F0 F1 F H0 H1 H v u Q e1 e2 r1 r2 q => ?_
  obtain ⟨xs, ys, rfl, rfl, rfl, hl⟩ := catL_cases e
  obtain ⟨l, vs, rfl, h1, q1⟩ := rep_lst (bor_of r1)
  obtain ⟨m, ws, rfl, h2, q2⟩ := rep_lst (bor_of r2)
  refine ⟨l, m, vs, ws, rfl, rfl, e2.same _ _ h1.1, h2.1, by rw [AllR.len q1, AllR.len q2, ← SL_eq]; exact hl, fun p hp => ?_⟩
  have e3 := Ext.laid (o := .lst (vs ++ ws)) e2.fo hp
  exact q _ _ _ ((e1.trans e2).trans e3) (mk_lst upd_same trivial (all_mono ((all_mono q1 e2.same fun _ h => h).app q2) e3.same fun _ h => h))
theorem r_catLO {k : Nat} (ha : PE X a (RdE K φ (.own (k + 2)) fa)) (hb : PE X b (RdE K φ (.own (k + 2)) fb)) {j : Nat} : PE X (.BinOp a .Add b pos) (RdE K φ (.own (k + 2)) fun ρ => (fa ρ).bind fun x => (fb ρ).bind fun y => binD (.catL j) x y) := by
  refine r_two (R := rCat) (t := fun _ _ _ => True) ha hb (fun h1 h2 => pe_op op_cat h1 h2) fun x y d e F0 F1 F H0 H1 H v u Q e1 e2 r1 r2 q => ?_
  obtain ⟨xs, ys, rfl, rfl, rfl, hl⟩ := catL_cases e
  obtain ⟨S1, ⟨l, vs, T1, rfl, h1, q1, rfl⟩, n1, d1⟩ := r1
  obtain ⟨S2, ⟨m, ws, T2, rfl, h2, q2, rfl⟩, n2, d2⟩ := r2
  refine ⟨l, m, vs, ws, rfl, rfl, e2.same _ _ h1, h2, by rw [AllO.len q1, AllO.len q2, ← SL_eq]; exact hl, fun p hp => ?_⟩
  have q1' : AllO (Own K F H (k + 1)) xs vs T1 := q1.imp fun d v S' _ h => h.mono e2.same e2.up
  rw [List.nodup_cons] at n1 n2
  have h1there : ∀ a ∈ l :: T1, (H1 a).isSome = true := Own.there (k := k + 2) (d := .lst xs) (v := .ref l) ⟨l, vs, T1, rfl, h1, q1, rfl⟩
  refine q _ _ _ ((e1.trans e2).trans (Ext.laid e2.fo hp)) (fresh_own e2.fo (e1.trans e2).same hp (q1'.app q2) ?_ ?_)
  · rw [List.nodup_append]
    refine ⟨n1.2, n2.2, fun a ha b hb z => ?_⟩
    subst z
    have := h1there a (.tail _ ha)
    rw [(d2 a (.tail _ hb)).1] at this
    cases this
  · intro a ha
    rcases List.mem_append.mp ha with ha | ha
    · refine ⟨(d1 a (.tail _ ha)).1, fun hf => ?_⟩
      rcases e2.new a hf with hf | hf
      · exact (d1 a (.tail _ ha)).2 hf
      · have := h1there a (.tail _ ha)
        rw [hf] at this
        cases this
    · exact ⟨e1.same.free (d2 a (.tail _ ha)).1, (d2 a (.tail _ ha)).2⟩
theorem r_catT (ha : PE X a (RdE X.K φ (.own 0) fa)) (hb : PE X b (RdE X.K φ (.own 0) fb)) : PE X (.BinOp a .Add b pos) (RdE X.K φ (.own 0) fun ρ => (fa ρ).bind fun x => (fb ρ).bind fun y => binD .catT x y) := by
  refine r_two (R := rCatA X.K) (t := fun _ _ _ => True) ha hb (fun h1 h2 => pe_op op_catA h1 h2) fun x y d e F0 F1 F H0 H1 H v u Q e1 e2 r1 r2 q => ?_
  obtain ⟨xs, ys, rfl, rfl, rfl, hl⟩ := catT_cases e
  have r1' := (of0 r1).mono e2.same e2.up
  obtain ⟨l, vs, rfl, h1, q1⟩ := rep_tup r1'
  obtain ⟨m, ws, rfl, h2, q2⟩ := rep_tup (of0 r2)
  refine ⟨l, m, vs, ws, rfl, rfl, h1.sq, h2.sq, by rw [AllR.len q1, AllR.len q2, ← SL_eq]; exact hl, fun hx => ?_, fun hx hy => ?_, fun hx hy p hp => ?_⟩
  · subst hx
    have : xs = [] := List.eq_nil_of_length_eq_zero (AllR.len q1).symm
    subst this
    exact q _ _ _ (e1.trans e2) (own0 (of0 r2))
  · subst hy
    have : ys = [] := List.eq_nil_of_length_eq_zero (AllR.len q2).symm
    subst this
    rw [List.append_nil] at q
    exact q _ _ _ (e1.trans e2) (own0 r1')
  · have e3 := Ext.laidF (o := .tup (vs ++ ws)) e2.fo hp
    exact q _ _ _ ((e1.trans e2).trans e3) (own0 (mk_tup upd_same (.inr rfl) (all_mono (q1.app q2) e3.same e3.up)))
theorem r_catTB (ha : PE X a (RdE X.K φ .bor fa)) (hb : PE X b (RdE X.K φ .bor fb)) : PE X (.BinOp a .Add b pos) (RdE X.K φ .bor fun ρ => (fa ρ).bind fun x => (fb ρ).bind fun y => binD .catT x y) := by
  refine r_two (R := rCatA X.K) (t := fun _ _ _ => True) ha hb (fun h1 h2 => pe_op op_catA h1 h2) fun x y d e F0 F1 F H0 H1 H v u Q e1 e2 r1 r2 q => ?_
  obtain ⟨xs, ys, rfl, rfl, rfl, hl⟩ := catT_cases e
  have r1' := (bor_of r1).mono e2.same fun _ h => h
  obtain ⟨l, vs, rfl, h1, q1⟩ := rep_tup r1'
  obtain ⟨m, ws, rfl, h2, q2⟩ := rep_tup (bor_of r2)
  refine ⟨l, m, vs, ws, rfl, rfl, h1.sq, h2.sq, by rw [AllR.len q1, AllR.len q2, ← SL_eq]; exact hl, fun hx => ?_, fun hx hy => ?_, fun hx hy p hp => ?_⟩
  · subst hx
    have : xs = [] := List.eq_nil_of_length_eq_zero (AllR.len q1).symm
    subst this
    exact q _ _ _ (e1.trans e2) (bor_of r2)
  · subst hy
    have : ys = [] := List.eq_nil_of_length_eq_zero (AllR.len q2).symm
    subst this
    rw [List.append_nil] at q
    exact q _ _ _ (e1.trans e2) r1'
  · have e3 := Ext.laid (o := .tup (vs ++ ws)) e2.fo hp
    exact q _ _ _ ((e1.trans e2).trans e3) (mk_tup upd_same trivial (all_mono (q1.app q2) e3.same fun _ h => h))
theorem AllR.rep {p : D → V → Prop} {ds : List D} {vs : List V} (h : AllR p ds vs) : ∀ k : Nat, AllR p (List.replicate k ds).flatten (List.replicate k vs).flatten
  | 0 => rfl
  | k + 1 => by
    rw [List.replicate_succ, List.replicate_succ, List.flatten_cons, List.flatten_cons]
    exact h.app (AllR.rep h k)
theorem repL_cases {x y d : D} (h : binD .repL x y = some d) : ∃ xs k, x = .lst xs ∧ y = .int k ∧ d = .lst (List.replicate k.toNat xs).flatten ∧ -(2 ^ 63) ≤ k ∧ k < 2 ^ 63 ∧ xs.length * k.toNat ≤ SL := by
  cases x <;> cases y <;> simp only [binD, reduceCtorEq] at h
  rename_i xs k
  unfold repD at h
  split at h
  · rename_i hc
    cases h
    exact ⟨xs, k, rfl, rfl, rfl, hc⟩
  · cases h
theorem r_repL (ha : PE X a (RdE K φ (.md 1) fa)) (hb : PE X b (RdE K φ .bor fb)) : PE X (.BinOp a .Mult b pos) (RdE K φ (.own 1) fun ρ => (fa ρ).bind fun x => (fb ρ).bind fun y => binD .repL x y) := by
  refine r_two (R := rRep) (t := fun _ _ _ => True) ha hb (fun h1 h2 => pe_op op_rep h1 h2) fun x y d e F0 F1 F H0 H1 H v u Q e1 e2 r1 r2 q => ?_
  obtain ⟨xs, k, rfl, rfl, rfl, k1, k2, k3⟩ := repL_cases e
  obtain ⟨l, vs, rfl, h1, q1⟩ := (show ∃ a vs, v = .ref a ∧ H1 a = some (.lst vs) ∧ AllR (Rep K F1 H1) xs vs from r1)
  have := rep_int (bor_of r2)
  subst this
  refine ⟨l, k, vs, rfl, rfl, e2.same _ _ h1, k1, k2, by rw [AllR.len q1, ← SL_eq]; exact k3, fun p hp => ?_⟩
  exact q _ _ _ ((e1.trans e2).trans (Ext.laid e2.fo hp)) (fresh_own1 e2.fo (e1.trans e2).same hp ((all_mono q1 e2.same e2.up).rep _))
theorem r_repLB (ha : PE X a (RdE K φ .bor fa)) (hb : PE X b (RdE K φ .bor fb)) : PE X (.BinOp a .Mult b pos) (RdE K φ .bor fun ρ => (fa ρ).bind fun x => (fb ρ).bind fun y => binD .repL x y) := by
  refine r_two (R := rRep) (t := fun _ _ _ => True) ha hb (fun h1 h2 => pe_op op_rep h1 h2) fun x y d e F0 F1 F H0 H1 H v u Q e1 e2 r1 r2 q => ?_
  obtain ⟨xs, k, rfl, rfl, rfl, k1, k2, k3⟩ := repL_cases e
  obtain ⟨l, vs, rfl, h1, q1⟩ := rep_lst (bor_of r1)
  have := rep_int (bor_of r2)
  subst this
  refine ⟨l, k, vs, rfl, rfl, e2.same _ _ h1.1, k1, k2, by rw [AllR.len q1, ← SL_eq]; exact k3, fun p hp => ?_⟩
  have e3 := Ext.laid (o := .lst (List.replicate k.toNat vs).flatten) e2.fo hp
  exact q _ _ _ ((e1.trans e2).trans e3) (mk_lst upd_same trivial (all_mono ((all_mono q1 e2.same fun _ h => h).rep _) e3.same fun _ h => h))

/-! ### subscripts, slices -/
theorem all_at {p : D → V → Prop} {ds : List D} {vs : List V} {i : Int} {d : D} (h : AllR p ds vs) (e : atI ds i = some d) : ∃ v, atI vs i = some v ∧ p d v := by
  unfold atI at e ⊢
  rw [AllR.len h]
  cases ej : ixN ds.length i with
  | none => rw [ej] at e; cases e
  | some j =>
    rw [ej] at e
    obtain ⟨v, hv, q⟩ := h.get (show ds[j]? = some d from e)
    exact ⟨v, hv, q⟩
theorem tuple_mul1 (l : Addr) (items : Array Value) (n : Nat) (dd : Option Addr) (sl : Array (Option Value)) (u : Tok) (c1 : (items.isEmpty || (1 : Int) == 1) = true) :
    Meets (Builtin.«tuple.__mul__» ⟨[.ref l, .int 1 u], []⟩) (fun _ R s => s.heap.get? l = some { cls := .type "tuple", dict := dd, data := .seq items n, slots := sl } ∧ R (.ok (.ret (Value.ref l))) s) :=
  .of_wp fun prog w A R s h => by
    obtain ⟨hp, g, d, tk, os⟩ := s
    obtain ⟨hl, h⟩ := h
    have f1 := AutoSeq1.idx_int
    wp_walk using wpAny_loadPart' hl
    repeat (first
      | (refine wpAny_ite_true (decide_eq_true (by rw [c1])) ?_; wp_walk using wpAny_loadPart' hl)
      | (refine wpAny_ite_false (by decide) ?_; wp_walk using wpAny_loadPart' hl))
    exact ⟨_, rfl, h⟩
def rRepT1 (K : PySem.W.Frag) : R2 := fun x y H Q => ∃ l xs, x = .ref l ∧ y = .int 1 ∧ SqT K H l xs ∧ Q (.ref l) H
theorem op_repT1 {X : Cx} : OpR X (binaryOp .Mult) (rRepT1 X.K) := by
  intro pins s σ H x y v u Q I rx ry h
  obtain ⟨l, xs, rfl, rfl, hT, q⟩ := h
  cases rx
  obtain ⟨t, rfl⟩ := ry
  obtain ⟨its, r, ⟨⟨cls, dd, data, sl⟩, ho, hc, n, hd⟩, hs⟩ := I.tuple hT
  simp only at hc hd
  subst hc hd
  refine wpAny_binaryOp_repeat_ref (T := "tuple") (U := "int") (by decide) ⟨_, ho, rfl⟩ (fun s' => typeIs_int s' 1 t) noFill_tuple_mul F.fills_int_mul F.slot_int_rmul repeat_tuple F.slot_int_index.lookup
    (call_meets F.slot_int_rmul (typeIs_int s 1 t) F.entry_int_rmul (F.args_int_rmul_2 _ _) (int_rmul_tuple 1 t l its.toArray n dd sl)
      ⟨ho, rfl, ⟨_, ho, rfl⟩, call_meets F.slot_tuple_mul ⟨_, ho, rfl⟩ F.entry_tuple_mul (F.args_tuple_mul_2 _ _) (tuple_mul1 l its.toArray n dd sl t (by simp)) ⟨ho, ?_⟩⟩)
  exact ⟨.ref l, H, I, rfl, q⟩
theorem repT_cases {x y d : D} (h : binD .repT x y = some d) : ∃ xs k, x = .tup xs ∧ y = .int k ∧ d = .tup (List.replicate k.toNat xs).flatten ∧ xs ≠ [] ∧ 1 ≤ k ∧ k ≤ 1000 ∧ xs.length ≤ 1000 := by
  cases x <;> cases y <;> simp only [binD, reduceCtorEq] at h
  rename_i xs k
  unfold repTD at h
  split at h
  · rename_i hc
    cases h
    exact ⟨xs, k, rfl, rfl, rfl, hc⟩
  · cases h
theorem rep_one {α : Type} (xs : List α) : (List.replicate (1 : Int).toNat xs).flatten = xs := by simp
def rRepTT (K : PySem.W.Frag) : R2 := fun x y H Q => rRepT K x y H Q ∨ rRepT1 K x y H Q
theorem op_repTT {X : Cx} : OpR X (binaryOp .Mult) (rRepTT X.K) := by
  intro pins s σ H x y v u Q I rx ry h
  rcases h with h | h
  · exact op_repT pins s σ H x y v u Q I rx ry h
  · exact op_repT1 pins s σ H x y v u Q I rx ry h
theorem r_repT (ha : PE X a (RdE X.K φ (.own 0) fa)) (hb : PE X b (RdE X.K φ .bor fb)) : PE X (.BinOp a .Mult b pos) (RdE X.K φ (.own 0) fun ρ => (fa ρ).bind fun x => (fb ρ).bind fun y => binD .repT x y) := by
  refine r_two (R := rRepTT X.K) (t := fun _ _ _ => True) ha hb (fun h1 h2 => pe_op op_repTT h1 h2) fun x y d e F0 F1 F H0 H1 H v u Q e1 e2 r1 r2 q => ?_
  obtain ⟨xs, k, rfl, rfl, rfl, k0, k1, k2, k3⟩ := repT_cases e
  have r1' := (of0 r1).mono e2.same e2.up
  have r0 := r1'
  obtain ⟨l, vs, rfl, t, q1⟩ := rep_tup r1'
  have := rep_int (bor_of r2)
  subst this
  by_cases hk : k = 1
  · subst hk
    refine .inr ⟨l, vs, rfl, rfl, t.sq, q _ _ _ (e1.trans e2) ?_⟩
    rw [rep_one]
    exact own0 r0
  · refine .inl ⟨l, k, vs, rfl, rfl, t.sq, fun z => k0 (List.eq_nil_of_length_eq_zero (by rw [← AllR.len q1, z]; rfl)), by omega, k2, by rw [AllR.len q1]; exact k3, fun p hp => ?_⟩
    have e3 := Ext.laidF (o := .tup (List.replicate k.toNat vs).flatten) e2.fo hp
    exact q _ _ _ ((e1.trans e2).trans e3) (own0 (mk_tup upd_same (.inr rfl) (all_mono (q1.rep _) e3.same e3.up)))
theorem r_repTB (ha : PE X a (RdE X.K φ .bor fa)) (hb : PE X b (RdE X.K φ .bor fb)) : PE X (.BinOp a .Mult b pos) (RdE X.K φ .bor fun ρ => (fa ρ).bind fun x => (fb ρ).bind fun y => binD .repT x y) := by
  refine r_two (R := rRepTT X.K) (t := fun _ _ _ => True) ha hb (fun h1 h2 => pe_op op_repTT h1 h2) fun x y d e F0 F1 F H0 H1 H v u Q e1 e2 r1 r2 q => ?_
  obtain ⟨xs, k, rfl, rfl, rfl, k0, k1, k2, k3⟩ := repT_cases e
  have r1' := (bor_of r1).mono e2.same fun _ h => h
  have r0 := r1'
  obtain ⟨l, vs, rfl, t, q1⟩ := rep_tup r1'
  have := rep_int (bor_of r2)
  subst this
  by_cases hk : k = 1
  · subst hk
    refine .inr ⟨l, vs, rfl, rfl, t.sq, q _ _ _ (e1.trans e2) ?_⟩
    rw [rep_one]
    exact r0
  · refine .inl ⟨l, k, vs, rfl, rfl, t.sq, fun z => k0 (List.eq_nil_of_length_eq_zero (by rw [← AllR.len q1, z]; rfl)), by omega, k2, by rw [AllR.len q1]; exact k3, fun p hp => ?_⟩
    have e3 := Ext.laid (o := .tup (List.replicate k.toNat vs).flatten) e2.fo hp
    exact q _ _ _ ((e1.trans e2).trans e3) (mk_tup upd_same trivial (all_mono (q1.rep _) e3.same fun _ h => h))
theorem r_idx {m : Nat} (ha : PE X a (RdE X.K φ (.md (m + 1)) fa)) (hb : PE X b (RdE X.K φ .bor fb)) (hp : plainE b = true) : PE X (.Subscript a b pos) (RdE X.K φ (.md m) fun ρ => (fa ρ).bind fun x => (fb ρ).bind fun y => idxD x y) := by
  refine r_two (R := rIx X.K) (t := fun _ _ _ => True) ha hb (fun h1 h2 => pe_ix ix_seq h1 h2 (plain_ix hp)) fun x y d e F0 F1 F H0 H1 H v u Q e1 e2 r1 r2 q => ?_
  have r1' : RepM X.K F H (m + 1) x v := RepM.mono (show RepM X.K F1 H1 (m + 1) x v from r1) e2.same e2.up
  cases x <;> cases y <;> simp only [idxD, reduceCtorEq] at e
  · obtain ⟨p, vs, rfl, t, r⟩ := rep_scr (show Rep X.K F H (.scr _) v from r1')
    obtain ⟨w, hw, rw'⟩ := all_at r e
    exact .inl ⟨p, vs, _, w, rfl, rep_int (bor_of r2), t.sq, hw, q _ _ _ (e1.trans e2) (RepM.le (m := 0) rw' (Nat.zero_le _))⟩
  · obtain ⟨p, vs, rfl, t, r⟩ := (show ∃ a vs, v = .ref a ∧ SqT X.K H a vs ∧ AllR (RepM X.K F H m) _ vs from r1')
    obtain ⟨w, hw, rw'⟩ := all_at r e
    exact .inr (.inl ⟨p, vs, _, w, rfl, rep_int (bor_of r2), t, hw, q _ _ _ (e1.trans e2) rw'⟩)
  · obtain ⟨p, vs, rfl, t, r⟩ := (show ∃ a vs, v = .ref a ∧ H a = some (.lst vs) ∧ AllR (RepM X.K F H m) _ vs from r1')
    obtain ⟨w, hw, rw'⟩ := all_at r e
    exact .inl ⟨p, vs, _, w, rfl, rep_int (bor_of r2), SqL.of t, hw, q _ _ _ (e1.trans e2) rw'⟩
theorem r_idxB (ha : PE X a (RdE X.K φ .bor fa)) (hb : PE X b (RdE X.K φ .bor fb)) (hp : plainE b = true) : PE X (.Subscript a b pos) (RdE X.K φ .bor fun ρ => (fa ρ).bind fun x => (fb ρ).bind fun y => idxD x y) := by
  refine r_two (R := rIx X.K) (t := fun _ _ _ => True) ha hb (fun h1 h2 => pe_ix ix_seq h1 h2 (plain_ix hp)) fun x y d e F0 F1 F H0 H1 H v u Q e1 e2 r1 r2 q => ?_
  have r1' : Rep X.K Any H x v := (bor_of r1).mono e2.same fun _ h => h
  cases x <;> cases y <;> simp only [idxD, reduceCtorEq] at e
  · obtain ⟨p, vs, rfl, t, r⟩ := rep_scr r1'
    obtain ⟨w, hw, rw'⟩ := all_at r e
    exact .inl ⟨p, vs, _, w, rfl, rep_int (bor_of r2), t.sq, hw, q _ _ _ (e1.trans e2) rw'⟩
  · obtain ⟨p, vs, rfl, t, r⟩ := rep_tup r1'
    obtain ⟨w, hw, rw'⟩ := all_at r e
    exact .inr (.inl ⟨p, vs, _, w, rfl, rep_int (bor_of r2), t.sq, hw, q _ _ _ (e1.trans e2) rw'⟩)
  · obtain ⟨p, vs, rfl, t, r⟩ := rep_lst r1'
    obtain ⟨w, hw, rw'⟩ := all_at r e
    exact .inl ⟨p, vs, _, w, rfl, rep_int (bor_of r2), t.sq, hw, q _ _ _ (e1.trans e2) rw'⟩
def RdO (K : PySem.W.Frag) (φ : List Nat) (f : List D → Option (Option Int)) : TO := fun σ H Q => ∃ ρ F S, Sta K φ ρ σ H F S ∧ ∃ o, f ρ = some o ∧ ∀ H' F', Ext F H F' H' → Q o H'
theorem o_none : PO X none (RdO K φ fun _ => some none) := ⟨fun pins s σ H Q I ⟨ρ, F, S, st, o, e, q⟩ => by
  cases e
  exact po_none.run pins s σ H Q I (q H F (.refl st.fo))⟩
theorem o_some (ha : PE X a (RdE K φ .bor fa)) : PO X (some a) (RdO K φ fun ρ => (fa ρ).bind fun x => (intD x).map some) := ⟨fun pins s σ H Q I ⟨ρ, F, S, st, o, e, q⟩ => by
  dsimp only at e
  obtain ⟨x, ex, e⟩ := bind_some e
  cases x <;> simp only [intD, Option.map_none, Option.map_some, Option.some.injEq, reduceCtorEq] at e
  subst e
  exact (po_some ha).run pins s σ H Q I ⟨ρ, F, S, st, _, ex, fun v H1 F1 e1 r1 => ⟨_, rep_int (bor_of r1), q _ _ e1⟩⟩⟩
theorem r_slc {R : V → Option Int → Option Int → Hp → VK → Prop} {lo hi : Option Expr} {p2 : Pos} {fl fh : List D → Option (Option Int)} {g : Option Int → Option Int → D → Option D} (hr : SlR X R) (ha : PE X a (RdE K φ ra fa)) (hl : PO X lo (RdO K φ fl)) (hh : PO X hi (RdO K φ fh))
    (hs : ∀ l h x d, g l h x = some d → ∀ (F0 F : Pa) (H0 H : Hp) (v : V) (Q : VK), Ext F0 H0 F H → ra.ok K H0 F H x v → (∀ w H' F', Ext F0 H0 F' H' → r.ok K H0 F' H' d w → Q w H') → R v l h H Q) :
    PE X (.Subscript a (.Slice lo hi none p2) pos) (RdE K φ r fun ρ => (fa ρ).bind fun x => (fl ρ).bind fun l => (fh ρ).bind fun h => g l h x) := by
  refine peI (pe_slice hr ha hl hh) fun σ H Q ⟨ρ, F, S, st, d, e, q⟩ => ?_
  dsimp only at e
  obtain ⟨x, ex, e⟩ := bind_some e
  obtain ⟨l, el, e⟩ := bind_some e
  obtain ⟨h, eh, e⟩ := bind_some e
  refine ⟨ρ, F, S, st, x, ex, fun v H1 F1 e1 r1 => ⟨ρ, F1, S, st.ext e1, l, el, fun H2 F2 e2 => ⟨ρ, F2, S, (st.ext e1).ext e2, h, eh, fun H3 F3 e3 => ?_⟩⟩⟩
  exact hs l h x d e F F3 H H3 v Q ((e1.trans e2).trans e3) (Res.mono (Res.mono r1 e2) e3) q
theorem cutV_L (xs : List V) (lo hi : Option Int) : cutV xs lo hi = cutL xs lo hi := rfl
theorem AllR.cut {p : D → V → Prop} {ds : List D} {vs : List V} (h : AllR p ds vs) (lo hi : Option Int) : AllR p (cutL ds lo hi) (cutL vs lo hi) := by
  unfold cutL
  rw [AllR.len h]
  exact (h.drop _).take _
theorem slcL_cases {l h : Option Int} {x d : D} (e : slcD false l h x = some d) : ∃ xs, x = .lst xs ∧ d = .lst (cutL xs l h) := by
  cases x <;> simp only [slcD, reduceCtorEq, if_neg, Bool.false_eq_true, not_false_eq_true, Option.some.injEq] at e
  exact ⟨_, rfl, e.symm⟩
theorem slcT_cases {l h : Option Int} {x d : D} (e : slcD true l h x = some d) : ∃ xs, x = .tup xs ∧ d = .tup (cutL xs l h) := by
  cases x <;> simp only [slcD, reduceCtorEq, if_pos, Option.some.injEq] at e
  exact ⟨_, rfl, e.symm⟩
theorem r_slcL {lo hi : Option Expr} {p2 : Pos} {fl fh : List D → Option (Option Int)} (ha : PE X a (RdE X.K φ (.md 1) fa)) (hl : PO X lo (RdO X.K φ fl)) (hh : PO X hi (RdO X.K φ fh)) :
    PE X (.Subscript a (.Slice lo hi none p2) pos) (RdE X.K φ (.own 1) fun ρ => (fa ρ).bind fun x => (fl ρ).bind fun l => (fh ρ).bind fun h => slcD false l h x) := by
  refine r_slc sl_list ha hl hh fun l h x d e F0 F H0 H v Q e1 r1 q => ?_
  obtain ⟨xs, rfl, rfl⟩ := slcL_cases e
  obtain ⟨a, vs, rfl, h1, q1⟩ := (show ∃ a vs, v = .ref a ∧ H a = some (.lst vs) ∧ AllR (Rep X.K F H) xs vs from r1)
  exact ⟨a, vs, rfl, SqL.of h1, fun p hp => q _ _ _ (e1.trans (Ext.laid e1.fo hp)) (fresh_own1 e1.fo e1.same hp (q1.cut l h))⟩
theorem r_slcLB {lo hi : Option Expr} {p2 : Pos} {fl fh : List D → Option (Option Int)} (ha : PE X a (RdE X.K φ .bor fa)) (hl : PO X lo (RdO X.K φ fl)) (hh : PO X hi (RdO X.K φ fh)) :
    PE X (.Subscript a (.Slice lo hi none p2) pos) (RdE X.K φ .bor fun ρ => (fa ρ).bind fun x => (fl ρ).bind fun l => (fh ρ).bind fun h => slcD false l h x) := by
  refine r_slc sl_list ha hl hh fun l h x d e F0 F H0 H v Q e1 r1 q => ?_
  obtain ⟨xs, rfl, rfl⟩ := slcL_cases e
  obtain ⟨a, vs, rfl, h1, q1⟩ := rep_lst (bor_of r1)
  refine ⟨a, vs, rfl, h1.sq, fun p hp => ?_⟩
  have e3 := Ext.laid (o := .lst (cutL vs l h)) e1.fo hp
  exact q _ _ _ (e1.trans e3) (mk_lst upd_same trivial (all_mono (q1.cut l h) e3.same fun _ h => h))
theorem cut_all {α : Type} {xs : List α} {lo hi : Option Int} (h : HT.sIx xs.length 0 lo = 0 ∧ HT.sIx xs.length xs.length hi = xs.length) : cutL xs lo hi = xs := by
  unfold cutL
  rw [h.1, h.2, List.drop_zero, Nat.sub_zero, List.take_length]
theorem r_slcT {lo hi : Option Expr} {p2 : Pos} {fl fh : List D → Option (Option Int)} (ha : PE X a (RdE X.K φ (.own 0) fa)) (hl : PO X lo (RdO X.K φ fl)) (hh : PO X hi (RdO X.K φ fh)) :
    PE X (.Subscript a (.Slice lo hi none p2) pos) (RdE X.K φ (.own 0) fun ρ => (fa ρ).bind fun x => (fl ρ).bind fun l => (fh ρ).bind fun h => slcD true l h x) := by
  refine r_slc sl_tupA ha hl hh fun l h x d e F0 F H0 H v Q e1 r1 q => ?_
  obtain ⟨xs, rfl, rfl⟩ := slcT_cases e
  obtain ⟨a, vs, rfl, h1, q1⟩ := rep_tup (of0 r1)
  refine ⟨a, vs, rfl, h1.sq, fun hw => ?_, fun _ p hp => ?_⟩
  · rw [AllR.len q1] at hw
    rw [cut_all hw] at q
    exact q _ _ _ e1 (own0 (of0 r1))
  · have e3 := Ext.laidF (o := .tup (cutL vs l h)) e1.fo hp
    exact q _ _ _ (e1.trans e3) (own0 (mk_tup upd_same (.inr rfl) (all_mono (q1.cut l h) e3.same e3.up)))
theorem r_slcTB {lo hi : Option Expr} {p2 : Pos} {fl fh : List D → Option (Option Int)} (ha : PE X a (RdE X.K φ .bor fa)) (hl : PO X lo (RdO X.K φ fl)) (hh : PO X hi (RdO X.K φ fh)) :
    PE X (.Subscript a (.Slice lo hi none p2) pos) (RdE X.K φ .bor fun ρ => (fa ρ).bind fun x => (fl ρ).bind fun l => (fh ρ).bind fun h => slcD true l h x) := by
  refine r_slc sl_tupA ha hl hh fun l h x d e F0 F H0 H v Q e1 r1 q => ?_
  obtain ⟨xs, rfl, rfl⟩ := slcT_cases e
  obtain ⟨a, vs, rfl, h1, q1⟩ := rep_tup (bor_of r1)
  refine ⟨a, vs, rfl, h1.sq, fun hw => ?_, fun _ p hp => ?_⟩
  · rw [AllR.len q1] at hw
    rw [cut_all hw] at q
    exact q _ _ _ e1 (bor_of r1)
  · have e3 := Ext.laid (o := .tup (cutL vs l h)) e1.fo hp
    exact q _ _ _ (e1.trans e3) (mk_tup upd_same trivial (all_mono (q1.cut l h) e3.same fun _ h => h))
theorem r_rev {k : Nat} {p1 p2 p3 : Pos} (ha : PE X a (RdE X.K φ (.md 1) fa)) : PE X (.Subscript a (.Slice none none (some (.UnaryOp .USub (.Constant (.int 1) k p1) p2)) p3) pos) (RdE X.K φ (.own 1) fun ρ => (fa ρ).bind revD) := by
  refine r_one (R := fun x H Q => ∃ a xs, x = .ref a ∧ SqL X.K H a xs ∧ ∀ p, H p = none → Q (.ref p) (upd H p (.lst xs.reverse))) ha (fun h => pe_revL h) fun x d e F0 F H0 H v Q e1 r1 q => ?_
  cases x <;> simp only [revD, reduceCtorEq, Option.some.injEq] at e
  subst e
  obtain ⟨a, vs, rfl, h1, q1⟩ := (show ∃ a vs, v = .ref a ∧ H a = some (.lst vs) ∧ AllR (Rep X.K F H) _ vs from r1)
  exact ⟨a, vs, rfl, SqL.of h1, fun p hp => q _ _ _ (e1.trans (Ext.laid e1.fo hp)) (fresh_own1 e1.fo e1.same hp q1.rev)⟩
theorem r_revB {k : Nat} {p1 p2 p3 : Pos} (ha : PE X a (RdE X.K φ .bor fa)) : PE X (.Subscript a (.Slice none none (some (.UnaryOp .USub (.Constant (.int 1) k p1) p2)) p3) pos) (RdE X.K φ .bor fun ρ => (fa ρ).bind revD) := by
  refine r_one (R := fun x H Q => ∃ a xs, x = .ref a ∧ SqL X.K H a xs ∧ ∀ p, H p = none → Q (.ref p) (upd H p (.lst xs.reverse))) ha (fun h => pe_revL h) fun x d e F0 F H0 H v Q e1 r1 q => ?_
  cases x <;> simp only [revD, reduceCtorEq, Option.some.injEq] at e
  subst e
  obtain ⟨a, vs, rfl, h1, q1⟩ := rep_lst (bor_of r1)
  refine ⟨a, vs, rfl, h1.sq, fun p hp => ?_⟩
  have e3 := Ext.laid (o := .lst vs.reverse) e1.fo hp
  exact q _ _ _ (e1.trans e3) (mk_lst upd_same trivial (all_mono q1.rev e3.same fun _ h => h))

/-! ### calls -/
theorem rd_isS {H : Hp} {a : Addr} {u : HO} (h : Rd H a u) : (H a).isSome = true := by
  rcases h with h | ⟨o, h⟩ <;> (rw [h]; rfl)
mutual
theorem Rep.isS {H : Hp} : ∀ (d : D) (v : V), Rep K Any H d v → Rep K (fun a => (H a).isSome = true) H d v
  | .bad, _, h => by unfold Rep at h; exact h.elim
  | .non, _, h => by unfold Rep at h ⊢; exact h
  | .bl b, _, h => by unfold Rep at h ⊢; exact h
  | .int i, _, h => by unfold Rep at h ⊢; exact h
  | .str s, _, h => by unfold Rep at h ⊢; exact h
  | .scr ds, v, h => by
    unfold Rep at h ⊢
    obtain ⟨a, vs, e, t, r⟩ := h
    refine ⟨a, vs, e, ?_, Reps.isS ds vs r⟩
    rcases t with t | t
    · exact .inl ⟨t.1, rd_isS t.1⟩
    · exact .inr t
  | .tup ds, v, h => by
    unfold Rep at h ⊢
    obtain ⟨a, vs, e, t, r⟩ := h
    refine ⟨a, vs, e, ?_, Reps.isS ds vs r⟩
    rcases t with t | t
    · exact .inl ⟨t.1, rd_isS t.1⟩
    · exact .inr t
  | .lst ds, v, h => by
    unfold Rep at h ⊢
    obtain ⟨a, vs, e, t, r⟩ := h
    exact ⟨a, vs, e, ⟨t.1, by show (H a).isSome = true; rw [t.1]; rfl⟩, Reps.isS ds vs r⟩
  | .dic ks ds, v, h => by
    unfold Rep at h ⊢
    obtain ⟨a, e, p, h⟩ := h
    rcases h with ⟨xs, h1, h2, h3⟩ | ⟨xs, h1, h2, h3⟩
    · exact ⟨a, e, rd_isS h1, .inl ⟨xs, h1, h2, Reps.isS ds _ h3⟩⟩
    · exact ⟨a, e, rd_isS h1, .inr ⟨xs, h1, h2, Reps.isS ds _ h3⟩⟩
theorem Reps.isS {H : Hp} : ∀ (ds : List D) (vs : List V), Reps K Any H ds vs → Reps K (fun a => (H a).isSome = true) H ds vs
  | [], _, h => by unfold Reps at h ⊢; exact h
  | d :: ds, _, h => by
    unfold Reps at h ⊢
    obtain ⟨v, r, e, h1, h2⟩ := h
    exact ⟨v, r, e, Rep.isS d v h1, Reps.isS ds r h2⟩
end
theorem tcall {n rk : Nat} {f : List D → Option D} {σ : L2.St} {H : Hp} {Q : VK} (hs : ∀ ds d, f ds = some d → ds.length = n) (h : RdE K φ (.own rk) (fun ρ => (fs ρ).bind f) σ H Q) : tCall (spD K n rk f) [] E0 (RdA K φ (.md 0) fs) σ H Q := by
  obtain ⟨ρ, F, S, st, d, e, q⟩ := h
  dsimp only at e
  obtain ⟨ds, eds, e⟩ := bind_some e
  refine ⟨ρ, F, S, st, ds, eds, fun vs H1 F1 e1 r1 => ?_⟩
  show spD K n rk f (vs ++ []) H1 Q E0
  rw [List.append_nil]
  refine ⟨by rw [Oks.len r1]; exact hs ds d e, F1, ds, e1.fo, r1, d, e, fun v H2 F2 e2 r2 => q _ _ _ (e1.trans e2) (Res.lift r2 e1.same)⟩
theorem tcallB {n rk : Nat} {f : List D → Option D} {σ : L2.St} {H : Hp} {Q : VK} (hs : ∀ ds d, f ds = some d → ds.length = n) (h : RdE K φ .bor (fun ρ => (fs ρ).bind f) σ H Q) : tCall (spD K n rk f) [] E0 (RdA K φ .bor fs) σ H Q := by
  obtain ⟨ρ, F, S, st, d, e, q⟩ := h
  dsimp only at e
  obtain ⟨ds, eds, e⟩ := bind_some e
  refine ⟨ρ, F, S, st, ds, eds, fun vs H1 F1 e1 r1 => ?_⟩
  show spD K n rk f (vs ++ []) H1 Q E0
  rw [List.append_nil]
  refine ⟨by rw [Oks.len r1]; exact hs ds d e, fun a => (H1 a).isSome = true, ds, fun _ h => h, AllR.imp (show AllR (Rep K Any H1) ds vs from r1) fun d v _ h => Rep.isS d v h, d, e, fun v H2 F2 e2 r2 => ?_⟩
  have e3 : Ext F1 H1 F1 H2 := ⟨e2.same, fun _ h => h, fun _ h => .inl h, fun a h => by
    have := e1.fo a h
    cases q : H1 a with
    | none => rw [q] at this; cases this
    | some o => rw [e2.same a o q]; rfl⟩
  exact q _ _ _ (e1.trans e3) (Res.any r2)
end
end Ev

/-! enumerate over a list or a tuple. -/
namespace Ev
open PySem PySem.Spec PyProof.Rows L2
open Sem (wp)
open AutoSeq1 (wpAny_loadPart')

theorem meets_enumT (l : Addr) (items : Array Value) :
    Meets (Builtin.«enumerate.__new__» ⟨[.type "enumerate", .ref l], []⟩) (fun _ R s => s.heap.IsTuple l items ∧
      R (.ok (.ret (.ref (s.heap.push { cls := .type "tuple_iterator", data := .fields #[.ref l, .int 0 0] }).objs.size)))
        { s with heap := (s.heap.push { cls := .type "tuple_iterator", data := .fields #[.ref l, .int 0 0] }).push { cls := .type "enumerate", data := .fields #[.none, .bool false, .ref s.heap.objs.size, rawInt 0, .none, .none] } }) :=
  .of_wp fun prog w A R s h => by
    obtain ⟨hp, g, d, tk, os⟩ := s; obtain ⟨hl, h⟩ := h
    have hsub := sub_enumerate
    have hL : Heap.IsTuple (Shared.heap ⟨hp, g, d, tk, os⟩) l items := hl
    obtain ⟨o, ho, _⟩ := id hl
    wp_walk using wpAny_loadPart' ho
    refine wpAny_stack_any fun st => wpAny_pure ?_
    split
    · rename_i c _ _ _ _ _
      cases (c == Value.type "enumerate")
      · wp_walk using wpAny_loadPart' ho, wpAny_pyIter_tuple hL
        exact ⟨_, rfl, h⟩
      · wp_walk using wpAny_loadPart' ho, wpAny_pyIter_tuple hL
        exact ⟨_, rfl, h⟩
    · wp_walk using wpAny_loadPart' ho, wpAny_pyIter_tuple hL
      exact ⟨_, rfl, h⟩
section
variable {prog : Program} {w : World} {A : Around} {E : Value → Shared → Prop} {s : Shared}
theorem call_enumT {l : Addr} {items : Array Value} {Q : Value → Shared → Prop} (hL : s.heap.IsTuple l items)
    (h : ∀ h', IsEnum h' (s.heap.objs.size + 1) s.heap.objs.size 0 .none → h'.IsTupleIter s.heap.objs.size l 0 → h'.objs.size = s.heap.objs.size + 2 →
      (∀ b o, s.heap.get? b = some o → h'.get? b = some o) → Q (.ref (s.heap.objs.size + 1)) { s with heap := h' }) :
    wpAny (model prog w) A (call (.type "enumerate") [.ref l]) Q E s := by
  refine callType_new F.called_enumerate (by decide) (F.typeCall_enumerate_1 _) (F.newCall_enumerate_1 _) (fun obj => F.args_object_init_2 obj _) F.entry_enumerate_new
    (meets_enumT l items) ⟨hL, ?_⟩
  have hz : (s.heap.push { cls := .type "tuple_iterator", data := .fields #[.ref l, .int 0 0] }).objs.size = s.heap.objs.size + 1 := Heap.size_push ..
  show _ ∧ _
  rw [hz]
  have he : IsEnum ((s.heap.push { cls := .type "tuple_iterator", data := .fields #[.ref l, .int 0 0] }).push
      { cls := .type "enumerate", data := .fields #[.none, .bool false, .ref s.heap.objs.size, rawInt 0, .none, .none] }) (s.heap.objs.size + 1) s.heap.objs.size 0 .none := by
    have := Heap.get?_push_size (s.heap.push { cls := .type "tuple_iterator", data := .fields #[.ref l, .int 0 0] })
      (o := { cls := .type "enumerate", data := .fields #[.none, .bool false, .ref s.heap.objs.size, rawInt 0, .none, .none] }) rfl
    rw [hz] at this; exact this
  refine ⟨⟨_, he, rfl⟩, h _ he ⟨_, Heap.get?_push_of_some _ (Heap.get?_push_size _ rfl), rfl, rfl⟩ (by rw [Heap.size_push, hz]) fun b o x => Heap.get?_push_of_some _ (Heap.get?_push_of_some _ x)⟩
end
/-- the tuple at a as it stands at each turn, each item in a new pair -/
def IteT (K : PySem.W.Frag) (a : Addr) : It :=
  ⟨fun i H => ∃ (xs : List V) (x : V), SqT K H a xs ∧ xs[i]? = some x, fun i H v H' => ∃ T x, v = .ref T ∧ H T = none ∧ H' = upd H T (.tup [.int (i : Nat), x]) ∧ ∀ xs, SqT K H a xs → xs[i]? = some x, fun i H => ∃ xs : List V, SqT K H a xs ∧ xs.length ≤ i⟩
theorem turn_enumT {P : Program} {w : World} {K : PySem.W.Frag} {elts : List Expr} {kk : Nat} {tpos : Pos} (a e it : Addr) :
    Turn P w K (.Tuple elts kk tpos) (IteT K a) [e, it] e (fun i h => (∃ old, IsEnum h e it ((i : Nat) : Int) old) ∧ h.IsTupleIter it a i ∧ e ≠ it ∧ e ≠ a ∧ a ≠ it) where
  mem := by simp
  obj := fun i h st b hb => by
    obtain ⟨⟨old, he⟩, ⟨o, ho, hc, hd⟩, _⟩ := st
    have e' : b = e ∨ b = it := by simpa using hb
    rcases e' with z | z
    · rw [z]; exact ⟨_, he, fun v q => nomatch q⟩
    · rw [z]; exact ⟨o, ho, fun v q => by rw [hd] at q; cases q⟩
  keep := fun i h h' st k => let ⟨⟨old, he⟩, hi, hne⟩ := st; ⟨⟨old, k e (by simp) _ he⟩, hi.at fun o q => k it (by simp) o q, hne⟩
  item := by
    intro X hP hw hK hc i pins s σ H E I hf st hg
    subst hP hw hK
    obtain ⟨⟨old, he⟩, hit, hne, hea, hai⟩ := st
    obtain ⟨xs, x, hq, hx⟩ := hg
    obtain ⟨its, rv, p, hz⟩ := I.tuple hq
    obtain ⟨u, hu, ru⟩ := rv.get hx
    have hel : e < s.heap.objs.size := Heap.lt_size he
    have hil : it < s.heap.objs.size := by obtain ⟨_, q, _⟩ := hit; exact Heap.lt_size q
    have hu' : its.toArray[i]? = some u := by simpa using hu
    have hlt : i < its.toArray.size := by
      have := (List.getElem?_eq_some_iff.mp hu).1
      simpa using this
    have D := Draws.tuple (prog := X.prog) (w := X.w) (A := X.A.in1) (I.ok.hd hc) it a hai its.toArray
    refine wpAny_pyNext_enum_itemD D he ⟨hit, p⟩ hlt hne (by simp [hne, hea]) fun x1 h' tk hP ho hst hT hsz hk => ?_
    have ex : x1 = u := by
      have hP : its.toArray[i]? = some x1 := hP
      rw [hu'] at hP
      cases hP
      rfl
    subst ex
    refine ⟨_, rfl, wpAny_letOwnedTupleGo_enum (s := { s with heap := h', toks := tk + 1 }) ho fun h'' he' sb => ?_⟩
    have hT2 : h''.get? s.heap.objs.size = some { cls := .type "tuple", data := .seq #[.int i tk, x1] } := (sb.2 _ (Nat.ne_of_gt hel)).trans hT
    have new : ObjOk X.prog X.w (upd H s.heap.objs.size (.tup [.int (i : Nat), x])) h'' s.heap.objs.size (.tup [.int (i : Nat), x]) :=
      ⟨by show 2 ≤ sizeLine; decide, [.int i tk, x1], .cons ⟨_, rfl⟩ (.cons ru .nil), ⟨_, hT2, rfl, _, rfl⟩⟩
    have I1 : Inv X pins σ (upd H s.heap.objs.size (.tup [.int (i : Nat), x])) { s with heap := h'', toks := tk + 1 } :=
      I.turnedNew (ch := [e, it]) (fun b ob hb q => (sb.2 b (fun z => hb (by simp [z]))).trans (hk b ob (fun z => hb (by simp [z])) (fun z => hb (by simp [z])) q)) hf (Nat.le_refl _) new
    refine ⟨.ref s.heap.objs.size, _, I1, rfl, ⟨_, x, rfl, I.hok.fresh (Nat.le_refl _), rfl, fun ys hy => by rw [I.tuple_inj hy hq]; exact hx⟩, ⟨⟨x1, ?_⟩, hst.1.at fun o q => (sb.2 it (Ne.symm hne)).trans q, hne, hea, hai⟩, fun b hb => ?_⟩
    · have e1 : ((i + 1 : Nat) : Int) = (i : Int) + 1 := by omega
      rw [e1]; exact he'
    · have hb' : b < s.heap.objs.size := by
        have e' : b = e ∨ b = it := by simpa using hb
        rcases e' with z | z
        · rw [z]; exact hel
        · rw [z]; exact hil
      rw [upd_ne (Nat.ne_of_lt hb')]
      exact (hf b hb).1
  done := by
    intro X hP hw hK hc i pins s σ H E I hf st hg
    subst hP hw hK
    obtain ⟨⟨old, he⟩, hit, hne, hea, hai⟩ := st
    obtain ⟨xs, hq, hx⟩ := hg
    obtain ⟨its, rv, p, hz⟩ := I.tuple hq
    obtain ⟨f0, f1, f2, f3, f4, f5⟩ := hf it (by simp)
    have hl := rv.length
    have hT : s.TypeIs (.ref e) "enumerate" := ⟨_, he, rfl⟩
    unfold pyNext
    refine wpAny_bind (wpAny_attempt (wpAny_callSpecial?_slot (name := Str.ofString "__next__") hT F.slot_enumerate_next
      (wpAny_call_entry F.slot_enumerate_next hT F.entry_enumerate_next ?_ (F.args_enumerate_next_1 _))))
    show wpAny _ _ (field (.ref e) 2 >>= _) _ _ _
    refine wpAny_bind (wpAny_field he rfl (x := .ref it) rfl ?_)
    refine wpAny_bind (wpAny_nextOf_tuple_end (I.ok.hd hc) hit p (by simp; omega) fun h' x he' hx' => ?_)
    obtain ⟨o, ho, hc'⟩ := hx'
    refine wpAny_bind (wpAny_isInstance (T := "StopIteration") (b := true) ⟨o, ho, hc'⟩ isSubtype_stop ?_)
    exact wpAny_pure ⟨rfl, I.turned (t' := s.toks) (fun b o hb q => he' b o hb q) f0 f1 f3 f4 f5⟩
  self := fun A i s Q E st h => let ⟨⟨_, he⟩, _⟩ := st; wpAny_pyIter_enum he h
def iEnumA (K : PySem.W.Frag) (ta : TA) : TI := fun σ H R => ta σ H fun vs H1 => ∃ a xs, vs = [.ref a] ∧ ((SqL K H1 a xs ∧ R (Ite K a) H1) ∨ (SqT K H1 a xs ∧ R (IteT K a) H1))
theorem pi_enumA {X : Cx} {e : Expr} {ta : TA} {p pos tpos : Pos} {elts : List Expr} {kk : Nat} (hg : Gl X "enumerate") (hm : X.mg "enumerate" = none) (ha : PA X [e] ta) (hs : starEach [e] X.env = [(false, eval e X.env)] := by rfl) :
    PI X (.Tuple elts kk tpos) (.Call (.Name "enumerate" p) [e] [] pos) (iEnumA X.K ta) := by
  refine ⟨fun pins s σ H R I h => ?_⟩
  refine Call_ (ld_blt I hg hm boot_enumerate (PyProof.Rows.callWith_type1 (thn (ha.run pos pins s σ H _ I h) fun us s1 ⟨vs, H1, I1, r1, q1⟩ => ?_) hs rfl))
  obtain ⟨a, xs, ex, q1⟩ := q1
  subst ex
  cases r1 with
  | cons r rr =>
    cases rr
    cases r
    have fpok : ∀ b ∈ [s1.heap.objs.size + 1, s1.heap.objs.size], FpOk X pins H1 b := fun b hb => by
      have e' : b = s1.heap.objs.size + 1 ∨ b = s1.heap.objs.size := by simpa using hb
      have hle : s1.heap.objs.size ≤ b := by
        rcases e' with z | z
        · rw [z]; exact Nat.le_add_right _ _
        · rw [z]; exact Nat.le_refl _
      exact I1.fpOk hle (I1.hok.fresh hle)
    rcases q1 with ⟨hq, q⟩ | ⟨hq, q⟩
    · obtain ⟨its, rv, p', hz⟩ := I1.list hq
      refine call_enumerate_list p'.isList fun h' he hit hsz hk => wpAny_pyIter_enum he ?_
      have I2 : Inv X pins σ H1 { s1 with heap := h' } := I1.kept (t' := s1.toks) hk
      exact ⟨s1.heap.objs.size + 1, [s1.heap.objs.size + 1, s1.heap.objs.size], _, _, H1, rfl, I2, turn_enum a (s1.heap.objs.size + 1) s1.heap.objs.size, ⟨⟨.none, he⟩, hit, Nat.succ_ne_self _⟩, fpok, q⟩
    · obtain ⟨its, rv, p', hz⟩ := I1.tuple hq
      obtain ⟨o, ho, _⟩ := id p'
      have hal : a < s1.heap.objs.size := Heap.lt_size ho
      refine call_enumT (show s1.heap.IsTuple a its.toArray from p') fun h' he hit hsz hk => wpAny_pyIter_enum he ?_
      have I2 : Inv X pins σ H1 { s1 with heap := h' } := I1.kept (t' := s1.toks) hk
      exact ⟨s1.heap.objs.size + 1, [s1.heap.objs.size + 1, s1.heap.objs.size], _, _, H1, rfl, I2, turn_enumT a (s1.heap.objs.size + 1) s1.heap.objs.size, ⟨⟨.none, he⟩, hit, Nat.succ_ne_self _, Nat.ne_of_gt (Nat.lt_succ_of_lt hal), Nat.ne_of_lt hal⟩, fpok, q⟩
theorem walk_enumT {K : PySem.W.Frag} {a : Addr} {xs : List V} : Walk (IteT K a) xs.length (fun H => SqT K H a xs) (IteT K a).yld := by
  refine ⟨fun i H hi g => ?_, fun H g => ?_, fun _ _ _ _ _ _ y => y⟩
  · exact ⟨xs, xs[i], g, List.getElem?_eq_getElem hi⟩
  · exact ⟨xs, g, Nat.le_refl _⟩
end Ev

/-! Walks. -/
namespace Ev
open PySem PySem.Spec PyProof.Rows L2

/-- what is walked, item by item; b: also where owned things change meanwhile -/
structure WkD (K : PySem.W.Frag) (F : Pa) (H0 : Hp) (b : Bool) (ds : List D) (J : It) (G : Hp → Prop) : Prop where
  walk : Walk J ds.length G J.yld
  item : ∀ i H x H', i < ds.length → G H → J.yld i H x H' → ∀ F1 : Pa, Kept F F1 H0 H → (∀ a, F1 a → (H a).isSome = true) → ∃ F2 d, ds[i]? = some d ∧ Ext F1 H F2 H' ∧ Rep K F2 H' d x
  stay : ∀ (H : Hp) (F1 : Pa), Kept F F1 H0 H → (b = true ∨ Same H0 H) → G H
def RdI (K : PySem.W.Frag) (φ : List Nat) (b : Bool) (f : List D → Option (List D)) : TI := fun σ H R => ∃ ρ F S, Sta K φ ρ σ H F S ∧ ∃ ds, f ρ = some ds ∧ ∀ J G H' F', Ext F H F' H' → WkD K F' H' b ds J G → R J H'
theorem piI {X : Cx} {tg e : Expr} {t t' : TI} (h : PI X tg e t) (f : ∀ σ H R, t' σ H R → t σ H R) : PI X tg e t' := ⟨fun pins s σ H R I hw => h.run pins s σ H R I (f σ H R hw)⟩
theorem piOr {X : Cx} {tg e : Expr} {t t' : TI} (h : PI X tg e t) (h' : PI X tg e t') : PI X tg e (fun σ H R => t σ H R ∨ t' σ H R) := ⟨fun pins s σ H R I hw => by
  rcases hw with hw | hw
  · exact h.run pins s σ H R I hw
  · exact h'.run pins s σ H R I hw⟩
section
variable {K : PySem.W.Frag} {F : Pa} {H0 : Hp} {b : Bool} {ds es : List D} {vs ws : List V} {a c : Addr}
theorem Kept.all {F1 : Pa} {H : Hp} (k : Kept F F1 H0 H) (r : AllR (Rep K F H0) ds vs) : AllR (Rep K F1 H) ds vs := r.imp fun d v _ h => Rep.kept k d v h
theorem wk_list (r : AllR (Rep K F H0) ds vs) (hs : ∀ (H : Hp) (F1 : Pa), Kept F F1 H0 H → (b = true ∨ Same H0 H) → SqL K H a vs) : WkD K F H0 b ds (Itl K a) (fun H => SqL K H a vs) := by
  have hl := AllR.len r
  refine ⟨?_, fun i H x H' hi g y F1 k fo => ?_, hs⟩
  · have w := walk_list (K := K) (a := a) (xs := vs)
    rw [hl] at w
    exact ⟨w.goes, w.stops, fun _ _ _ _ _ _ y => y⟩
  · obtain ⟨rfl, q⟩ := y
    have q := q vs g
    obtain ⟨v, hv, rv⟩ := (k.all r).get (List.getElem?_eq_getElem hi)
    rw [hv] at q
    cases q
    exact ⟨F1, _, List.getElem?_eq_getElem hi, .refl fo, rv⟩
theorem wk_tup (r : AllR (Rep K F H0) ds vs) (hs : ∀ (H : Hp) (F1 : Pa), Kept F F1 H0 H → (b = true ∨ Same H0 H) → SqT K H a vs) : WkD K F H0 b ds (Itt K a) (fun H => SqT K H a vs) := by
  have hl := AllR.len r
  refine ⟨?_, fun i H x H' hi g y F1 k fo => ?_, hs⟩
  · have w := walk_tup (K := K) (a := a) (xs := vs)
    rw [hl] at w
    exact ⟨w.goes, w.stops, fun _ _ _ _ _ _ y => y⟩
  · obtain ⟨rfl, q⟩ := y
    have q := q vs g
    obtain ⟨v, hv, rv⟩ := (k.all r).get (List.getElem?_eq_getElem hi)
    rw [hv] at q
    cases q
    exact ⟨F1, _, List.getElem?_eq_getElem hi, .refl fo, rv⟩
theorem wk_range {lo : Int} {n : Nat} : WkD K F H0 b ((List.range n).map fun (k : Nat) => .int (lo + k)) (Itr lo n) (fun _ => True) := by
  refine ⟨?_, fun i H x H' hi g y F1 k fo => ?_, fun _ _ _ _ => trivial⟩
  · have w := walk_range (lo := lo) (n := n)
    rw [List.length_map, List.length_range]
    exact ⟨w.goes, w.stops, fun _ _ _ _ _ _ y => y⟩
  · obtain ⟨rfl, rfl⟩ := y
    rw [List.length_map, List.length_range] at hi
    refine ⟨F1, .int (lo + i), ?_, .refl fo, sv_rep rfl⟩
    rw [List.getElem?_map, List.getElem?_range hi]
    rfl
theorem wk_rev (r : AllR (Rep K F H0) ds vs) (hs : ∀ (H : Hp) (F1 : Pa), Kept F F1 H0 H → (b = true ∨ Same H0 H) → SqL K H a vs) : WkD K F H0 b ds.reverse (Itv K a vs.length) (fun H => SqL K H a vs) := by
  have hl := AllR.len r
  refine ⟨?_, fun i H x H' hi g y F1 k fo => ?_, hs⟩
  · have w := walk_rev (K := K) (a := a) (xs := vs)
    rw [List.length_reverse, ← hl]
    exact ⟨w.goes, w.stops, fun _ _ _ _ _ _ y => y⟩
  · obtain ⟨rfl, q⟩ := y
    have q := q vs g
    rw [List.length_reverse] at hi
    have hj : ds.length - 1 - i < ds.length := by omega
    obtain ⟨v, hv, rv⟩ := (k.all r).get (List.getElem?_eq_getElem hj)
    rw [hl, hv] at q
    cases q
    refine ⟨F1, _, ?_, .refl fo, rv⟩
    rw [List.getElem?_reverse hi]
    exact List.getElem?_eq_getElem hj
theorem walk_revT {xs : List V} : Walk (RT.ItvT K a xs.length) xs.length (fun H => SqT K H a xs) (RT.ItvT K a xs.length).yld :=
  ⟨fun i H hi q => ⟨hi, xs, xs[xs.length - 1 - i], q, by
    have hj : xs.length - 1 - i < xs.length := by omega
    exact List.getElem?_eq_getElem hj⟩, fun H q => Nat.le_refl _, fun _ _ _ _ _ _ y => y⟩
theorem wk_revT (r : AllR (Rep K F H0) ds vs) (hs : ∀ (H : Hp) (F1 : Pa), Kept F F1 H0 H → (b = true ∨ Same H0 H) → SqT K H a vs) : WkD K F H0 b ds.reverse (RT.ItvT K a vs.length) (fun H => SqT K H a vs) := by
  have hl := AllR.len r
  refine ⟨?_, fun i H x H' hi g y F1 k fo => ?_, hs⟩
  · have w := walk_revT (K := K) (a := a) (xs := vs)
    rw [List.length_reverse, ← hl]
    exact w
  · obtain ⟨rfl, q⟩ := y
    have q := q vs g
    rw [List.length_reverse] at hi
    have hj : ds.length - 1 - i < ds.length := by omega
    obtain ⟨v, hv, rv⟩ := (k.all r).get (List.getElem?_eq_getElem hj)
    rw [hl, hv] at q
    cases q
    refine ⟨F1, _, ?_, .refl fo, rv⟩
    rw [List.getElem?_reverse hi]
    exact List.getElem?_eq_getElem hj
theorem zipD_len : ∀ {xs ys : List D}, (zipD xs ys).length = min xs.length ys.length
  | [], _ => by simp [zipD]
  | _ :: _, [] => by simp [zipD]
  | x :: xs, y :: ys => by simp only [zipD, List.length_cons, zipD_len (xs := xs) (ys := ys)]; omega
theorem zipD_get : ∀ {xs ys : List D} {i : Nat} {x y : D}, xs[i]? = some x → ys[i]? = some y → (zipD xs ys)[i]? = some (.tup [x, y])
  | [], _, _, _, _, h, _ => by simp at h
  | _ :: _, [], _, _, _, _, h => by simp at h
  | x :: xs, y :: ys, 0, a, b, h, h' => by
    simp only [List.getElem?_cons_zero, Option.some.injEq] at h h'
    subst h h'
    rfl
  | x :: xs, y :: ys, i + 1, a, b, h, h' => by
    simp only [List.getElem?_cons_succ] at h h'
    simp only [zipD, List.getElem?_cons_succ]
    exact zipD_get h h'
theorem pair_new {F1 : Pa} {H : Hp} {T : Addr} {d e : D} {x y : V} (fo : ∀ a, F1 a → (H a).isSome = true) (hT : H T = none) (hd : Rep K F1 H d x) (he : Rep K F1 H e y) :
    ∃ F2 : Pa, Ext F1 H F2 (upd H T (.tup [x, y])) ∧ Rep K F2 (upd H T (.tup [x, y])) (.tup [d, e]) (.ref T) := by
  have e1 := Ext.laidF (o := .tup [x, y]) fo hT
  exact ⟨_, e1, mk_tup upd_same (.inr rfl) ⟨x, [y], rfl, hd.mono e1.same e1.up, y, [], rfl, he.mono e1.same e1.up, rfl⟩⟩
theorem wk_zip (r : AllR (Rep K F H0) ds vs) (r' : AllR (Rep K F H0) es ws) (hs : ∀ (H : Hp) (F1 : Pa), Kept F F1 H0 H → (b = true ∨ Same H0 H) → SqL K H a vs ∧ SqL K H c ws) :
    WkD K F H0 b (zipD ds es) (Itz K a c) (fun H => SqL K H a vs ∧ SqL K H c ws) := by
  refine ⟨?_, fun i H x H' hi g y F1 k fo => ?_, hs⟩
  · have w := walk_zip (K := K) (a := a) (b := c) (xs := vs) (ys := ws) (n := (zipD ds es).length) (by rw [zipD_len, AllR.len r, AllR.len r'])
    exact ⟨w.goes, w.stops, fun _ _ _ _ _ _ y => y⟩
  · obtain ⟨T, x1, x2, rfl, hT, rfl, q1, q2⟩ := y
    rw [zipD_len] at hi
    have h1 : i < ds.length := by omega
    have h2 : i < es.length := by omega
    obtain ⟨v, hv, rv⟩ := (k.all r).get (List.getElem?_eq_getElem h1)
    obtain ⟨u, hu, ru⟩ := (k.all r').get (List.getElem?_eq_getElem h2)
    rw [q1 vs g.1] at hv
    rw [q2 ws g.2] at hu
    cases hv
    cases hu
    obtain ⟨F2, e1, e2⟩ := pair_new fo hT rv ru
    exact ⟨F2, _, zipD_get (List.getElem?_eq_getElem h1) (List.getElem?_eq_getElem h2), e1, e2⟩
theorem walk_zipT {n : Nat} {xs ys : List V} (hn : n = min xs.length ys.length) : Walk (RZ.ItzT K a c) n (fun H => SqT K H a xs ∧ SqT K H c ys) (RZ.ItzT K a c).yld := by
  subst hn
  refine ⟨fun i _ hi q => ?_, fun _ q => ⟨xs, ys, q.1, q.2, by omega⟩, fun _ _ _ _ _ _ y => y⟩
  have h1 : i < xs.length := by omega
  have h2 : i < ys.length := by omega
  exact ⟨xs, ys, xs[i], ys[i], q.1, q.2, by simp [h1], by simp [h2]⟩
theorem wk_zipT (r : AllR (Rep K F H0) ds vs) (r' : AllR (Rep K F H0) es ws) (hs : ∀ (H : Hp) (F1 : Pa), Kept F F1 H0 H → (b = true ∨ Same H0 H) → SqT K H a vs ∧ SqT K H c ws) :
    WkD K F H0 b (zipD ds es) (RZ.ItzT K a c) (fun H => SqT K H a vs ∧ SqT K H c ws) := by
  refine ⟨walk_zipT (by rw [zipD_len, AllR.len r, AllR.len r']), fun i H x H' hi g y F1 k fo => ?_, hs⟩
  obtain ⟨T, x1, x2, rfl, hT, rfl, q1, q2⟩ := y
  rw [zipD_len] at hi
  have h1 : i < ds.length := by omega
  have h2 : i < es.length := by omega
  obtain ⟨v, hv, rv⟩ := (k.all r).get (List.getElem?_eq_getElem h1)
  obtain ⟨u, hu, ru⟩ := (k.all r').get (List.getElem?_eq_getElem h2)
  rw [q1 vs g.1] at hv
  rw [q2 ws g.2] at hu
  cases hv
  cases hu
  obtain ⟨F2, e1, e2⟩ := pair_new fo hT rv ru
  exact ⟨F2, _, zipD_get (List.getElem?_eq_getElem h1) (List.getElem?_eq_getElem h2), e1, e2⟩
theorem enmD_len : ∀ {xs : List D} {k : Nat}, (enmD k xs).length = xs.length
  | [], _ => rfl
  | x :: xs, k => by simp only [enmD, List.length_cons, enmD_len (xs := xs)]
theorem enmD_get : ∀ {xs : List D} {k i : Nat} {x : D}, xs[i]? = some x → (enmD k xs)[i]? = some (.tup [.int ((k + i : Nat) : Int), x])
  | [], _, _, _, h => by simp at h
  | x :: xs, k, 0, a, h => by
    simp only [List.getElem?_cons_zero, Option.some.injEq] at h
    subst h
    rfl
  | x :: xs, k, i + 1, a, h => by
    simp only [List.getElem?_cons_succ] at h
    simp only [enmD, List.getElem?_cons_succ]
    rw [enmD_get h]
    have : k + 1 + i = k + (i + 1) := by omega
    rw [this]
theorem wk_enum (r : AllR (Rep K F H0) ds vs) (hs : ∀ (H : Hp) (F1 : Pa), Kept F F1 H0 H → (b = true ∨ Same H0 H) → SqL K H a vs) : WkD K F H0 b (enmD 0 ds) (Ite K a) (fun H => SqL K H a vs) := by
  refine ⟨?_, fun i H x H' hi g y F1 k fo => ?_, hs⟩
  · have w := walk_enum (K := K) (a := a) (xs := vs)
    rw [enmD_len, ← AllR.len r]
    exact ⟨w.goes, w.stops, fun _ _ _ _ _ _ y => y⟩
  · obtain ⟨T, x1, rfl, hT, rfl, q1⟩ := y
    rw [enmD_len] at hi
    obtain ⟨v, hv, rv⟩ := (k.all r).get (List.getElem?_eq_getElem hi)
    rw [q1 vs g] at hv
    cases hv
    obtain ⟨F2, e1, e2⟩ := pair_new (d := .int (i : Nat)) (x := .int (i : Nat)) fo hT (sv_rep rfl) rv
    refine ⟨F2, _, enmD_get (List.getElem?_eq_getElem hi), e1, ?_⟩
    rw [Nat.zero_add]
    exact e2
theorem wk_enumT (r : AllR (Rep K F H0) ds vs) (hs : ∀ (H : Hp) (F1 : Pa), Kept F F1 H0 H → (b = true ∨ Same H0 H) → SqT K H a vs) : WkD K F H0 b (enmD 0 ds) (IteT K a) (fun H => SqT K H a vs) := by
  refine ⟨?_, fun i H x H' hi g y F1 k fo => ?_, hs⟩
  · have w := walk_enumT (K := K) (a := a) (xs := vs)
    rw [enmD_len, ← AllR.len r]
    exact ⟨w.goes, w.stops, fun _ _ _ _ _ _ y => y⟩
  · obtain ⟨T, x1, rfl, hT, rfl, q1⟩ := y
    rw [enmD_len] at hi
    obtain ⟨v, hv, rv⟩ := (k.all r).get (List.getElem?_eq_getElem hi)
    rw [q1 vs g] at hv
    cases hv
    obtain ⟨F2, e1, e2⟩ := pair_new (d := .int (i : Nat)) (x := .int (i : Nat)) fo hT (sv_rep rfl) rv
    refine ⟨F2, _, enmD_get (List.getElem?_eq_getElem hi), e1, ?_⟩
    rw [Nat.zero_add]
    exact e2
end

section
variable {X : Cx} {φ : List Nat} {b : Bool} {fa fb : Sem1} {fs : List D → Option (List D)} {tg e e2 : Expr} {es : List Expr} {p pos tpos : Pos} {elts : List Expr} {kk : Nat}
/-- how a thing that is walked has to come -/
def rW (b : Bool) : Res := if b then .own 0 else .md 1
theorem rw_list {K : PySem.W.Frag} {F : Pa} {H H0 : Hp} {ds : List D} {v : V} (h : (rW b).ok K H0 F H (.lst ds) v) : ∃ a vs, v = .ref a ∧ H a = some (.lst vs) ∧ AllR (Rep K F H) ds vs ∧ (∀ (H' : Hp) (F1 : Pa), Kept F F1 H H' → (b = true ∨ Same H H') → SqL K H' a vs) := by
  cases b with
  | true =>
    obtain ⟨a, vs, e, t, r⟩ := rep_lst (of0 h)
    exact ⟨a, vs, e, t.1, r, fun H' F1 k _ => SqL.of (k.hp _ t.2 _ t.1)⟩
  | false =>
    obtain ⟨a, vs, e, t, r⟩ := (show ∃ a vs, v = .ref a ∧ H a = some (.lst vs) ∧ AllR (Rep K F H) ds vs from h)
    exact ⟨a, vs, e, t, r, fun H' F1 k s => by
      rcases s with s | s
      · cases s
      · exact SqL.of (s _ _ t)⟩
theorem rw_scr {K : PySem.W.Frag} {F : Pa} {H H0 : Hp} {ds : List D} {v : V} (h : (rW b).ok K H0 F H (.scr ds) v) : ∃ a vs, v = .ref a ∧ SqL K H a vs ∧ AllR (Rep K F H) ds vs ∧ (∀ (H' : Hp) (F1 : Pa), Kept F F1 H H' → (b = true ∨ Same H H') → SqL K H' a vs) := by
  have h : Rep K F H (.scr ds) v := by
    cases b with
    | true => exact of0 h
    | false => exact h
  obtain ⟨a, vs, e, t, r⟩ := rep_scr h
  exact ⟨a, vs, e, t.sq, r, fun H' F1 k _ => (k.ls t).sq⟩
theorem rw_tup {K : PySem.W.Frag} {F : Pa} {H H0 : Hp} {ds : List D} {v : V} (h : (rW b).ok K H0 F H (.tup ds) v) : ∃ a vs, v = .ref a ∧ SqT K H a vs ∧ AllR (Rep K F H) ds vs ∧ (∀ (H' : Hp) (F1 : Pa), Kept F F1 H H' → (b = true ∨ Same H H') → SqT K H' a vs) := by
  cases b with
  | true =>
    obtain ⟨a, vs, e, t, r⟩ := rep_tup (of0 h)
    exact ⟨a, vs, e, t.sq, r, fun H' F1 k _ => (k.ta t).sq⟩
  | false =>
    obtain ⟨a, vs, e, t, r⟩ := (show ∃ a vs, v = .ref a ∧ SqT K H a vs ∧ AllR (Rep K F H) ds vs from h)
    exact ⟨a, vs, e, t, r, fun H' F1 k s => by
      rcases s with s | s
      · cases s
      · exact Same.sqt s t⟩
theorem i_ex (ha : PE X e (RdE X.K φ (rW b) fa)) : PI X tg e (RdI X.K φ b fun ρ => (fa ρ).bind itemsD) := by
  refine piI (piOr (pi_list ha) (pi_tup ha)) fun σ H R ⟨ρ, F, S, st, ds, e, q⟩ => ?_
  dsimp only at e
  obtain ⟨x, ex, e⟩ := bind_some e
  cases x <;> simp only [itemsD, reduceCtorEq, Option.some.injEq] at e <;> subst e
  · refine .inl ⟨ρ, F, S, st, _, ex, fun v H1 F1 e1 r1 => ?_⟩
    obtain ⟨a, vs, rfl, h1, r, hs⟩ := rw_scr r1
    exact ⟨a, rfl, ⟨vs, h1⟩, q _ _ _ _ e1 (wk_list r hs)⟩
  · refine .inr ⟨ρ, F, S, st, _, ex, fun v H1 F1 e1 r1 => ?_⟩
    obtain ⟨a, vs, rfl, h1, r, hs⟩ := rw_tup r1
    exact ⟨a, rfl, ⟨vs, h1⟩, q _ _ _ _ e1 (wk_tup r hs)⟩
  · refine .inl ⟨ρ, F, S, st, _, ex, fun v H1 F1 e1 r1 => ?_⟩
    obtain ⟨a, vs, rfl, h1, r, hs⟩ := rw_list r1
    exact ⟨a, rfl, ⟨vs, SqL.of h1⟩, q _ _ _ _ e1 (wk_list r hs)⟩
theorem oks_bor1 {K : PySem.W.Frag} {F : Pa} {H H0 : Hp} {d : D} {vs : List V} (h : Oks .bor K H0 F H [d] vs) : ∃ v, vs = [v] ∧ Rep K Any H d v := by
  obtain ⟨v, r, rfl, h1, h2⟩ := h
  have : r = [] := h2
  subst this
  exact ⟨v, rfl, h1⟩
theorem oks_bor2 {K : PySem.W.Frag} {F : Pa} {H H0 : Hp} {d d' : D} {vs : List V} (h : Oks .bor K H0 F H [d, d'] vs) : ∃ v v', vs = [v, v'] ∧ Rep K Any H d v ∧ Rep K Any H d' v' := by
  obtain ⟨v, r, rfl, h1, w, r', rfl, h2, h3⟩ := h
  have : r' = [] := h3
  subst this
  exact ⟨v, w, rfl, h1, h2⟩
theorem i_rg1 {a : Expr} (hg : Gl X "range") (hm : X.mg "range" = none) (hp : plainE a = true) (ha : PA X [a] (RdA X.K φ .bor fs)) (h1 : ∀ ρ ds, fs ρ = some ds → ds.length = 1) : PI X tg (.Call (.Name "range" p) [a] [] pos) (RdI X.K φ b fun ρ => (fs ρ).bind rgD) := by
  refine piI (pi_range1 hg hm ha (by rw [plain_star hp]; rfl)) fun σ H R ⟨ρ, F, S, st, ds, e, q⟩ => ?_
  dsimp only at e
  obtain ⟨xs, ex, e⟩ := bind_some e
  have hl := h1 ρ xs ex
  match xs, hl with
  | [x], _ =>
    cases x <;> simp only [rgD, reduceCtorEq] at e
    rename_i n hl'
    split at e
    · rename_i hn
      cases e
      refine ⟨ρ, F, S, st, _, ex, fun vs H1 F1 e1 r1 => ?_⟩
      obtain ⟨v, rfl, r⟩ := oks_bor1 r1
      have := rep_int r
      subst this
      refine ⟨n, rfl, hn.1, hn.2, ?_⟩
      have w := wk_range (K := X.K) (F := F1) (H0 := H1) (b := b) (lo := 0) (n := n.toNat)
      simp only [Int.zero_add] at w
      exact q _ _ _ _ e1 w
    · cases e
theorem i_rg2 {a c : Expr} (hg : Gl X "range") (hm : X.mg "range" = none) (hp : plainE a = true) (hp2 : plainE c = true) (ha : PA X [a, c] (RdA X.K φ .bor fs)) (h1 : ∀ ρ ds, fs ρ = some ds → ds.length = 2) : PI X tg (.Call (.Name "range" p) [a, c] [] pos) (RdI X.K φ b fun ρ => (fs ρ).bind rgD) := by
  refine piI (pi_range2 hg hm ha (by rw [plain_star hp, plain_star hp2]; rfl) (by rw [plain_star hp2]; rfl)) fun σ H R ⟨ρ, F, S, st, ds, e, q⟩ => ?_
  dsimp only at e
  obtain ⟨xs, ex, e⟩ := bind_some e
  have hl := h1 ρ xs ex
  match xs, hl with
  | [x, y], _ =>
    cases x <;> cases y <;> simp only [rgD, reduceCtorEq] at e
    rename_i m n hl'
    split at e
    · rename_i hn
      cases e
      refine ⟨ρ, F, S, st, _, ex, fun vs H1 F1 e1 r1 => ?_⟩
      obtain ⟨v, v', rfl, r, r'⟩ := oks_bor2 r1
      have := rep_int r
      have := rep_int r'
      subst v v'
      exact ⟨m, n, rfl, hn, q _ _ _ _ e1 wk_range⟩
    · cases e
theorem wk_rangeN {K : PySem.W.Frag} {F : Pa} {H0 : Hp} {b : Bool} {lo : Int} {n : Nat} : WkD K F H0 b ((List.range n).map fun (k : Nat) => .int (lo + k * (-1))) (Itc lo (-1) n) (fun _ => True) := by
  refine ⟨?_, fun i H x H' hi g y F1 k fo => ?_, fun _ _ _ _ => trivial⟩
  · have w := walk_rangeC (lo := lo) (c := -1) (n := n)
    rw [List.length_map, List.length_range]
    exact ⟨w.goes, w.stops, fun _ _ _ _ _ _ y => y⟩
  · obtain ⟨rfl, rfl⟩ := y
    rw [List.length_map, List.length_range] at hi
    refine ⟨F1, .int (lo + i * (-1)), ?_, .refl fo, sv_rep rfl⟩
    rw [List.getElem?_map, List.getElem?_range hi]
    rfl
theorem i_rg3 {a c d : Expr} (hg : Gl X "range") (hm : X.mg "range" = none) (hp : plainE a = true) (hp2 : plainE c = true) (hp3 : plainE d = true) (ha : PA X [a, c, d] (RdA X.K φ .bor fs)) (h1 : ∀ ρ ds, fs ρ = some ds → ds.length = 3) : PI X tg (.Call (.Name "range" p) [a, c, d] [] pos) (RdI X.K φ b fun ρ => (fs ρ).bind rgD) := by
  refine piI (pi_range3 hg hm ha (by rw [plain_star hp]) (by rw [plain_star hp2, plain_star hp3]; rfl)) fun σ H R ⟨ρ, F, S, st, ds, e, q⟩ => ?_
  dsimp only at e
  obtain ⟨xs, ex, e⟩ := bind_some e
  have hl := h1 ρ xs ex
  match xs, hl with
  | [x, y, z], _ =>
    cases x <;> cases y <;> cases z <;> simp only [rgD, reduceCtorEq] at e
    rename_i m n w hl'
    split at e
    · rename_i hn
      cases e
      refine ⟨ρ, F, S, st, _, ex, fun vs H1 F1 e1 r1 => ?_⟩
      obtain ⟨v, r0, rfl, r, v', r0', rfl, r', v'', r0'', rfl, r'', hnil⟩ := r1
      have hnil : r0'' = [] := hnil
      subst hnil
      have := rep_int (bor_of r)
      have := rep_int (bor_of r')
      have := rep_int (bor_of r'')
      subst v v' v''
      obtain ⟨rfl, hn⟩ := hn
      exact ⟨m, n, -1, (m - n).toNat, rfl, RgC.neg hn.1 hn.2.1 hn.2.2.1 hn.2.2.2, q _ _ _ _ e1 wk_rangeN⟩
    · cases e
theorem i_zip {a c : Expr} (hg : Gl X "zip") (hm : X.mg "zip" = none) (hp : plainE a = true) (hp2 : plainE c = true) (ha : PE X a (RdE X.K φ (rW b) fa)) (hc : PE X c (RdE X.K φ (rW b) fb)) :
    PI X (.Tuple elts kk tpos) (.Call (.Name "zip" p) [a, c] [] pos) (RdI X.K φ b fun ρ => (fa ρ).bind fun x => (fb ρ).bind fun y => (match x, y with
      | .lst xs, .lst ys => some (zipD xs ys)
      | .tup xs, .tup ys => some (zipD xs ys)
      | _, _ => none)) := by
  refine piI (RZ.pi_zipA hg hm (pa_cons ha (pa_cons hc pa_nil (plain_star hp2 _ _)) (plain_star hp _ _)) (plain_star hp _ _) (by rw [plain_star hp2]; rfl)) fun σ H R ⟨ρ, F, S, st, ds, e, q⟩ => ?_
  dsimp only at e
  obtain ⟨x, ex, e⟩ := bind_some e
  obtain ⟨y, ey, e⟩ := bind_some e
  refine ⟨ρ, F, S, st, x, ex, fun v H1 F1 e1 r1 => ⟨ρ, F1, S, st.ext e1, y, ey, fun u H2 F2 e2 r2 => ?_⟩⟩
  have r1' := Res.mono r1 e2
  cases x <;> cases y <;> simp only [reduceCtorEq, Option.some.injEq] at e <;> subst e
  · obtain ⟨a, vs, rfl, h1, r, hs⟩ := rw_tup r1'
    obtain ⟨c, ws, rfl, h2, r', hs'⟩ := rw_tup r2
    exact ⟨a, c, vs, ws, rfl, .inr ⟨h1, h2, q _ _ _ _ (e1.trans e2) (wk_zipT r r' fun H' F1 k s => ⟨hs H' F1 k s, hs' H' F1 k s⟩)⟩⟩
  · obtain ⟨a, vs, rfl, h1, r, hs⟩ := rw_list r1'
    obtain ⟨c, ws, rfl, h2, r', hs'⟩ := rw_list r2
    exact ⟨a, c, vs, ws, rfl, .inl ⟨SqL.of h1, SqL.of h2, q _ _ _ _ (e1.trans e2) (wk_zip r r' fun H' F1 k s => ⟨hs H' F1 k s, hs' H' F1 k s⟩)⟩⟩
theorem i_enm {a : Expr} (hg : Gl X "enumerate") (hm : X.mg "enumerate" = none) (hp : plainE a = true) (ha : PE X a (RdE X.K φ (rW b) fa)) :
    PI X (.Tuple elts kk tpos) (.Call (.Name "enumerate" p) [a] [] pos) (RdI X.K φ b fun ρ => (fa ρ).bind fun x => (match x with
      | .lst xs => some (enmD 0 xs)
      | .tup xs => some (enmD 0 xs)
      | _ => none)) := by
  refine piI (pi_enumA hg hm (pa_cons ha pa_nil (plain_star hp _ _)) (plain_star hp _ _)) fun σ H R ⟨ρ, F, S, st, ds, e, q⟩ => ?_
  dsimp only at e
  obtain ⟨x, ex, e⟩ := bind_some e
  refine ⟨ρ, F, S, st, x, ex, fun v H1 F1 e1 r1 => ?_⟩
  cases x <;> simp only [reduceCtorEq, Option.some.injEq] at e <;> subst e
  · obtain ⟨a, vs, rfl, h1, r, hs⟩ := rw_tup r1
    exact ⟨a, vs, rfl, .inr ⟨h1, q _ _ _ _ e1 (wk_enumT r hs)⟩⟩
  · obtain ⟨a, vs, rfl, h1, r, hs⟩ := rw_list r1
    exact ⟨a, vs, rfl, .inl ⟨SqL.of h1, q _ _ _ _ e1 (wk_enum r hs)⟩⟩
theorem i_rvs {a : Expr} (hg : Gl X "reversed") (hm : X.mg "reversed" = none) (hp : plainE a = true) (ha : PE X a (RdE X.K φ (rW b) fa)) :
    PI X tg (.Call (.Name "reversed" p) [a] [] pos) (RdI X.K φ b fun ρ => (fa ρ).bind fun x => (itemsD x).map List.reverse) := by
  refine piI (RT.pi_revA hg hm ha (plain_star hp _ _)) fun σ H R ⟨ρ, F, S, st, ds, e, q⟩ => ?_
  dsimp only at e
  obtain ⟨x, ex, e⟩ := bind_some e
  refine ⟨ρ, F, S, st, x, ex, fun v H1 F1 e1 r1 => ?_⟩
  cases x <;> simp only [itemsD, reduceCtorEq, Option.some.injEq, Option.map_none, Option.map_some] at e <;> subst e
  · obtain ⟨a, vs, rfl, h1, r, hs⟩ := rw_scr r1
    exact ⟨a, vs, rfl, .inl ⟨h1, q _ _ _ _ e1 (wk_rev r hs)⟩⟩
  · obtain ⟨a, vs, rfl, h1, r, hs⟩ := rw_tup r1
    exact ⟨a, vs, rfl, .inr ⟨h1, q _ _ _ _ e1 (wk_revT r hs)⟩⟩
  · obtain ⟨a, vs, rfl, h1, r, hs⟩ := rw_list r1
    exact ⟨a, vs, rfl, .inl ⟨SqL.of h1, q _ _ _ _ e1 (wk_rev r hs)⟩⟩
end
end Ev

/-! Built-in functions. -/
namespace Ev
open PySem PySem.Spec PyProof.Rows L2

section
variable {X : Cx} {pins : List (Addr × Obj)} {σ : L2.St} {H : Hp} {s : Shared}
/-- iter(u) walks the items us, as they stand -/
def WalksU (P : Program) (w : World) (s : Shared) (u : Value) (us : List Value) : Prop :=
  ∀ {A : Around} {E Q : Value → Shared → Prop}, A.handled = none → (∀ (o : Obj) (fp : List Addr) (St : Nat → Shared → Prop) (s₂ : Shared), s₂ = { s with heap := s.heap.push o } →
    WalksS P w A s.heap.objs.size fp [s.heap.objs.size] (fun a b => b = a) us.length (fun i v => us[i]? = some v) St → St 0 s₂ → (∀ b ∈ fp, b < s₂.heap.objs.size) →
    (∀ b o, s.heap.get? b = some o → b ∉ [s.heap.objs.size]) → (∀ b o, s.heap.get? b = some o → s₂.heap.get? b = some o) → Q (.ref s.heap.objs.size) s₂) → wpAny (model P w) A (pyIter u) Q E s
theorem arr_at (its : List Value) : (fun (i : Nat) v => its.toArray[i]? = some v) = fun i v => its[i]? = some v := by
  funext i v
  rw [List.getElem?_toArray]
theorem walksU_list {P : Program} {w : World} {s : Shared} {l : Addr} {its : List Value} (hl : s.heap.IsList l its.toArray) : WalksU P w s (.ref l) its := fun {A E Q} hh h => by
  refine PySem.W.iter_listW hh hl fun s₂ e W st hfp h1 h2 => ?_
  rw [List.size_toArray, arr_at] at W
  exact h _ _ _ s₂ e W st hfp h1 h2
theorem walksU_tuple {P : Program} {w : World} {s : Shared} {l : Addr} {its : List Value} (hl : s.heap.IsTuple l its.toArray) : WalksU P w s (.ref l) its := fun {A E Q} hh h => by
  refine PySem.W.iter_tupleW hh hl fun s₂ e W st hfp h1 h2 => ?_
  rw [List.size_toArray, arr_at] at W
  exact h _ _ _ s₂ e W st hfp h1 h2
theorem seq_walk (I : Inv X pins σ H s) {d : D} {xs : List D} {v : V} {u : Value} (hd : itemsD d = some xs) (r : Rep X.K Any H d v) (ru : RelV v u) :
    ∃ (us : List Value) (vs : List V), AllR (Rep X.K Any H) xs vs ∧ Vals vs us ∧ us.length = xs.length ∧ us.length ≤ sizeLine ∧ WalksU X.prog X.w s u us := by
  cases d <;> simp only [itemsD, reduceCtorEq, Option.some.injEq] at hd <;> subst hd
  · obtain ⟨a, vs, rfl, t, q⟩ := rep_scr r
    cases ru
    obtain ⟨its, rv, pl, hz⟩ := I.list t.sq
    exact ⟨its, vs, q, rv, by rw [← rv.length, AllR.len q], by rw [← rv.length]; exact hz, walksU_list pl.isList⟩
  · obtain ⟨a, vs, rfl, t, q⟩ := rep_tup r
    cases ru
    obtain ⟨its, rv, pl, hz⟩ := I.tuple t.sq
    exact ⟨its, vs, q, rv, by rw [← rv.length, AllR.len q], by rw [← rv.length]; exact hz, walksU_tuple pl⟩
  · obtain ⟨a, vs, rfl, t, q⟩ := rep_lst r
    cases ru
    obtain ⟨its, rv, pl, hz⟩ := I.list t.sq
    exact ⟨its, vs, q, rv, by rw [← rv.length, AllR.len q], by rw [← rv.length]; exact hz, walksU_list pl.isList⟩
/-- a walk over a new object changes nothing that stood -/
theorem Inv.walked (I : Inv X pins σ H s) {o : Obj} {s₂ s' : Shared} (e : s₂ = { s with heap := s.heap.push o }) (m : Moved [s.heap.objs.size] (fun a b => b = a) s₂ s') : Inv X pins σ H s' := by
  obtain ⟨h', tk, rfl, hk⟩ := PySem.W.moved_old e rfl m
  exact I.kept hk
theorem ints_at : ∀ {xs : List D} {ns : List Int} {vs : List V} {us : List Value}, intsD xs = some ns → AllR (Rep X.K Any H) xs vs → Vals vs us → vs = ns.map V.int ∧ ns.length = xs.length
  | [], ns, vs, us, h, q, _ => by
    cases h
    have q : vs = [] := q
    rw [q]
    exact ⟨rfl, rfl⟩
  | d :: ds, ns, vs, us, h, ⟨v, r, e, h1, h2⟩, rv => by
    subst e
    cases rv with
    | cons r1 rr =>
      cases d <;> simp only [intsD, reduceCtorEq] at h
      rename_i i
      cases h' : intsD ds with
      | none => rw [h'] at h; cases h
      | some ms =>
        rw [h'] at h
        cases h
        obtain ⟨e1, e2⟩ := ints_at (xs := ds) (ns := ms) (vs := r) h' h2 rr
        rw [rep_int h1, e1]
        exact ⟨rfl, by simp [e2]⟩
theorem preSum_take (ns : List Int) : ∀ k, k ≤ ns.length → preSum (fun i => ns.getD i 0) k = (ns.take k).sum
  | 0, _ => by simp [preSum]
  | k + 1, h => by
    rw [preSum, preSum_take ns k (by omega), List.take_succ_eq_append_getElem (by omega), List.sum_append]
    simp [List.getD_eq_getElem?_getD, List.getElem?_eq_getElem (show k < ns.length by omega)]
theorem vals_int_at {ns : List Int} {us : List Value} (rv : Vals (ns.map V.int) us) {i : Nat} {v : Value} (h : us[i]? = some v) : ∃ t, v = .int (ns.getD i 0) t := by
  have hi : i < us.length := (List.getElem?_eq_some_iff.mp h).1
  have hn : i < ns.length := by have := rv.length; rw [List.length_map] at this; omega
  obtain ⟨u, hu, r⟩ := rv.get (i := i) (x := .int (ns.getD i 0)) (by rw [List.getElem?_map, List.getElem?_eq_getElem hn]; simp [List.getD_eq_getElem?_getD, List.getElem?_eq_getElem hn])
  rw [h] at hu
  cases hu
  exact r
/-- a call over data whose answer is a plain value -/
def rB (K : PySem.W.Frag) (f : BI) : List V → Hp → VK → Prop := fun vs H Q => ∃ ds d v, AllR (Rep K Any H) ds vs ∧ biD f ds = some d ∧ sv d = some v ∧ Q v H
theorem one_of {K : PySem.W.Frag} {d : D} {vs : List V} (h : AllR (Rep K Any H) [d] vs) : ∃ v, vs = [v] ∧ Rep K Any H d v := by
  obtain ⟨v, r, rfl, h1, h2⟩ := h
  have : r = [] := h2
  subst this
  exact ⟨v, rfl, h1⟩
theorem two_of {K : PySem.W.Frag} {d e : D} {vs : List V} (h : AllR (Rep K Any H) [d, e] vs) : ∃ v w, vs = [v, w] ∧ Rep K Any H d v ∧ Rep K Any H e w := by
  obtain ⟨v, r, rfl, h1, w, r', rfl, h2, h3⟩ := h
  have : r' = [] := h3
  subst this
  exact ⟨v, w, rfl, h1, h2⟩
theorem three_of {K : PySem.W.Frag} {d e f : D} {vs : List V} (h : AllR (Rep K Any H) [d, e, f] vs) : ∃ v w z, vs = [v, w, z] ∧ Rep K Any H d v ∧ Rep K Any H e w ∧ Rep K Any H f z := by
  obtain ⟨v, r, rfl, h1, w, r', rfl, h2, z, r'', rfl, h3, h4⟩ := h
  have : r'' = [] := h4
  subst this
  exact ⟨v, w, z, rfl, h1, h2, h3⟩
theorem one1_some {f : D → Option D} {ds : List D} {d : D} (h : one1 f ds = some d) : ∃ x, ds = [x] ∧ f x = some d := by
  cases ds with
  | nil => cases h
  | cons x r =>
    cases r with
    | nil => exact ⟨x, rfl, h⟩
    | cons y r => cases h
theorem map_some' {α β : Type} {o : Option α} {f : α → β} {d : β} (h : o.map f = some d) : ∃ x, o = some x ∧ f x = d := by
  cases o with
  | none => cases h
  | some x => exact ⟨x, rfl, Option.some.inj h⟩
theorem bi_len : CallR X (.builtin "len") (rB X.K .len) := by
  intro pins s σ H vs us Q I r h
  obtain ⟨ds, d, v, ha, e, hv, q⟩ := h
  replace e : one1 lenD ds = some d := e
  obtain ⟨x, rfl, e2⟩ := one1_some e
  clear e
  obtain ⟨w, rfl, hr⟩ := one_of ha
  cases x <;> simp only [lenD, reduceCtorEq, Option.some.injEq] at e2 <;> subst e2 <;> cases hv
  · obtain ⟨a, ws, rfl, t, q'⟩ := rep_scr hr
    exact call_len_seq pins s σ H _ us Q I r ⟨a, ws, rfl, .inl t.sq, by rw [AllR.len q']; exact q⟩
  · obtain ⟨a, ws, rfl, t, q'⟩ := rep_tup hr
    exact call_len_seq pins s σ H _ us Q I r ⟨a, ws, rfl, .inr t.sq, by rw [AllR.len q']; exact q⟩
  · obtain ⟨a, ws, rfl, t, q'⟩ := rep_lst hr
    exact call_len_seq pins s σ H _ us Q I r ⟨a, ws, rfl, .inl t.sq, by rw [AllR.len q']; exact q⟩
theorem bi_sum (hc : X.calm = true) : CallR X (.builtin "sum") (rB X.K .sum) := by
  intro pins s σ H vs us Q I r h
  obtain ⟨ds, d, v, ha, e, hv, q⟩ := h
  obtain ⟨x, rfl, e⟩ := one1_some e
  obtain ⟨w, rfl, hr⟩ := one_of ha
  obtain ⟨u, rfl, ru⟩ := vals1 r
  obtain ⟨xs, ex, e⟩ := bind_some e
  obtain ⟨ns, en, rfl⟩ := map_some' e
  cases hv
  obtain ⟨us, ws, q1, rv, hl, hz, wk⟩ := seq_walk I ex hr ru
  obtain ⟨rfl, hn⟩ := ints_at en q1 rv
  refine call_sum_walkAnyS (wk (by exact I.ok.hd hc) fun o fp St s₂ e W st hfp h1 h2 => ?_)
  refine ⟨_, _, _, _, _, _, _, fun i => ns.getD i 0, rfl, W, st, hfp, fun i v hv => vals_int_at rv hv, fun s' t' m => ?_⟩
  refine ⟨.int ns.sum, H, Inv.walked I e m, ⟨t', ?_⟩, q⟩
  rw [hl, ← hn, preSum_take ns _ (Nat.le_refl _), List.take_length]
theorem trus_at : ∀ {xs : List D} {bs : List Bool} {vs : List V} {us : List Value}, trusD xs = some bs → AllR (Rep X.K Any H) xs vs → Vals vs us →
    bs.length = xs.length ∧ ∀ (i : Nat) (v : Value), us[i]? = some v → ∀ {A : Around} (s : Shared) (Q : Bool → Shared → Prop) (E : Value → Shared → Prop), Q (bs.getD i false) s → wpAny (model X.prog X.w) A (truthy v) Q E s
  | [], bs, vs, us, h, q, rv => by
    cases h
    have q : vs = [] := q
    subst q
    cases rv
    exact ⟨rfl, fun i v hv => by simp at hv⟩
  | d :: ds, bs, vs, us, h, ⟨w, r, e, h1, h2⟩, rv => by
    subst e
    cases rv with
    | cons r1 rr =>
      simp only [trusD] at h
      obtain ⟨b, eb, h⟩ := bind_some h
      obtain ⟨ms, h', rfl⟩ := map_some' h
      obtain ⟨e1, e2⟩ := trus_at h' h2 rr
      refine ⟨by simp [e1], fun i v hv A s Q E hq => ?_⟩
      cases i with
      | succ i =>
        rw [List.getElem?_cons_succ] at hv
        exact e2 i v hv s Q E (by simpa [List.getD_cons_succ] using hq)
      | zero =>
        simp only [List.getElem?_cons_zero, Option.some.injEq] at hv
        subst hv
        simp only [List.getD_cons_zero] at hq
        cases d <;> simp only [truS, reduceCtorEq, Option.some.injEq] at eb <;> subst eb
        · have := rep_non h1
          subst this
          cases r1
          exact truthy_none hq
        · have := rep_bl h1
          subst this
          cases r1
          exact wpAny_truthy_bool hq
        · have := rep_int h1
          subst this
          obtain ⟨t, rfl⟩ := r1
          exact PySem.P.truthy_int hq
theorem bi_any (hc : X.calm = true) : CallR X (.builtin "any") (rB X.K .any) := by
  intro pins s σ H vs us Q I r h
  obtain ⟨ds, d, v, ha, e, hv, q⟩ := h
  obtain ⟨x, rfl, e⟩ := one1_some e
  obtain ⟨w, rfl, hr⟩ := one_of ha
  obtain ⟨u, rfl, ru⟩ := vals1 r
  obtain ⟨xs, ex, e⟩ := bind_some e
  obtain ⟨ns, en, rfl⟩ := map_some' e
  cases hv
  obtain ⟨us, ws, q1, rv, hl, hz, wk⟩ := seq_walk I ex hr ru
  obtain ⟨hn, ht⟩ := trus_at en q1 rv
  refine call_any_walkS (wk (by exact I.ok.hd hc) fun o fp St s₂ e W st hfp h1 h2 => ?_)
  refine ⟨_, _, _, _, _, _, _, fun i => ns.getD i false, rfl, W, st, fun i v s Q E hv hq => ht i v hv s Q E hq, fun s' m => ?_⟩
  refine ⟨.bl (ns.any id), H, Inv.walked I e m, ?_, q⟩
  show Value.bool _ = Value.bool _
  rw [hl, ← hn, L2.any_range]
theorem bi_all (hc : X.calm = true) : CallR X (.builtin "all") (rB X.K .all) := by
  intro pins s σ H vs us Q I r h
  obtain ⟨ds, d, v, ha, e, hv, q⟩ := h
  obtain ⟨x, rfl, e⟩ := one1_some e
  obtain ⟨w, rfl, hr⟩ := one_of ha
  obtain ⟨u, rfl, ru⟩ := vals1 r
  obtain ⟨xs, ex, e⟩ := bind_some e
  obtain ⟨ns, en, rfl⟩ := map_some' e
  cases hv
  obtain ⟨us, ws, q1, rv, hl, hz, wk⟩ := seq_walk I ex hr ru
  obtain ⟨hn, ht⟩ := trus_at en q1 rv
  refine call_all_walkS (wk (by exact I.ok.hd hc) fun o fp St s₂ e W st hfp h1 h2 => ?_)
  refine ⟨_, _, _, _, _, _, _, fun i => ns.getD i false, rfl, W, st, fun i v s Q E hv hq => ht i v hv s Q E hq, fun s' m => ?_⟩
  refine ⟨.bl (ns.all id), H, Inv.walked I e m, ?_, q⟩
  show Value.bool _ = Value.bool _
  rw [hl, ← hn, L2.all_range]
theorem bi_abs : CallR X (.builtin "abs") (rB X.K .abs) := by
  intro pins s σ H vs us Q I r h
  obtain ⟨ds, d, v, ha, e, hv, q⟩ := h
  replace e : one1 absD ds = some d := e
  obtain ⟨x, rfl, e2⟩ := one1_some e
  clear e
  obtain ⟨w, rfl, hr⟩ := one_of ha
  cases x <;> simp only [absD, reduceCtorEq, Option.some.injEq] at e2
  subst e2
  cases hv
  exact call_abs pins s σ H _ us Q I r ⟨_, by rw [rep_int hr], q⟩
theorem bi_int : CallR X (.type "int") (rB X.K .int) := by
  intro pins s σ H vs us Q I r h
  obtain ⟨ds, d, v, ha, e, hv, q⟩ := h
  replace e : one1 toIntD ds = some d := e
  obtain ⟨x, rfl, e2⟩ := one1_some e
  clear e
  obtain ⟨w, rfl, hr⟩ := one_of ha
  cases x <;> simp only [toIntD, reduceCtorEq, Option.some.injEq] at e2 <;> subst e2 <;> cases hv
  · exact call_int1 pins s σ H _ us Q I r (.inr ⟨_, by rw [rep_bl hr], q⟩)
  · exact call_int1 pins s σ H _ us Q I r (.inl ⟨_, by rw [rep_int hr], q⟩)
end
end Ev

/-! list(..) and tuple(..) of an iterator that tells its length: tuple(reversed(tuple)), list(reversed(list)). -/
namespace EvCol
open PySem PySem.Spec PyProof.Rows RT L2
theorem nolen_rt : typeLookup (.type "reversed") "__len__" = pure none := by rw [typeLookup_type, builtinLookup_eq_fast]; kernel_rfl
theorem hint_rt : typeLookup (.type "reversed") "__length_hint__" = pure (some (.builtin "reversed.__length_hint__")) := by rw [typeLookup_type, builtinLookup_eq_fast]; kernel_rfl
section
variable {prog : Program} {w : World} {A : Around} {E : Value → Shared → Prop} {s : Shared}
theorem slot_rt_hint : Slot "reversed" "__length_hint__" "reversed.__length_hint__" :=
  .of (owner := "reversed") (n := "__length_hint__") (by rw [typeLookup_type, builtinLookup_eq_fast]; kernel_rfl) (by decide +kernel) (by decide +kernel) (by decide +kernel)
    (by first | exact .inl (by decide +kernel) | exact .inr (by decide +kernel)) (by rw [isSubtype_type]; kernel_rfl)
theorem entry_rt_hint : entryFor table "reversed.__length_hint__" = some Builtin.«reversed.__length_hint__» := entryFor_of_tree (by kernel_rfl)
theorem args_rt_hint (a : Value) : argsOk "reversed.__length_hint__" ⟨[a], []⟩ := by
  unfold argsOk; rw [signature?_of (id := "reversed.__length_hint__") (n := ['_', '_', 't', 'n', 'i', 'h', '_', 'h', 't', 'g', 'n', 'e', 'l', '_', '_']) (o := ['d', 'e', 's', 'r', 'e', 'v', 'e', 'r']) (by kernel_rfl) owner_rt]; kernel_rfl
/-- what reversed(a tuple) tells of its length -/
theorem call_rt_hint {it t : Addr} {items : Array Value} {Q : Value → Shared → Prop} (hit : IsRt s.heap it t ((items.size : Int) - 1)) (ht : IsTup s.heap t items)
    (hlen : ∀ (A : Around) (E : Value → Shared → Prop) (Q : Value → Shared → Prop), Q (.int items.size (s.toks + 1)) { s with toks := s.toks + 1 + 1 } → wpAny (model prog w) A (call (.builtin "len") [.ref t]) Q E s)
    (hQ : ∀ tk tk', s.toks ≤ tk' → Q (.int items.size tk) { s with toks := tk' }) : wpAny (model prog w) A (call (.builtin "reversed.__length_hint__") [.ref it]) Q E s := by
  obtain ⟨o, ho, hc, hd⟩ := id hit
  refine wpAny_call_entry slot_rt_hint hit.typeIs entry_rt_hint ?_ (args_rt_hint _)
  unfold Builtin.«reversed.__length_hint__»
  refine wpAny_bind (wpAny_of_eq (a := Value.ref it) rfl ?_)
  try dsimp only
  refine wpAny_bind (wpAny_field ho hd (x := .ref t) rfl ?_)
  try dsimp only
  rw [if_neg (show ¬ ((Value.ref t == Value.none) = true) from Bool.false_ne_true)]
  try dsimp only
  refine wpAny_bind (hlen _ _ _ ?_)
  refine wpAny_bind (wpAny_of_eq (a := some ((items.size : Nat) : Int)) rfl ?_)
  try dsimp only
  refine wpAny_bind (wpAny_field (s := { s with toks := s.toks + 1 + 1 }) ho hd (x := rawInt ((items.size : Int) - 1)) rfl ?_)
  try dsimp only
  show wpAny _ _ (if ((items.size : Nat) : Int) < ((items.size : Int) - 1) + 1 then _ else _) _ _ _
  rw [if_neg (by omega)]
  unfold retInt
  refine wpAny_bind (wpAny_mkInt ?_)
  refine wpAny_pure ⟨_, rfl, ?_⟩
  have e : (items.size : Int) - 1 + 1 = items.size := by omega
  rw [e]
  exact hQ _ _ (by show s.toks ≤ s.toks + 1 + 1 + 1; omega)
theorem hint_of_rt {it t : Addr} {items : Array Value} {Q : Bool → Shared → Prop} (hz : items.size ≤ sizeLine) (hit : IsRt s.heap it t ((items.size : Int) - 1)) (ht : IsTup s.heap t items)
    (hlen : ∀ (A : Around) (E : Value → Shared → Prop) (Q : Value → Shared → Prop), Q (.int items.size (s.toks + 1)) { s with toks := s.toks + 1 + 1 } → wpAny (model prog w) A (call (.builtin "len") [.ref t]) Q E s)
    (hQ : ∀ b tk', s.toks ≤ tk' → Q b { s with toks := tk' }) : wpAny (model prog w) A (Builtin.List.listLengthHint (.ref it)) Q E s := by
  have hT := hit.typeIs
  unfold Builtin.List.listLengthHint
  refine wpAny_bind (wpAny_specialOf hT nolen_rt ?_)
  show wpAny _ A (specialOf (Value.ref it) (Str.ofString "__length_hint__") >>= _) _ _ _
  refine wpAny_bind (wpAny_specialOf hT hint_rt ?_)
  generalize hid : ("reversed.__length_hint__" : String) = id0
  wp_delta
  rw [show splitId id0 = some ("reversed", "__length_hint__") from by subst hid; decide +kernel]
  subst hid
  refine wpAny_bind (wpAny_isInstance (b := true) hT (by rw [isSubtype_type]; kernel_rfl) ?_)
  try dsimp only
  rw [if_neg (by decide)]
  try dsimp only
  rw [if_neg (by decide +kernel)]
  refine wpAny_bind (wpAny_rule ?_)
  refine wpAny_bind (wpAny_of_eq (slot_rt_hint.bind _) ?_)
  try dsimp only
  refine wpAny_bind (wpAny_attempt (call_rt_hint hit ht hlen fun tk tk' htk => ?_))
  have ea : asInt? (.int (items.size : Int) tk) = pure (some ((items.size : Nat) : Int)) := by first | rfl | kernel_rfl
  have key : ∀ (k : Option Int → Sem Bool), wpAny (model prog w) A (k (some ((items.size : Nat) : Int))) Q E { s with toks := tk' } → wpAny (model prog w) A (asInt? (.int (items.size : Int) tk) >>= k) Q E { s with toks := tk' } := fun k h => wpAny_bind (wpAny_of_eq ea h)
  dsimp only
  refine key _ ?_
  dsimp only
  have hs := line63
  have f1 : Builtin.List.listFitsIndex ((items.size : Nat) : Int) = true := fitsIndex_of (by omega) (by omega)
  have f2 : Builtin.List.listTooLong ((items.size : Nat) : Int).toNat = false := by
    unfold Builtin.List.listTooLong
    rw [Int.toNat_natCast]
    simp
    omega
  simp only [f1, f2, Bool.not_true, Bool.false_eq_true, if_false]
  rw [if_neg (by omega)]
  exact wpAny_pure (hQ _ _ htk)
theorem walks_rt (hh : A.handled = none) (it t : Addr) (hne : t ≠ it) (items : Array Value) (hz : items.size ≤ sizeLine) :
    Walks prog w A it [it, t] [it] items.size (fun i v => items[items.size - 1 - i]? = some v) (fun i h => i ≤ items.size ∧ IsRt h it t ((items.size : Int) - 1 - (i : Nat)) ∧ IsTup h t items) where
  sub := fun b hb => List.mem_cons.mpr (.inl (List.mem_singleton.mp hb))
  frame := fun i h h' st k => ⟨st.1, st.2.1.at fun o e => k it (by simp) o e, by
    obtain ⟨o, e, r⟩ := st.2.2
    exact ⟨o, k t (by simp) o e, r⟩⟩
  item := fun i s Q E hi st hQ => by
    obtain ⟨h1, hit, ht⟩ := st
    have e1 : (items.size : Int) - 1 - ((i : Nat) : Int) = ((items.size - 1 - i : Nat) : Int) := by omega
    rw [e1] at hit
    have hx : items[items.size - 1 - i]? = some items[items.size - 1 - i] := Array.getElem?_eq_getElem (by omega)
    refine next_rt_item hit ht hx hz fun h' st' sb => ?_
    have e2 : ((items.size - 1 - i : Nat) : Int) - 1 = (items.size : Int) - 1 - ((i + 1 : Nat) : Int) := by omega
    rw [e2] at st'
    refine hQ _ h' (s.toks + 1) hx ⟨hi, st', ?_⟩ fun b o hb e => (sb.2 b (fun z => hb (by rw [z]; simp))).trans e
    obtain ⟨o, e, r⟩ := ht
    exact ⟨o, (sb.2 t hne).trans e, r⟩
  done := fun s Q E st hQ => by
    obtain ⟨h1, hit, ht⟩ := st
    have e1 : (items.size : Int) - 1 - ((items.size : Nat) : Int) = -1 := by omega
    rw [e1] at hit
    exact next_rt_end hh hit fun h' eb => hQ h' s.toks fun b o hb e => eb b o (fun z => hb (by rw [z]; simp)) e
  self := fun i s Q E st h => iter_rt st.2.1 h

theorem len_of_tup {t : Addr} {items : Array Value} (hz : items.size ≤ sizeLine) (s0 : Shared) (ht : IsTup s0.heap t items) : ∀ (A : Around) (E : Value → Shared → Prop) (Q : Value → Shared → Prop), Q (.int items.size (s0.toks + 1)) { s0 with toks := s0.toks + 1 + 1 } → wpAny (model prog w) A (call (.builtin "len") [.ref t]) Q E s0 := fun A E Q k => by
  have hn := line63
  exact len_tuple ht (by omega) k
/-- the items of reversed(a tuple) -/
theorem collect_rt {it t : Addr} {items : Array Value} {Q : List Value → Shared → Prop} (hh : A.handled = none) (hit : IsRt s.heap it t ((items.size : Int) - 1)) (ht : IsTup s.heap t items) (hne : t ≠ it) (hn : items.size ≤ sizeLine)
    (hQ : ∀ (h' : Heap) (tk : Nat) (acc : Array Value), (∀ b o, b ≠ it → s.heap.get? b = some o → h'.get? b = some o) → ItemsOf (fun i v => items[items.size - 1 - i]? = some v) acc items.size → Q acc.toList { s with heap := h', toks := tk }) :
    wpAny (model prog w) A (collect (.ref it)) Q E s := by
  have W := (walks_rt (prog := prog) (w := w) (A := A.in1) hh it t hne items hn).toS
  obtain ⟨oi, hoi, _⟩ := id hit
  obtain ⟨ol, hol, _⟩ := id ht
  have hSi : s.heap.objs.size ≠ it := Nat.ne_of_gt (Heap.lt_size hoi)
  have hSl : s.heap.objs.size ≠ t := Nat.ne_of_gt (Heap.lt_size hol)
  have hSf : s.heap.objs.size ∉ [it, t] := by simp only [List.mem_cons, List.not_mem_nil, or_false, not_or]; exact ⟨hSi, hSl⟩
  unfold collect
  refine wpAny_bind (wpAny_runValue (codeAny_builtin F.entry_proto_collect ?_))
  rw [Around.under_plainId F.plain_proto_collect _]
  show wpAny _ A.in1 (newList [] >>= fun l' => again (.builtin "list.__iadd__" ⟨[l', .ref it], []⟩)) _ _ s
  refine wpAny_bind (wpAny_newObj_type ?_)
  refine wpAny_pure ⟨plainId_quiet F.plain_list_iadd _, codeAny_builtin F.entry_list_iadd ?_⟩
  rw [Around.under_plainId F.plain_list_iadd _]
  have hS₁ : (s.heap.push { cls := .type "list", data := .seq ([] : List Value).toArray }).get? s.heap.objs.size = some { cls := .type "list", data := .seq ([] : List Value).toArray } := Heap.get?_push_size _ rfl
  have hit1 : IsRt (s.heap.push { cls := .type "list", data := .seq ([] : List Value).toArray }) it t ((items.size : Int) - 1) := hit.at fun o e => Heap.get?_push_of_some _ e
  have ht1 : IsTup (s.heap.push { cls := .type "list", data := .seq ([] : List Value).toArray }) t items := by
    obtain ⟨o, e, r⟩ := ht
    exact ⟨o, Heap.get?_push_of_some _ e, r⟩
  have hT : ({ s with heap := s.heap.push { cls := .type "list", data := .seq ([] : List Value).toArray } } : Shared).TypeIs (.ref it) "reversed" := IsRt.typeIs (s := { s with heap := s.heap.push { cls := .type "list", data := .seq ([] : List Value).toArray } }) hit1
  have h1 : Builtin.List.listSameRef (.ref s.heap.objs.size) (.ref it) = false := by simp [Builtin.List.listSameRef, hSi]
  show wpAny _ A.in1 (Builtin.List.listExtendWith (.ref s.heap.objs.size) (.ref it) (.ref s.heap.objs.size)) _ _ _
  unfold Builtin.List.listExtendWith
  refine wpAny_bind (wpAny_typeOf hT ?_)
  rw [if_neg (by rw [h1]; decide)]
  refine wpAny_bind (iter_rt (s := { s with heap := s.heap.push { cls := .type "list", data := .seq ([] : List Value).toArray } }) hit1 ?_)
  refine wpAny_bind (wpAny_holding ?_)
  refine hint_of_rt (s := { s with heap := s.heap.push { cls := .type "list", data := .seq ([] : List Value).toArray } }) hn hit1 ht1 (len_of_tup hn _ ht1) fun b tk' htk => ?_
  have e0 : ((items.size : Nat) : Int) - 1 - ((0 : Nat) : Int) = (items.size : Int) - 1 := by omega
  have fin : ∀ s' acc' c', Moved (s.heap.objs.size :: [it]) (fun a b => b = a) { s with heap := s.heap.push { cls := .type "list", data := .seq ([] : List Value).toArray } } s' → s'.heap.get? s.heap.objs.size = some { cls := .type "list", dict := none, data := .seq acc' c', slots := #[] } → ItemsOf (fun i v => items[items.size - 1 - i]? = some v) acc' items.size → Q acc'.toList s' := fun s' acc' c' hm hS' hacc => by
    rw [Moved.eq_with hm]
    refine hQ s'.heap s'.toks acc' (fun b o hb e => hm.heap b o (fun hmem => ?_) (Heap.get?_push_of_some _ e)) hacc
    rcases List.mem_cons.mp hmem with e' | hmem
    · exact absurd (Heap.lt_size e) (by rw [e']; exact Nat.lt_irrefl _)
    · exact hb (List.mem_singleton.mp hmem)
  cases b with
  | false =>
    rw [if_neg (by decide)]
    refine wpAny_pure ⟨plainId_quiet F.plain_extend_loop _, codeAny_extend_loopS W hn _ hSf _ items.size 0 _ _ _ rfl (Nat.zero_le _) ⟨Nat.zero_le _, by rw [e0]; exact hit1, ht1⟩ hS₁ (ItemsOf.nil _) fun s' acc' c' hm hS' hacc => ?_⟩
    show wpAny _ A (load s.heap.objs.size >>= _) _ _ s'
    refine wpAny_bind (wpAny_load hS' ?_)
    refine wpAny_pure ?_
    exact fin s' acc' c' (Moved.trans (fun _ _ _ h1 h2 => h2.trans h1) ((Moved.refl (wr := s.heap.objs.size :: [it]) (G := fun a b => b = a) (fun _ => rfl)).then_heap htk fun b o hb e => e) hm) hS' hacc
  | true =>
    rw [if_pos (by rfl)]
    refine wpAny_bind (wpAny_rule ?_)
    refine wpAny_bind ?_
    show wpAny _ A.in1 (updateSeq s.heap.objs.size (·.push .none) >>= fun _ => updateSeq s.heap.objs.size (·.pop)) _ _ _
    refine wpAny_bind (wpAny_updateSeq hS₁ rfl ?_)
    have hS₂ := Heap.get?_update_self (Obj.mapSeq (·.push Value.none)) hS₁ rfl
    refine wpAny_updateSeq (hz := by seq_fits) hS₂ rfl ?_
    have hS₃ := Heap.get?_update_self (Obj.mapSeq (·.pop)) hS₂ rfl
    have oth : ∀ b o, b ≠ s.heap.objs.size → (s.heap.push { cls := .type "list", data := .seq ([] : List Value).toArray }).get? b = some o → (((s.heap.push { cls := .type "list", data := .seq ([] : List Value).toArray }).update s.heap.objs.size (Obj.mapSeq (·.push Value.none))).update s.heap.objs.size (Obj.mapSeq (·.pop))).get? b = some o :=
      fun b o hb e => (Heap.get?_update_other _ _ (Ne.symm hb)).trans ((Heap.get?_update_other _ _ (Ne.symm hb)).trans e)
    refine wpAny_pure ⟨plainId_quiet F.plain_extend_loop _, codeAny_extend_loopS W hn _ hSf _ items.size 0 _ _ _ rfl (Nat.zero_le _) ⟨Nat.zero_le _, by rw [e0]; exact hit1.at fun o e => oth it o (Ne.symm hSi) e, by
      obtain ⟨o, e, r⟩ := ht1
      exact ⟨o, oth t o (Ne.symm hSl) e, r⟩⟩ hS₃ (ItemsOf.nil _) fun s' acc' c' hm hS' hacc => ?_⟩
    show wpAny _ A (load s.heap.objs.size >>= _) _ _ s'
    refine wpAny_bind (wpAny_load hS' ?_)
    refine wpAny_pure ?_
    exact fin s' acc' c' (Moved.trans (fun _ _ _ h1 h2 => h2.trans h1) ((Moved.refl (wr := s.heap.objs.size :: [it]) (G := fun a b => b = a) (fun _ => rfl)).then_heap htk fun b o hb e => oth b o (fun h => hb (by rw [h]; exact List.mem_cons_self)) e) hm) hS' hacc
theorem code_tuple_new_rt {it t : Addr} {items : Array Value} {Q₁ : Value → Shared → Prop} (hh : A.handled = none) (hit : IsRt s.heap it t ((items.size : Int) - 1)) (ht : IsTup s.heap t items) (hne : t ≠ it) (hn : items.size ≤ sizeLine)
    (h : ∀ (h' : Heap) (tk : Nat) (acc : Array Value), (∀ b o, b ≠ it → s.heap.get? b = some o → h'.get? b = some o) → ItemsOf (fun i v => items[items.size - 1 - i]? = some v) acc items.size →
      Q₁ (.ref h'.objs.size) { s with heap := h'.push { cls := .type "tuple", data := .seq acc }, toks := tk }) :
    codeAny (model prog w) A (.call (.builtin "tuple.__new__") ⟨[.type "tuple", .ref it], []⟩) (wants Q₁ E) s := by
  refine codeAny_of_tree ?_
  show wpAny _ A.in1 (do checkBuiltinCall "tuple.__new__" ⟨[.type "tuple", .ref it], []⟩; again (.builtin "tuple.__new__" ⟨[.type "tuple", .ref it], []⟩)) _ _ s
  refine wpAny_bind (wpAny_of_eq (F.newCall_tuple_1 _) (wpAny_pure ⟨plainId_quiet F.plain_tuple_new _, codeAny_builtin F.entry_tuple_new ?_⟩))
  rw [Around.under_plainId F.plain_tuple_new _]
  have hsub := sub_tuple_self
  have hinit := init_tuple_lookup
  have hmh := madeHere_tuple
  have hTI : s.TypeIs (.ref it) "reversed" := hit.typeIs
  have hh1 : A.in1.handled = none := hh
  wp_walk using wpAny_typeOf hTI, collect_rt (A := A.in1) hh1 hit ht hne hn
  intro h' tk acc hk hacc
  show wpAny _ _ (Builtin.Tuple.tupleExact acc.toList.toArray >>= fun v => ret v) _ _ _
  unfold Builtin.Tuple.tupleExact
  refine wpAny_bind (wpAny_newObj_type ?_ (by show acc.toList.toArray.size ≤ sizeLine; simp only [Array.toArray_toList]; rw [hacc.1]; exact hn))
  refine wpAny_pure ?_
  have e : acc.toList.toArray = acc := by simp
  rw [e]
  exact h h' tk acc hk hacc
theorem call_tuple_rt {it t : Addr} {items : Array Value} {Q : Value → Shared → Prop} (hh : A.handled = none) (hit : IsRt s.heap it t ((items.size : Int) - 1)) (ht : IsTup s.heap t items) (hne : t ≠ it) (hn : items.size ≤ sizeLine)
    (hQ : ∀ (h' : Heap) (tk : Nat) (acc : Array Value), (∀ b o, b ≠ it → s.heap.get? b = some o → h'.get? b = some o) → ItemsOf (fun i v => items[items.size - 1 - i]? = some v) acc items.size →
      Q (.ref h'.objs.size) { s with heap := h'.push { cls := .type "tuple", data := .seq acc }, toks := tk }) :
    wpAny (model prog w) A (call (.type "tuple") [.ref it]) Q E s := by
  refine callType_codes (Q₁ := fun obj s₁ => s₁.TypeIs obj "tuple" ∧ Q obj s₁) F.called_tuple (F.typeCall_tuple_1 _) F.entry_object_init
    (code_tuple_new_rt (A := A.in1) hh hit ht hne hn fun h' tk acc hk hacc => ⟨⟨_, Heap.get?_push_size _ rfl, rfl⟩, hQ h' tk acc hk hacc⟩) fun obj s₁ h₁ => ?_
  exact ⟨h₁.1, F.args_object_init_2 obj _, object_init_meets F.called_tuple.init.lookup F.called_tuple.made (by decide) prog w A.in1 _ s₁ ⟨h₁.1, rfl, h₁.2⟩⟩
/-- list(reversed(list)) -/
theorem call_list_rv {it l : Addr} {items : Array Value} {Q : Value → Shared → Prop} (hh : A.handled = none) (hit : s.heap.IsRevIter it l ((items.size : Int) - 1)) (hl : s.heap.IsList l items) (hne : l ≠ it) (hn : items.size ≤ sizeLine)
    (hQ : ∀ (h' : Heap) (tk : Nat) (acc : Array Value) (c : Nat), s.toks ≤ tk → (∀ b o, b ≠ it → s.heap.get? b = some o → h'.get? b = some o) → h'.get? s.heap.objs.size = some { cls := .type "list", dict := none, data := .seq acc c, slots := #[] } → ItemsOf (fun i v => items[items.size - 1 - i]? = some v) acc items.size →
      Q (.ref s.heap.objs.size) { s with heap := h', toks := tk }) :
    wpAny (model prog w) A (call (.type "list") [.ref it]) Q E s := by
  have W := (Walks.listRev (prog := prog) (w := w) (A := A.in1.in1) hh it l hne items).toS
  obtain ⟨oi, hoi, _⟩ := id hit
  obtain ⟨ol, hol, _⟩ := id hl
  have hSi : s.heap.objs.size ≠ it := Nat.ne_of_gt (Heap.lt_size hoi)
  have hSl : s.heap.objs.size ≠ l := Nat.ne_of_gt (Heap.lt_size hol)
  have hSf : s.heap.objs.size ∉ [it, l] := by simp only [List.mem_cons, List.not_mem_nil, or_false, not_or]; exact ⟨hSi, hSl⟩
  refine callType_codes (Q₁ := fun obj s₁ => obj = .ref s.heap.objs.size ∧ s₁ = { s with heap := s.heap.push { cls := .type "list", data := .seq #[] } }) F.called_list (F.typeCall_list_1 _) F.entry_list_init
    (code_list_new _ ⟨rfl, rfl⟩) fun obj s₁ h₁ => ?_
  obtain ⟨rfl, rfl⟩ := h₁
  have hS : (s.heap.push { cls := .type "list", data := .seq #[] }).get? s.heap.objs.size = some { cls := .type "list", data := .seq #[] } := Heap.get?_push_size _ rfl
  refine ⟨⟨_, hS, rfl⟩, F.args_list_init_2 _ _, ?_⟩
  show wpAny _ A.in1.in1 (do let old ← Builtin.List.listItems (.ref s.heap.objs.size); Builtin.List.listUpdate (.ref s.heap.objs.size) (fun _ => #[]); letGo old.toList.reverse; Builtin.List.listExtendWith (.ref s.heap.objs.size) (.ref it) .none) _ _ _
  refine wpAny_bind ?_
  unfold Builtin.List.listItems
  refine wpAny_bind (wpAny_seqItems hS rfl (wpAny_pure ?_))
  show wpAny _ A.in1.in1 (updateSeq s.heap.objs.size (fun _ => #[]) >>= fun _ => letGo (#[] : Array Value).toList.reverse >>= fun _ => Builtin.List.listExtendWith (.ref s.heap.objs.size) (.ref it) .none) _ _ _
  refine wpAny_bind (wpAny_updateSeq hS rfl ?_)
  have hS₂ := Heap.get?_update_self (Obj.mapSeq (fun _ => (#[] : Array Value))) hS rfl
  have oth : ∀ b o, b ≠ s.heap.objs.size → s.heap.get? b = some o → ((s.heap.push { cls := .type "list", data := .seq #[] }).update s.heap.objs.size (Obj.mapSeq (fun _ => (#[] : Array Value)))).get? b = some o :=
    fun b o hb e => (Heap.get?_update_other _ _ (Ne.symm hb)).trans (Heap.get?_push_of_some _ e)
  refine wpAny_bind (wpAny_letGo ?_)
  have hit1 : ((s.heap.push { cls := .type "list", data := .seq #[] }).update s.heap.objs.size (Obj.mapSeq (fun _ => (#[] : Array Value)))).IsRevIter it l ((items.size : Int) - 1) := hit.at fun o e => oth it o (Ne.symm hSi) e
  have hl1 : ((s.heap.push { cls := .type "list", data := .seq #[] }).update s.heap.objs.size (Obj.mapSeq (fun _ => (#[] : Array Value)))).IsList l items := by
    obtain ⟨o, e, r⟩ := hl
    exact ⟨o, oth l o (Ne.symm hSl) e, r⟩
  have h1 : Builtin.List.listSameRef (.ref s.heap.objs.size) (.ref it) = false := by simp [Builtin.List.listSameRef, hSi]
  have hT : ({ s with heap := ((s.heap.push { cls := .type "list", data := .seq #[] }).update s.heap.objs.size (Obj.mapSeq (fun _ => (#[] : Array Value)))) } : Shared).TypeIs (.ref it) "list_reverseiterator" := Heap.IsRevIter.typeIs (s := { s with heap := ((s.heap.push { cls := .type "list", data := .seq #[] }).update s.heap.objs.size (Obj.mapSeq (fun _ => (#[] : Array Value)))) }) hit1
  unfold Builtin.List.listExtendWith
  refine wpAny_bind (wpAny_typeOf hT ?_)
  rw [if_neg (by rw [h1]; decide)]
  refine wpAny_bind (wpAny_pyIter_revIter (s := { s with heap := ((s.heap.push { cls := .type "list", data := .seq #[] }).update s.heap.objs.size (Obj.mapSeq (fun _ => (#[] : Array Value)))) }) hit1 ?_)
  refine wpAny_bind (wpAny_holding ?_)
  unfold Builtin.List.listLengthHint
  refine wpAny_bind (wpAny_specialOf hT nolen_lri ?_)
  show wpAny _ A.in1.in1 (specialOf (Value.ref it) (Str.ofString "__length_hint__") >>= _) _ _ _
  refine wpAny_bind (wpAny_specialOf hT hint_lri ?_)
  generalize hid : ("list_reverseiterator.__length_hint__" : String) = id0
  wp_delta
  rw [show splitId id0 = some ("list_reverseiterator", "__length_hint__") from by subst hid; decide +kernel]
  subst hid
  refine wpAny_bind (wpAny_isInstance (b := true) hT (by rw [isSubtype_type]; kernel_rfl) ?_)
  refine wpAny_pure ?_
  rw [if_neg (by decide)]
  have e0 : ((items.size : Nat) : Int) - 1 - ((0 : Nat) : Int) = (items.size : Int) - 1 := by omega
  refine wpAny_pure ⟨plainId_quiet F.plain_extend_loop _, codeAny_extend_loopS W hn _ hSf _ items.size 0 _ _ _ rfl (Nat.zero_le _) ⟨Nat.zero_le _, by rw [e0]; exact hit1, hl1⟩ hS₂ (ItemsOf.nil _) fun s' acc' c' hm hS' hacc => ?_⟩
  rw [Moved.eq_with hm]
  refine ⟨rfl, hQ s'.heap s'.toks acc' c' hm.toks (fun b o hb e => hm.heap b o (fun hmem => ?_) (oth b o (fun z => ?_) e)) hS' hacc⟩
  · rcases List.mem_cons.mp hmem with e' | hmem
    · exact absurd (Heap.lt_size e) (by rw [e']; exact Nat.lt_irrefl _)
    · exact hb (List.mem_singleton.mp hmem)
  · exact absurd (Heap.lt_size e) (by rw [z]; exact Nat.lt_irrefl _)
end
end EvCol

namespace EvCol
open PySem PySem.Spec PyProof.Rows RT L2
/-- tuple(reversed(x)), x a tuple -/
def tTupRevT (K : PySem.W.Frag) (te : TE) : TE := fun σ H Q => te σ H fun v H1 => ∃ (a : Addr) (xs : List V), v = .ref a ∧ SqT K H1 a xs ∧ ∀ q, H1 q = none → Q (.ref q) (upd H1 q (.tup xs.reverse))
/-- list(reversed(x)), x a list -/
def tLstRev (K : PySem.W.Frag) (te : TE) : TE := fun σ H Q => te σ H fun v H1 => ∃ (a : Addr) (xs : List V), v = .ref a ∧ SqL K H1 a xs ∧ ∀ q, H1 q = none → Q (.ref q) (upd H1 q (.lst xs.reverse))
section
variable {X : Cx}
theorem pe_tupRevT {e : Expr} {te : TE} {p p2 pos pos2 : Pos} (hc : X.calm = true) (hg : Gl X "tuple") (hm : X.mg "tuple" = none) (hg2 : Gl X "reversed") (hm2 : X.mg "reversed" = none) (he : PE X e te)
    (hs : starEach [e] X.env = (false, eval e X.env) :: starEach [] X.env := by rfl)
    (hs2 : starEach [.Call (.Name "reversed" p2) [e] [] pos2] X.env = (false, eval (.Call (.Name "reversed" p2) [e] [] pos2) X.env) :: starEach [] X.env := by rfl) :
    PE X (.Call (.Name "tuple" p) [.Call (.Name "reversed" p2) [e] [] pos2] [] pos) (tTupRevT X.K te) := by
  refine ⟨fun pins s σ H Q I h => ?_⟩
  refine Call_ (ld_blt I hg hm boot_tuple (PyProof.Rows.callWith_type1 (args_cons (Call_ (ld_blt I hg2 hm2 PyProof.Rows.boot_reversed (PyProof.Rows.callWith_type1 (args_cons (thn (he.run pins s σ H _ I h) fun u s1 ⟨v, H1, I1, r1, q1⟩ => args_nil ?_) hs) hs rfl))) hs2) hs2 rfl))
  obtain ⟨a, xs, ev, hq, q⟩ := q1
  subst ev
  obtain rfl : u = Value.ref a := r1
  obtain ⟨its, rv, p', hz⟩ := I1.tuple hq
  have hnl := line63
  have hn : its.toArray.size ≤ sizeLine := by rw [List.size_toArray, ← rv.length]; exact hz
  refine call_reversed_tup p' (fun A E Q k => len_tuple p' (by omega) k) (args_nil ?_)
  have k0 : ∀ b o, s1.heap.get? b = some o → (s1.heap.push (rtObj a ((its.toArray.size : Int) - 1))).get? b = some o := fun b o e => Heap.get?_push_of_some _ e
  obtain ⟨ol, hol, _⟩ := id p'
  have hne : a ≠ s1.heap.objs.size := Nat.ne_of_lt (Heap.lt_size hol)
  have p2' : IsTup (s1.heap.push (rtObj a ((its.toArray.size : Int) - 1))) a its.toArray := by
    obtain ⟨o, e, r⟩ := p'
    exact ⟨o, k0 _ _ e, r⟩
  refine call_tuple_rt (s := { s1 with heap := s1.heap.push (rtObj a ((its.toArray.size : Int) - 1)), toks := s1.toks + 1 + 1 }) (I1.ok.hd hc) ⟨_, Heap.get?_push_size _ rfl, rfl, rfl⟩ p2' hne hn fun h' tk acc hk hi => ?_
  have k1 : ∀ b o, s1.heap.get? b = some o → h'.get? b = some o := fun b o e => hk b o (Nat.ne_of_lt (Heap.lt_size e)) (k0 b o e)
  have I3 : Inv X pins σ H1 { s1 with heap := h', toks := tk } := I1.kept (t' := tk) k1
  refine ⟨.ref h'.objs.size, upd H1 h'.objs.size (.tup xs.reverse), I3.laid (t' := tk) (fun c o e => Heap.get?_push_of_some _ e) (Nat.le_refl _) (show ObjOk X.prog X.w _ _ _ (.tup xs.reverse) from ⟨by rw [List.length_reverse]; exact hz, acc.toList, vals_rev rv hi, ?_⟩), rfl, q _ (I3.hok.fresh (Nat.le_refl _))⟩
  rw [Array.toArray_toList]
  exact IsTup.new _ _
theorem pe_listRev {e : Expr} {te : TE} {p p2 pos pos2 : Pos} (hc : X.calm = true) (hg : Gl X "list") (hm : X.mg "list" = none) (hg2 : Gl X "reversed") (hm2 : X.mg "reversed" = none) (he : PE X e te)
    (hs : starEach [e] X.env = (false, eval e X.env) :: starEach [] X.env := by rfl)
    (hs2 : starEach [.Call (.Name "reversed" p2) [e] [] pos2] X.env = (false, eval (.Call (.Name "reversed" p2) [e] [] pos2) X.env) :: starEach [] X.env := by rfl) :
    PE X (.Call (.Name "list" p) [.Call (.Name "reversed" p2) [e] [] pos2] [] pos) (tLstRev X.K te) := by
  refine ⟨fun pins s σ H Q I h => ?_⟩
  refine Call_ (ld_blt I hg hm boot_list (PyProof.Rows.callWith_type1 (args_cons (Call_ (ld_blt I hg2 hm2 PyProof.Rows.boot_reversed (PyProof.Rows.callWith_type1 (args_cons (thn (he.run pins s σ H _ I h) fun u s1 ⟨v, H1, I1, r1, q1⟩ => args_nil ?_) hs) hs rfl))) hs2) hs2 rfl))
  obtain ⟨a, xs, ev, hq, q⟩ := q1
  subst ev
  obtain rfl : u = Value.ref a := r1
  obtain ⟨its, rv, p', hz⟩ := I1.list hq
  refine call_reversed_list p'.isList (args_nil ?_)
  have k0 : ∀ b o, s1.heap.get? b = some o → (s1.heap.push (revObj a ((its.toArray.size : Int) - 1))).get? b = some o := fun b o e => Heap.get?_push_of_some _ e
  have hl := p'.isList
  obtain ⟨ol, hol, _⟩ := id hl
  have hne : a ≠ s1.heap.objs.size := Nat.ne_of_lt (Heap.lt_size hol)
  have hn : its.toArray.size ≤ sizeLine := by rw [List.size_toArray, ← rv.length]; exact hz
  refine call_list_rv (s := { s1 with heap := s1.heap.push (revObj a ((its.toArray.size : Int) - 1)) }) (I1.ok.hd hc) ⟨_, Heap.get?_push_size _ rfl, rfl, rfl⟩ (hl.push _) hne hn fun h' tk acc c htk hk hS hi => ?_
  have k1 : ∀ b o, s1.heap.get? b = some o → h'.get? b = some o := fun b o e => hk b o (Nat.ne_of_lt (Heap.lt_size e)) (k0 b o e)
  have hsz : s1.heap.objs.size ≤ (s1.heap.push (revObj a ((its.toArray.size : Int) - 1))).objs.size := by
    show s1.heap.objs.size ≤ (s1.heap.objs.push _).size
    rw [Array.size_push]
    exact Nat.le_succ _
  refine ⟨.ref _, upd H1 (s1.heap.push (revObj a ((its.toArray.size : Int) - 1))).objs.size (.lst xs.reverse), I1.laid (t' := tk) k1 hsz (show ObjOk X.prog X.w _ _ _ (.lst xs.reverse) from ⟨by rw [List.length_reverse]; exact hz, acc.toList, c, vals_rev rv hi, ?_⟩), rfl, q _ (I1.hok.fresh hsz)⟩
  rw [Array.toArray_toList]
  exact hS
end
end EvCol

/-! sorted(set(a list of ints)). -/
namespace EvCol
open PySem PySem.Spec PyProof.Rows L2
section
variable {P : Program} {w : World} {A : Around} {E : Value → Shared → Prop} {s : Shared}
theorem call_set_lstI {l : Addr} {items : Array Value} (ns : List Int) {Q : Value → Shared → Prop} (hh : A.handled = none) (hl : s.heap.IsList l items) (hit : IntsAre items.toList ns) (hb : ns.length + 1 < scanBound)
    (h : ∀ (h' : Heap) (tk c : Nat), SetR w h' s.heap.objs.size (fun j => decide (j ∈ ns)) c → c ≤ ns.length → (∀ b o, s.heap.get? b = some o → h'.get? b = some o) → Q (.ref s.heap.objs.size) { s with heap := h', toks := tk }) :
    wpAny (model P w) A (call (.type "set") [.ref l]) Q E s := by
  have hisz : items.size = ns.length := by
    have q := IntsAre.length hit
    rw [Array.length_toList] at q
    exact q
  obtain ⟨c, tl, hmro⟩ := F.called_set.mro
  have hmade := F.called_set.made
  have hsub := F.called_set.sub
  refine wpAny_call (codeAny_of_tree ?_)
  show wpAny _ _ (callAny (.type "set") _) _ _ _
  refine wpAny_pure ⟨Code.quiet_builtin _ (by decide +kernel), codeAny_builtin F.entry_type_call ?_⟩
  rw [Around.under_plain (weight_type_call_type "set" [.ref l] []) rfl]
  have h1 := F.called_set.notType
  have h2 := F.called_set.canCreate
  have hct := F.typeCall_set_1 (.ref l)
  repeat (any_goals (first | assumption | wp_step))

  refine codeAny_mono (code_set_led1 (.ref l) (E := E) (Q₁ := fun obj s₁ => obj = .ref s.heap.objs.size ∧ s₁ = { s with heap := s.heap.push { cls := .type "set", dict := none, data := .set #[] 0 (.fresh 0 0 (!w.params.followText "set-order")) } }) ⟨rfl, rfl⟩) fun r s₁ hr => ?_
  cases r with
  | error e => exact hr
  | ok fl =>
    cases fl with
    | ret obj =>
      obtain ⟨rfl, rfl⟩ := hr
      have hS : (s.heap.push { cls := .type "set", dict := none, data := .set #[] 0 (.fresh 0 0 (!w.params.followText "set-order")) }).get? s.heap.objs.size = some { cls := .type "set", dict := none, data := .set #[] 0 (.fresh 0 0 (!w.params.followText "set-order")) } := Heap.get?_push_size _ rfl
      have hT : Shared.TypeIs { s with heap := s.heap.push { cls := .type "set", dict := none, data := .set #[] 0 (.fresh 0 0 (!w.params.followText "set-order")) } } (.ref s.heap.objs.size) "set" := ⟨_, hS, rfl⟩
      have hli := F.called_set.init.lookup
      have hbi := F.called_set.init.bind (.ref s.heap.objs.size)
      repeat (any_goals (first | assumption | wp_step))

      refine codeAny_mono (codeAny_call_builtin (R := wants (fun r s₂ => r = .none ∧ ∃ h' tk c, s₂ = { s with heap := h', toks := tk } ∧ SetR w h' s.heap.objs.size (fun j => decide (j ∈ ns)) c ∧ c ≤ ns.length ∧
          (∀ b o, s.heap.get? b = some o → h'.get? b = some o)) E) F.called_set.init.plain F.entry_set_init (check_set_init_1 hT ?_)) fun r₂ s₂ hr₂ => ?_
      · obtain ⟨ol, hol, hcl, nl, hdl⟩ := hl
        obtain ⟨ocls, odict, odata, oslots⟩ := ol
        simp only at hcl hdl
        subst hcl; subst hdl
        have hol' : (s.heap.push { cls := .type "set", dict := none, data := .set #[] 0 (.fresh 0 0 (!w.params.followText "set-order")) }).get? l = some { cls := .type "list", dict := odict, data := .seq items nl, slots := oslots } := Heap.get?_push_of_some _ hol
        have hsls := F.sub_list_set
        have hslf := F.sub_list_frozenset
        have hne : (Value.type "list" == Value.type "dict") = false := by decide
        have hl1 : (s.heap.push { cls := .type "set", dict := none, data := .set #[] 0 (.fresh 0 0 (!w.params.followText "set-order")) }).IsList l items := ⟨_, hol', rfl, nl, rfl⟩
        unfold Builtin.«set.__init__» noKeywords Builtin.Frozenset.updateFrom
        generalize hPI : pyIter = PI
        wp_walk
        subst hPI

        refine wpAny_pyIter_list hl1 ?_
        refine wpAny_bind (wpAny_runValue ?_)
        have hlS : l < s.heap.objs.size := Heap.lt_size hol
        have hh3 : A.in1.in1.in1.handled = none := by simp [hh]
        have hz1 : (s.heap.push { cls := .type "set", dict := none, data := .set #[] 0 (.fresh 0 0 (!w.params.followText "set-order")) }).objs.size = s.heap.objs.size + 1 := Heap.size_push ..
        have hneI : l ≠ (s.heap.push { cls := .type "set", dict := none, data := .set #[] 0 (.fresh 0 0 (!w.params.followText "set-order")) }).objs.size := by
          rw [Heap.size_push]; exact Nat.ne_of_lt (Nat.lt_succ_of_lt hlS)
        have hSf : s.heap.objs.size ∉ [(s.heap.push { cls := .type "set", dict := none, data := .set #[] 0 (.fresh 0 0 (!w.params.followText "set-order")) }).objs.size, l] := by
          rw [Heap.size_push]; simp only [List.mem_cons, List.mem_singleton, List.not_mem_nil, or_false, not_or]
          exact ⟨Nat.ne_of_lt (Nat.lt_succ_self _), Nat.ne_of_gt hlS⟩
        have hval : ∀ (i : Nat) (v : Value), items[i]? = some v → ∃ k t, ns[i]? = some k ∧ v = .int k t := fun i v hv => by
          have hi : i < ns.length := by rw [← hisz]; exact (Array.getElem?_eq_some_iff.mp hv).1
          obtain ⟨t, e⟩ := PyProof.Rows.IntsAre.int_at hit i v (by rw [Array.getElem?_toList]; exact hv)
          refine ⟨ns[i], t, List.getElem?_eq_getElem hi, ?_⟩
          rw [e, List.getD_eq_getElem?_getD, List.getElem?_eq_getElem hi] <;> rfl
        refine set_update_ints ((Walks.list hh3 _ l hneI items).toS) s.heap.objs.size
          hSf ns hisz hb hval (items.size - 0) 0 _ (by omega) (Nat.zero_le _)
          ⟨⟨_, Heap.get?_push_size _ rfl, rfl, rfl⟩, (hl1.push _)⟩ ?hS0 ?hR
        case hS0 =>
          have hget : ((s.heap.push { cls := .type "set", dict := none, data := .set #[] 0 (.fresh 0 0 (!w.params.followText "set-order")) }).push { cls := .type "list_iterator", data := .fields #[.ref l, .int 0 0] }).get? s.heap.objs.size
              = some { cls := .type "set", dict := none, data := .set #[] 0 (.fresh 0 0 (!w.params.followText "set-order")) } := Heap.get?_push_of_some _ hS
          exact ⟨0, Nat.le_refl 0, setR_new_at hget⟩
        case hR =>
          intro s' c' hm hc' hS'
          obtain ⟨h', g2, d', tk', os'⟩ := s'
          have eg : g2 = s.gens := hm.gens
          have ed : d' = s.drawn := hm.drawn
          have eo : os' = s.os := hm.os
          subst eg; subst ed; subst eo
          show wpAny _ _ _ _ _ _
          refine wpAny_pure ?_
          show wpAny _ _ (ret Value.none) _ _ _
          rw [hisz] at hc'
          refine wpAny_pure ⟨rfl, h', tk', c', rfl, hS', hc', fun b o e => ?_⟩
          have hb0 : b < s.heap.objs.size := Heap.lt_size e
          have hb1 : b ≠ s.heap.objs.size := Nat.ne_of_lt hb0
          have hb2 : b ≠ (s.heap.push { cls := .type "set", dict := none, data := .set #[] 0 (.fresh 0 0 (!w.params.followText "set-order")) }).objs.size := by
            rw [Heap.size_push]; exact Nat.ne_of_lt (Nat.lt_succ_of_lt hb0)
          exact hm.heap b o (by simp only [List.mem_cons, List.mem_singleton, List.not_mem_nil, or_false, not_or]; exact ⟨hb1, hb2⟩) (Heap.get?_push_of_some _ (Heap.get?_push_of_some _ e))

      · cases r₂ with
        | error e => exact hr₂
        | ok fl₂ =>
          cases fl₂ with
          | ret r =>
            obtain ⟨rfl, h', tk, c', rfl, hS', hc', hk'⟩ := hr₂
            repeat (any_goals (first | assumption | wp_step))
            exact h _ _ _ hS' hc' hk'
          | _ => exact hr₂.elim
    | _ => exact hr.elim

end
end EvCol

/-! sorted(a set of ints), any number of members. -/
namespace EvCol
open PySem PySem.Spec PyProof.Rows L2
section
variable {P : Program} {w : World} {A : Around} {E : Value → Shared → Prop} {s : Shared} {a : Addr}
theorem sorted_setB {S : Int → Bool} {n : Nat} {Q : Value → Shared → Prop} (R : SetR w s.heap a S n) (hh : A.handled = none)
    (hQ : ∀ s' p (out : Array Value) (c : Nat) (ns : List Int), (∀ b o, s.heap.get? b = some o → s'.heap.get? b = some o) → s'.gens = s.gens → s'.os = s.os → s.heap.objs.size ≤ p →
      s'.heap.get? p = some (seqObj "list" out c) → IntsAre out.toList ns → ns.Pairwise (· < ·) → (∀ k, k ∈ ns ↔ S k = true) → ns.length = n → Q (.ref p) s') :
    wpAny (model P w) A (call (.builtin "sorted") [.ref a]) Q E s := by
  obtain ⟨o, es, ep, t, ho, hex, hd, g, nd, hm, hb, hf, hn, hr, hl⟩ := R
  refine Calls.call_function_entry kind_sorted plain_sorted entry_sorted (args_sorted1 _) ?_
  unfold Builtin.«sorted»
  refine wpAny_bind (m := checkCount "sorted" 1 1 _) (wpAny_pure ?_)
  refine wpAny_bind (collect_set (A := A.in1) hh ⟨o, ho, hex.1, hd⟩ hf hb hr hl fun s1 vs k1 hz g1 o1 pm => ?_)
  have hvl : vs.length = n := by rw [pm.length_eq, List.length_map, Array.length_toList]; exact hn
  have hvz : vs.length ≤ sizeLine := by
    rw [hvl, ← hn]
    exact fits_of_scanBound hb
  have hI : IntsAre vs (vs.map Builtin.Re.reRawOf) := ints_of vs fun v hv => by
    obtain ⟨e, he, q⟩ := List.mem_map.mp (pm.mem_iff.mp hv)
    obtain ⟨k, tk, h1, _⟩ := g e he
    exact ⟨k, tk, by rw [← q]; exact h1⟩
  have pk : (vs.map Builtin.Re.reRawOf).Perm (es.toList.map keyOf) := by
    have q := pm.map Builtin.Re.reRawOf
    rw [List.map_map] at q
    exact q
  refine wpAny_bind (wpAny_newList ?_ hvz)
  have hoL : (s1.heap.push (seqObj "list" vs.toArray 0)).get? s1.heap.objs.size = some (seqObj "list" vs.toArray 0) := Heap.get?_push_size _ rfl
  refine wpAny_bind (wpAny_holding (wpAny_call_entry slot_list_sort ⟨_, hoL, rfl⟩ entry_list_sort
    (SrtO.list_sort_ord SrtO.swo_int hoL hvz (fun h2 => SrtO.ints_sortable hI h2) fun out h1 h2 => ⟨_, rfl, ?_⟩) (args_list_sort _)))
  obtain ⟨b1, b2, b3⟩ := SrtO.ints_out hI h1 h2
  obtain ⟨c, hc⟩ := sortedHeap_at (vs := vs) (out := out.toArray) hoL
  have pn : (out.map SrtO.iv).Perm (es.toList.map keyOf) := b2.trans pk
  refine wpAny_pure ⟨_, rfl, hQ _ s1.heap.objs.size out.toArray c (out.map SrtO.iv) (fun b u e => ?_) g1 o1 hz hc (by simpa using b1) (lt_of_le_nodup _ b3 (pn.nodup_iff.mpr nd)) (fun k => by rw [pn.mem_iff, ← hm k]) ?_⟩
  · have q := k1 b u e
    have hlt := Heap.lt_size q
    show (sortedHeap (s1.heap.push (seqObj "list" vs.toArray 0)) s1.heap.objs.size vs out.toArray).get? b = some u
    rw [sortedHeap_old (Nat.ne_of_lt hlt) (by rw [size_push']; exact Nat.lt_succ_of_lt hlt)]
    exact Heap.get?_push_of_some _ q
  · rw [pn.length_eq, List.length_map, Array.length_toList]; exact hn
end
def rSortedSetB (w : World) : List V → Hp → VK → Prop := fun vs H Q => ∃ (a : Addr) (S : Int → Bool) (n : Nat), vs = [V.ref a] ∧ H a = some (SetO w a S n) ∧ n < scanBound ∧
  ∀ (ns : List Int) (p : Addr), ns.Pairwise (· < ·) → (∀ k : Int, k ∈ ns ↔ S k = true) → ns.length = n → H p = none → Q (.ref p) (upd H p (.lst (ns.map V.int)))
section
variable {X : Cx}
theorem cr_sortedSetB (hc : X.calm = true) : CallR X (.builtin "sorted") (rSortedSetB X.w) := by
  intro pins s σ H vs us Q I r h
  obtain ⟨a, S, n, rfl, ha, h64, q⟩ := h
  have R := setO_get I ha
  rw [Vals.ref1 r]
  refine sorted_setB R (I.ok.hd hc) fun s' p out c ns k g o hp hg hi hs hm hl => ?_
  have hlen : (ns.map V.int).length ≤ sizeLine := by rw [List.length_map, hl]; exact fits_of_scanBound h64
  have hn : H p = none := I.hok.fresh hp
  have J : Inv X pins σ (upd H p (.lst (ns.map V.int))) { s with heap := s'.heap, gens := s'.gens, drawn := s'.drawn, toks := s'.toks } :=
    I.call (ch := []) (Un.laid k hp hn) (I.hok.laid k hp ⟨hlen, out.toList, c, vals_of_ints hi, hg⟩) (by rw [g]; exact I.bare) (fun _ z => nomatch z)
  have e : s' = { s with heap := s'.heap, gens := s'.gens, drawn := s'.drawn, toks := s'.toks } := by
    cases s'
    cases s
    cases o
    rfl
  rw [e]
  exact ⟨.ref p, _, J, rfl, q ns p hs hm hl hn⟩
end
end EvCol

namespace EvCol
open PySem PySem.Spec PyProof.Rows L2
/-- sorted(set(x)), x a list of ints -/
def tSortSet (K : PySem.W.Frag) (te : TE) : TE := fun σ H Q => te σ H fun v H1 => ∃ (l : Addr) (ns : List Int), v = .ref l ∧ SqL K H1 l (ns.map V.int) ∧ ns.length < 4000 ∧
  ∀ (ms : List Int) (a p : Addr) (o : HO), ms.Pairwise (· < ·) → (∀ k : Int, k ∈ ms ↔ k ∈ ns) → H1 a = none → upd H1 a o p = none → Q (.ref p) (upd (upd H1 a o) p (.lst (ms.map V.int)))
section
variable {X : Cx}
theorem pe_sortSet {e : Expr} {te : TE} {p p2 pos pos2 : Pos} (hc : X.calm = true) (hg : Gl X "sorted") (hm : X.mg "sorted" = none) (hg2 : Gl X "set") (hm2 : X.mg "set" = none) (he : PE X e te)
    (hs : starEach [e] X.env = (false, eval e X.env) :: starEach [] X.env := by rfl) :
    PE X (.Call (.Name "sorted" p) [.Call (.Name "set" p2) [e] [] pos2] [] pos) (tSortSet X.K te) := by
  refine ⟨fun pins s σ H Q I h => ?_⟩
  refine Call_ (ld_blt I hg hm PyProof.Rows.boot_sorted ?_)
  refine PyProof.Rows.callWith_builtin1 (PyProof.Rows.args_cons ?_ rfl) rfl rfl
  refine Call_ (ld_blt I hg2 hm2 PyProof.Rows.boot_set ?_)
  refine PyProof.Rows.callWith_type1 (PyProof.Rows.args_cons (thn (he.run pins s σ H _ I h) fun v s1 ⟨x, H1, I1, r1, q1⟩ => PyProof.Rows.args_nil ?_) hs) hs rfl
  obtain ⟨l, ns, rfl, hq, h1, q1⟩ := q1
  cases r1
  obtain ⟨its, r, pl, hz⟩ := I1.list hq
  refine call_set_lstI ns (I1.ok.hd hc) pl.isList (by simpa using r.ints) (by unfold scanBound; omega) fun h' tk c R hcn hk => ?_
  refine PyProof.Rows.args_nil ?_
  have hn : H1 s1.heap.objs.size = none := I1.hok.fresh (Nat.le_refl _)
  have I2 : Inv X pins σ (upd H1 s1.heap.objs.size (SetO X.w s1.heap.objs.size (fun j => decide (j ∈ ns)) c)) { s1 with heap := h', toks := tk } := I1.laid (t' := tk) hk (Nat.le_refl _) (setO_new R)
  exact cr_sortedSetB hc pins _ σ _ [.ref s1.heap.objs.size] [.ref s1.heap.objs.size] Q I2 (.cons rfl .nil) ⟨_, _, c, rfl, upd_same, by unfold scanBound; omega, fun ms p hp hmm _ hpn => q1 ms _ p _ hp (fun k => by rw [hmm k, decide_eq_true_eq]) hn hpn⟩
end
end EvCol

/-! list(zip(..)) of two tuples: zip's tuple is still in the list when the next one is drawn. -/
namespace EvCol
open PySem PySem.Spec PyProof.Rows
section
variable {prog : Program} {w : World} {A : Around} {E : Value → Shared → Prop} {s : Shared}
abbrev IsZip2 (h : Heap) (z TI TO a : Addr) (f : Bool) : Prop :=
  h.get? z = some { cls := .type "zip", dict := none, data := .fields #[rawInt a, .bool f, .bool false, .ref TI, .ref TO], slots := #[] }
theorem notFree {z TI TO a : Addr} {f : Bool} {oa : Obj} {Q : Bool → Shared → Prop} (hz : IsZip2 s.heap z TI TO a f) (ha : s.heap.get? a = some oa)
    (hQ : ∀ h', IsZip2 h' z TI TO a true → Heap.SameBut z s.heap h' → Q false { s with heap := h' }) : wpAny (model prog w) A (Builtin.SmallTypes.ownedTupleIsFree (.ref z)) Q E s := by
  unfold Builtin.SmallTypes.ownedTupleIsFree
  refine wpAny_bind (wpAny_field hz rfl (x := rawInt a) rfl ?_)
  show wpAny _ _ (loadIfAlive ((a : Int).toNat) >>= _) _ _ _
  rw [Int.toNat_natCast]
  refine wpAny_bind (PySem.W.kdx_alive ha ?_)
  simp only [Option.isNone_some, Bool.false_eq_true, if_false]
  refine wpAny_bind (wpAny_field hz rfl (x := .bool f) rfl ?_)
  cases f with
  | true =>
    rw [if_neg (show ¬ ((Value.bool true != Value.bool true) = true) from Bool.false_ne_true)]
    exact wpAny_pure (hQ s.heap hz (Heap.SameBut.refl _ _))
  | false =>
    rw [if_pos (show (Value.bool false != Value.bool true) = true from rfl)]
    refine wpAny_bind (wpAny_setField_rec hz (by simp) fun h₃ he₃ hs₃ => ?_)
    exact wpAny_pure (hQ h₃ he₃ hs₃)
theorem zipT_more_item {z TI TO i1 i2 l1 l2 a : Addr} {f : Bool} {oa : Obj} {k1 k2 : Nat} {xs ys : Array Value} {x y : Value} {Q : Value → Shared → Prop} (D : ZipApart z TI TO i1 i2 l1 l2)
    (hz : IsZip2 s.heap z TI TO a f) (ha : s.heap.get? a = some oa) (hTI : IsPair s.heap TI (.ref i1) (.ref i2))
    (h1 : s.heap.IsTupleIter i1 l1 k1) (h2 : s.heap.IsTupleIter i2 l2 k2) (hl1 : s.heap.IsTuple l1 xs) (hl2 : s.heap.IsTuple l2 ys) (hx : xs[k1]? = some x) (hy : ys[k2]? = some y)
    (hQ : ∀ h', IsZip2 h' z TI TO a true → h'.IsTupleIter i1 l1 (k1 + 1) → h'.IsTupleIter i2 l2 (k2 + 1) → IsPair h' s.heap.objs.size x y → h'.objs.size = s.heap.objs.size + 1 →
      (∀ c o, c ≠ z → c ≠ i1 → c ≠ i2 → s.heap.get? c = some o → h'.get? c = some o) → Q (.ref s.heap.objs.size) { s with heap := h' }) :
    wpAny (model prog w) A (Builtin.«zip.__next__» ⟨[.ref z], []⟩) (fun fin s' => ∃ v, fin = .done (.ret v) ∧ Q v s') E s := by
  show wpAny _ _ (field (.ref z) 2 >>= _) _ _ _
  refine wpAny_bind (wpAny_field hz rfl (x := .bool false) rfl ?_)
  show wpAny _ _ (field (.ref z) 3 >>= _) _ _ _
  refine wpAny_bind (wpAny_field hz rfl (x := .ref TI) rfl ?_)
  refine wpAny_bind (wpAny_seqItems hTI rfl ?_)
  show wpAny _ _ (Builtin.SmallTypes.ownedTupleIsFree (.ref z) >>= _) _ _ _
  refine wpAny_bind (notFree hz ha fun h₁ hz₁ hs₁ => ?_)
  simp only [Bool.false_eq_true, if_false]
  simp only [← Array.forIn_toList, List.forIn_cons, List.forIn_nil]
  refine wpAny_bind (wpAny_bind (wpAny_bind (wpAny_holding ?_)))
  show wpAny _ _ (Builtin.SmallTypes.nextOf (.ref i1) >>= _) _ _ _
  refine wpAny_bind (RZ.nextOf_tuple_item (h1.extBut hs₁.extBut D.i1z) (hl1.extBut hs₁.extBut D.l1z) hx fun h₂ h1₂ hs₂ => wpAny_pure ?_)
  refine wpAny_pure ?_
  dsimp only
  refine wpAny_bind (wpAny_bind (wpAny_holding ?_))
  show wpAny _ _ (Builtin.SmallTypes.nextOf (.ref i2) >>= _) _ _ _
  refine wpAny_bind (RZ.nextOf_tuple_item ((h2.extBut hs₁.extBut D.i2z).extBut hs₂.extBut D.i12.symm) ((hl2.extBut hs₁.extBut D.l2z).extBut hs₂.extBut D.l2i1) hy fun h₄ h2₄ hs₄ => wpAny_pure ?_)
  refine wpAny_pure ?_
  dsimp only
  refine wpAny_pure ?_
  dsimp only
  refine wpAny_bind (wpAny_newTuple (items := [x, y]) ?_ (by show 2 ≤ sizeLine; decide))
  have hsz : h₄.objs.size = s.heap.objs.size := by rw [hs₄.1, hs₂.1, hs₁.1]
  have hz₄ : IsZip2 h₄ z TI TO a true := hs₄.extBut _ _ D.i2z.symm (hs₂.extBut _ _ D.i1z.symm hz₁)
  have up : ∀ c o, h₄.get? c = some o → (h₄.push { cls := .type "tuple", data := .seq #[x, y] }).get? c = some o := fun c o e => Heap.get?_push_of_some _ e
  refine wpAny_pure ⟨_, rfl, ?_⟩
  rw [hsz]
  refine hQ _ (up _ _ hz₄) (((h1₂.extBut hs₄.extBut D.i12).at fun o e => up _ o e)) (h2₄.at fun o e => up _ o e) ?_ (by rw [Heap.size_push, hsz]) fun c o c1 c2 c3 e => up c o (hs₄.extBut _ _ c3 (hs₂.extBut _ _ c2 (hs₁.extBut _ _ c1 e)))
  rw [← hsz]
  exact Heap.get?_push_size _ rfl
theorem zipT_more_end {z TI TO i1 i2 l1 l2 a : Addr} {f : Bool} {oa : Obj} {k1 k2 : Nat} {xs ys : Array Value} {Q : Fin → Shared → Prop} (hh : A.handled = none) (D : ZipApart z TI TO i1 i2 l1 l2)
    (hz : IsZip2 s.heap z TI TO a f) (ha : s.heap.get? a = some oa) (hTI : IsPair s.heap TI (.ref i1) (.ref i2))
    (h1 : s.heap.IsTupleIter i1 l1 k1) (h2 : s.heap.IsTupleIter i2 l2 k2) (hl1 : s.heap.IsTuple l1 xs) (hl2 : s.heap.IsTuple l2 ys) (hend : xs[k1]? = none ∨ ys[k2]? = none)
    (hE : ∀ h' e, (∀ c o, c ≠ z → c ≠ i1 → c ≠ i2 → s.heap.get? c = some o → h'.get? c = some o) → (∃ o, h'.get? e = some o ∧ o.cls = .type "StopIteration") → E (.ref e) { s with heap := h' }) :
    wpAny (model prog w) A (Builtin.«zip.__next__» ⟨[.ref z], []⟩) Q E s := by
  show wpAny _ _ (field (.ref z) 2 >>= _) _ _ _
  refine wpAny_bind (wpAny_field hz rfl (x := .bool false) rfl ?_)
  show wpAny _ _ (field (.ref z) 3 >>= _) _ _ _
  refine wpAny_bind (wpAny_field hz rfl (x := .ref TI) rfl ?_)
  refine wpAny_bind (wpAny_seqItems hTI rfl ?_)
  show wpAny _ _ (Builtin.SmallTypes.ownedTupleIsFree (.ref z) >>= _) _ _ _
  refine wpAny_bind (notFree hz ha fun h₁ hz₁ hs₁ => ?_)
  simp only [Bool.false_eq_true, if_false]
  simp only [← Array.forIn_toList, List.forIn_cons, List.forIn_nil]
  refine wpAny_bind (wpAny_bind (wpAny_bind (wpAny_holding ?_)))
  show wpAny _ _ (Builtin.SmallTypes.nextOf (.ref i1) >>= _) _ _ _
  cases hx : xs[k1]? with
  | none =>
    refine wpAny_bind (RZ.nextOf_tuple_end hh (h1.extBut hs₁.extBut D.i1z) (hl1.extBut hs₁.extBut D.l1z) hx fun h₂ e hs₂ he => ?_)
    exact hE h₂ e (fun c o c1 c2 c3 x => hs₂ _ _ c2 (hs₁.extBut _ _ c1 x)) he
  | some x =>
    refine wpAny_bind (RZ.nextOf_tuple_item (h1.extBut hs₁.extBut D.i1z) (hl1.extBut hs₁.extBut D.l1z) hx fun h₂ h1₂ hs₂ => wpAny_pure ?_)
    refine wpAny_pure ?_
    dsimp only
    refine wpAny_bind (wpAny_bind (wpAny_holding ?_))
    show wpAny _ _ (Builtin.SmallTypes.nextOf (.ref i2) >>= _) _ _ _
    have hy : ys[k2]? = none := by
      rcases hend with h | h
      · rw [hx] at h; cases h
      · exact h
    refine wpAny_bind (RZ.nextOf_tuple_end hh ((h2.extBut hs₁.extBut D.i2z).extBut hs₂.extBut D.i12.symm) ((hl2.extBut hs₁.extBut D.l2z).extBut hs₂.extBut D.l2i1) hy fun h₃ e hs₃ he => ?_)
    exact hE h₃ e (fun c o c1 c2 c3 x => hs₃ _ _ c3 (hs₂.extBut _ _ c2 (hs₁.extBut _ _ c1 x))) he
theorem pyNext_more_item {z TI TO i1 i2 l1 l2 a : Addr} {f : Bool} {oa : Obj} {k1 k2 : Nat} {xs ys : Array Value} {x y : Value} {Q : Option Value → Shared → Prop} (D : ZipApart z TI TO i1 i2 l1 l2)
    (hz : IsZip2 s.heap z TI TO a f) (ha : s.heap.get? a = some oa) (hTI : IsPair s.heap TI (.ref i1) (.ref i2))
    (h1 : s.heap.IsTupleIter i1 l1 k1) (h2 : s.heap.IsTupleIter i2 l2 k2) (hl1 : s.heap.IsTuple l1 xs) (hl2 : s.heap.IsTuple l2 ys) (hx : xs[k1]? = some x) (hy : ys[k2]? = some y)
    (hQ : ∀ h', IsZip2 h' z TI TO a true → h'.IsTupleIter i1 l1 (k1 + 1) → h'.IsTupleIter i2 l2 (k2 + 1) → IsPair h' s.heap.objs.size x y → h'.objs.size = s.heap.objs.size + 1 →
      (∀ c o, c ≠ z → c ≠ i1 → c ≠ i2 → s.heap.get? c = some o → h'.get? c = some o) → Q (some (.ref s.heap.objs.size)) { s with heap := h' }) :
    wpAny (model prog w) A (pyNext (.ref z)) Q E s := by
  have hT : s.TypeIs (.ref z) "zip" := ⟨_, hz, rfl⟩
  unfold pyNext
  exact wpAny_bind (wpAny_attempt (wpAny_callSpecial?_slot (name := Str.ofString "__next__") hT F.slot_zip_next
    (wpAny_call_entry F.slot_zip_next hT F.entry_zip_next
      (zipT_more_item D hz ha hTI h1 h2 hl1 hl2 hx hy fun h' a1 a3 a4 a5 a6 a7 => wpAny_pure (hQ h' a1 a3 a4 a5 a6 a7)) (F.args_zip_next_1 _))))
theorem pyNext_more_end {z TI TO i1 i2 l1 l2 a : Addr} {f : Bool} {oa : Obj} {k1 k2 : Nat} {xs ys : Array Value} {Q : Option Value → Shared → Prop} (hh : A.handled = none) (D : ZipApart z TI TO i1 i2 l1 l2)
    (hz : IsZip2 s.heap z TI TO a f) (ha : s.heap.get? a = some oa) (hTI : IsPair s.heap TI (.ref i1) (.ref i2))
    (h1 : s.heap.IsTupleIter i1 l1 k1) (h2 : s.heap.IsTupleIter i2 l2 k2) (hl1 : s.heap.IsTuple l1 xs) (hl2 : s.heap.IsTuple l2 ys) (hend : xs[k1]? = none ∨ ys[k2]? = none)
    (hQ : ∀ h', (∀ c o, c ≠ z → c ≠ i1 → c ≠ i2 → s.heap.get? c = some o → h'.get? c = some o) → Q none { s with heap := h' }) : wpAny (model prog w) A (pyNext (.ref z)) Q E s := by
  have hT : s.TypeIs (.ref z) "zip" := ⟨_, hz, rfl⟩
  unfold pyNext
  refine wpAny_bind (wpAny_attempt (wpAny_callSpecial?_slot (name := Str.ofString "__next__") hT F.slot_zip_next
    (wpAny_call_entry F.slot_zip_next hT F.entry_zip_next (zipT_more_end hh D hz ha hTI h1 h2 hl1 hl2 hend fun h' e hk he => ?_) (F.args_zip_next_1 _))))
  obtain ⟨o, ho, hc⟩ := he
  refine wpAny_bind (wpAny_isInstance (T := "StopIteration") (b := true) ⟨o, ho, hc⟩ isSubtype_stop ?_)
  exact wpAny_pure (hQ _ hk)
end
end EvCol

namespace EvCol
open PySem PySem.Spec PyProof.Rows
section
variable {prog : Program} {w : World} {A : Around} {R : Result → Shared → Prop}
/-- the zip between two turns -/
def ZSt (h : Heap) (z TI TO : Addr) (i : Nat) : Prop := (i = 0 ∧ IsZip h z TI TO .none ∧ ∃ a b, IsPair h TO a b) ∨ ∃ a f oa, a ≠ z ∧ a ≠ TO ∧ IsZip2 h z TI TO a f ∧ h.get? a = some oa
/-- the tuples laid so far -/
def Laid (h : Heap) (b0 : Nat) (xs ys : Array Value) (acc : Array Value) (i : Nat) : Prop := acc.size = i ∧ (∀ (j : Nat) (v : Value), acc[j]? = some v → ∃ (T : Addr) (x y : Value), v = Value.ref T ∧ b0 ≤ T ∧ IsPair h T x y ∧ xs[j]? = some x ∧ ys[j]? = some y) ∧ ∀ (j j' : Nat) (T : Addr), acc[j]? = some (Value.ref T) → acc[j']? = some (Value.ref T) → j = j'
structure ZIn (h0 h : Heap) (b0 : Nat) (z TI TO i1 i2 l1 l2 S : Addr) (xs ys : Array Value) (i : Nat) : Prop where
  zs : ZSt h z TI TO i
  ti : IsPair h TI (.ref i1) (.ref i2)
  h1 : h.IsTupleIter i1 l1 i
  h2 : h.IsTupleIter i2 l2 i
  l1 : h.IsTuple l1 xs
  l2 : h.IsTuple l2 ys
  old : ∀ b o, b < b0 → h0.get? b = some o → h.get? b = some o
  tq : ∃ o, h.get? TO = some o
theorem ltne {b u : Addr} {b0 : Nat} (h : b < b0) (h2 : b0 ≤ u) : b ≠ u := fun e => by
  rw [e] at h
  exact absurd h (Nat.not_lt.mpr h2)
theorem loop_zip {z TI TO i1 i2 l1 l2 S : Addr} {xs ys : Array Value} {n b0 : Nat} {h0 : Heap} (hh : A.handled = none) (D : ZipApart z TI TO i1 i2 l1 l2) (hn : n ≤ sizeLine) (hxn : n ≤ xs.size) (hyn : n ≤ ys.size) (hend : xs[n]? = none ∨ ys[n]? = none)
    (hS : S ≠ z ∧ S ≠ TI ∧ S ≠ TO ∧ S ≠ i1 ∧ S ≠ i2 ∧ S ≠ l1 ∧ S ≠ l2) (hb : b0 ≤ z ∧ b0 ≤ TO ∧ b0 ≤ i1 ∧ b0 ≤ i2 ∧ b0 ≤ S) (hb1 : S < b0 + 100) (res : Value) :
    ∀ (k i : Nat) (s : Shared) (acc : Array Value) (c : Nat), n - i = k → i ≤ n → ZIn h0 s.heap b0 z TI TO i1 i2 l1 l2 S xs ys i → Laid s.heap b0 xs ys acc i → (∀ v ∈ acc.toList, v ≠ .ref S ∧ v ≠ .ref z ∧ v ≠ .ref TO ∧ v ≠ .ref i1 ∧ v ≠ .ref i2) →
    s.heap.get? S = some { cls := .type "list", dict := none, data := .seq acc c, slots := #[] } →
    (∀ h' tk acc' c', s.toks ≤ tk → (∀ b o, b < b0 → h0.get? b = some o → h'.get? b = some o) → h'.get? S = some { cls := .type "list", dict := none, data := .seq acc' c', slots := #[] } → Laid h' b0 xs ys acc' n → R (.ok (.ret res)) { s with heap := h', toks := tk }) →
    codeAny (model prog w) A (.builtin "list.extend.loop" ⟨[.ref S, .ref z, res], []⟩) R s := by
  intro k
  induction k with
  | zero =>
    intro i s acc c hk hi I hL hd hSo hR
    have hin : i = n := by omega
    subst hin
    refine codeAny_builtin F.entry_extend_loop ?_
    rw [Around.under_plainId F.plain_extend_loop _]
    show wpAny _ A.in1 (pyNext (.ref z) >>= _) _ _ s
    have hkeep : ∀ h', (∀ c o, c ≠ z → c ≠ TO → c ≠ i1 → c ≠ i2 → s.heap.get? c = some o → h'.get? c = some o) → R (.ok (.ret res)) { s with heap := h', toks := s.toks } := fun h' hk' => by
      refine hR h' s.toks acc c (Nat.le_refl _) (fun b o hlt e => hk' b o (ltne hlt hb.1) (ltne hlt hb.2.1) (ltne hlt hb.2.2.1) (ltne hlt hb.2.2.2.1) (I.old b o hlt e)) (hk' S _ hS.1 hS.2.2.1 hS.2.2.2.1 hS.2.2.2.2.1 hSo) ⟨hL.1, fun j v hj => ?_, hL.2.2⟩
      obtain ⟨T, x, y, rfl, g1, g2, g3, g4⟩ := hL.2.1 j v hj
      have hv := hd _ (Array.mem_toList_iff.mpr (Array.mem_of_getElem? hj))
      exact ⟨T, x, y, rfl, g1, hk' T _ (fun e => hv.2.1 (by rw [e])) (fun e => hv.2.2.1 (by rw [e])) (fun e => hv.2.2.2.1 (by rw [e])) (fun e => hv.2.2.2.2 (by rw [e])) g2, g3, g4⟩
    rcases I.zs with ⟨_, hz, a, b, hTO⟩ | ⟨a, f, oa, haz, hat, hz, ha⟩
    · refine wpAny_bind (RZ.pyNext_zipT_end (A := A.in1) hh D hz I.ti hTO I.h1 I.h2 I.l1 I.l2 hend fun h' hk' => ?_)
      exact wpAny_pure (hkeep h' hk')
    · refine wpAny_bind (pyNext_more_end (A := A.in1) hh D hz ha I.ti I.h1 I.h2 I.l1 I.l2 hend fun h' hk' => ?_)
      exact wpAny_pure (hkeep h' fun c o c1 _ c3 c4 e => hk' c o c1 c3 c4 e)
  | succ k ih =>
    intro i s acc c hk hi I hL hd hSo hR
    have hlt : i < n := by omega
    have hx : xs[i]? = some xs[i] := Array.getElem?_eq_getElem (by omega)
    have hy : ys[i]? = some ys[i] := Array.getElem?_eq_getElem (by omega)
    refine codeAny_builtin F.entry_extend_loop ?_
    rw [Around.under_plainId F.plain_extend_loop _]
    show wpAny _ A.in1 (pyNext (.ref z) >>= _) _ _ s
    have hzs : z < s.heap.objs.size := by
      rcases I.zs with ⟨_, hz, _⟩ | ⟨_, _, _, _, _, hz, _⟩ <;> exact Heap.lt_size hz
    have hSs : S < s.heap.objs.size := Heap.lt_size hSo
    have hTs : TO < s.heap.objs.size := by obtain ⟨_, e⟩ := I.tq; exact Heap.lt_size e
    have hT0s : TI < s.heap.objs.size := Heap.lt_size I.ti
    have h1s : i1 < s.heap.objs.size := by obtain ⟨_, e, _⟩ := I.h1; exact Heap.lt_size e
    have h2s : i2 < s.heap.objs.size := by obtain ⟨_, e, _⟩ := I.h2; exact Heap.lt_size e
    have hl1s : l1 < s.heap.objs.size := by obtain ⟨_, e, _⟩ := I.l1; exact Heap.lt_size e
    have hl2s : l2 < s.heap.objs.size := by obtain ⟨_, e, _⟩ := I.l2; exact Heap.lt_size e
    -- one more tuple at the heap's end
    have fin : ∀ (h' : Heap), (∀ c o, c ≠ z → c ≠ TO → c ≠ i1 → c ≠ i2 → s.heap.get? c = some o → h'.get? c = some o) → ZSt h' z TI TO (i + 1) → h'.IsTupleIter i1 l1 (i + 1) → h'.IsTupleIter i2 l2 (i + 1) → IsPair h' s.heap.objs.size xs[i] ys[i] → h'.objs.size = s.heap.objs.size + 1 → IsPair h' TI (.ref i1) (.ref i2) → h'.IsTuple l1 xs → h'.IsTuple l2 ys → (∃ o, h'.get? TO = some o) →
        wpAny (model prog w) A.in1 (updateSeq S (·.push (.ref s.heap.objs.size)) >>= fun _ => again (.builtin "list.extend.loop" ⟨[.ref S, .ref z, res], []⟩)) (fun fin s' => match fin with | .done f => R (.ok f) s' | .again c' => c'.quiet = true ∧ codeAny (model prog w) A c' R s') (fun e s' => R (.error e) s') { s with heap := h' } := by
      intro h' kp zs g1 g2 gp gsz gti gl1 gl2 gtq
      have hS' := kp S _ hS.1 hS.2.2.1 hS.2.2.2.1 hS.2.2.2.2.1 hSo
      have oth : ∀ b o, b ≠ S → h'.get? b = some o → (h'.update S (Obj.mapSeq (·.push (.ref s.heap.objs.size)))).get? b = some o := fun b o hb e => (Heap.get?_update_other _ _ (Ne.symm hb)).trans e
      have hself := Heap.get?_update_self (Obj.mapSeq (·.push (Value.ref s.heap.objs.size))) hS' rfl
      have ne0 : ∀ {u : Addr}, u < s.heap.objs.size → s.heap.objs.size ≠ u := fun h e => absurd h (by rw [← e]; exact Nat.lt_irrefl _)
      refine wpAny_bind ?_
      refine wpAny_updateSeq hS' rfl (wpAny_pure ⟨plainId_quiet F.plain_extend_loop _, ih (i + 1) _ (acc.push (.ref s.heap.objs.size)) _ (by omega) hlt ?_ ?_ ?_ hself fun h3 tk acc' c' ht old hS3 hL3 => hR h3 tk acc' c' ht old hS3 hL3⟩)
        (by rw [hL.1]; omega) (by show (acc.push _).size ≤ sizeLine + 1; rw [Array.size_push, hL.1]; omega)
      · refine ⟨?_, oth _ _ hS.2.1.symm gti, g1.at fun o e => oth _ o hS.2.2.2.1.symm e, g2.at fun o e => oth _ o hS.2.2.2.2.1.symm e, ?_, ?_, fun b o hlt' e => oth b o (ltne hlt' hb.2.2.2.2) (kp b o (ltne hlt' hb.1) (ltne hlt' hb.2.1) (ltne hlt' hb.2.2.1) (ltne hlt' hb.2.2.2.1) (I.old b o hlt' e)), ?_⟩
        · rcases zs with ⟨e, _⟩ | ⟨a, f, oa, haz, hat, hz, ha⟩
          · cases e
          · refine .inr ?_
            by_cases q : a = S
            · subst q
              exact ⟨a, f, _, haz, hat, oth _ _ hS.1.symm hz, hself⟩
            · exact ⟨a, f, oa, haz, hat, oth _ _ hS.1.symm hz, oth _ _ q ha⟩
        · obtain ⟨o, e, r⟩ := gl1
          exact ⟨o, oth _ _ hS.2.2.2.2.2.1.symm e, r⟩
        · obtain ⟨o, e, r⟩ := gl2
          exact ⟨o, oth _ _ hS.2.2.2.2.2.2.symm e, r⟩
        · obtain ⟨o, e⟩ := gtq
          exact ⟨o, oth _ _ hS.2.2.1.symm e⟩
      · refine ⟨by rw [Array.size_push, hL.1], fun j v hj => ?_, fun j j' T hj hj' => ?_⟩
        · rw [Array.getElem?_push] at hj
          split at hj
          · rename_i e
            cases hj
            rw [hL.1] at e
            subst e
            exact ⟨_, xs[j], ys[j], rfl, Nat.le_of_lt (Nat.lt_of_le_of_lt hb.2.2.2.2 hSs), oth _ _ (ne0 hSs) gp, hx, hy⟩
          · obtain ⟨T, x, y, rfl, q1, q2, q3, q4⟩ := hL.2.1 j v hj
            have hv := hd _ (Array.mem_toList_iff.mpr (Array.mem_of_getElem? hj))
            exact ⟨T, x, y, rfl, q1, oth _ _ (fun e => hv.1 (by rw [e])) (kp T _ (fun e => hv.2.1 (by rw [e])) (fun e => hv.2.2.1 (by rw [e])) (fun e => hv.2.2.2.1 (by rw [e])) (fun e => hv.2.2.2.2 (by rw [e])) q2), q3, q4⟩
        · have low : ∀ (j : Nat) (T : Addr), acc[j]? = some (Value.ref T) → T < s.heap.objs.size := fun j T h => by
            obtain ⟨T', x, y, e, _, q2, _⟩ := hL.2.1 j _ h
            injection e with e
            rw [e]
            exact Heap.lt_size q2
          rw [Array.getElem?_push] at hj hj'
          split at hj
          · rename_i e
            split at hj'
            · rename_i e'
              exact e.trans e'.symm
            · injection hj with hj
              injection hj with hj
              exact absurd (low j' T hj') (by rw [← hj]; exact Nat.lt_irrefl _)
          · split at hj'
            · injection hj' with hj'
              injection hj' with hj'
              exact absurd (low j T hj) (by rw [← hj']; exact Nat.lt_irrefl _)
            · exact hL.2.2 j j' T hj hj'
      · intro v hv
        rw [Array.toList_push, List.mem_append, List.mem_singleton] at hv
        rcases hv with hv | rfl
        · exact hd v hv
        · refine ⟨fun e => ne0 hSs (by injection e), fun e => ne0 hzs (by injection e), fun e => ne0 hTs (by injection e), fun e => ne0 h1s (by injection e), fun e => ne0 h2s (by injection e)⟩
    have ne1 : ∀ {u : Addr}, u < s.heap.objs.size → s.heap.objs.size ≠ u := fun h e => absurd h (by rw [← e]; exact Nat.lt_irrefl _)
    rcases I.zs with ⟨_, hz, a, b, hTO⟩ | ⟨a, f, oa, haz, hat, hz, ha⟩
    · refine wpAny_bind (RZ.pyNext_zipT_item (A := A.in1) D hz I.ti hTO I.h1 I.h2 I.l1 I.l2 hx hy fun h' a1 a2 a3 a4 a5 a6 a7 => ?_)
      refine fin h' a7 (.inr ⟨s.heap.objs.size, false, _, ne1 hzs, ne1 hTs, a1, a5⟩) a3 a4 a5 a6 (a7 _ _ D.TIz D.TITO D.TIi1 D.TIi2 I.ti) ?_ ?_ ⟨_, a2⟩
      · obtain ⟨o, e, r⟩ := I.l1
        exact ⟨o, a7 _ _ D.l1z D.l1TO D.l1i1 D.l1i2 e, r⟩
      · obtain ⟨o, e, r⟩ := I.l2
        exact ⟨o, a7 _ _ D.l2z D.l2TO D.l2i1 D.l2i2 e, r⟩
    · refine wpAny_bind (pyNext_more_item (A := A.in1) D hz ha I.ti I.h1 I.h2 I.l1 I.l2 hx hy fun h' a1 a3 a4 a5 a6 a7 => ?_)
      obtain ⟨oT, eT⟩ := I.tq
      have haa : ∃ oa', h'.get? a = some oa' := by
        by_cases q1 : a = i1
        · subst q1; obtain ⟨o, e, _⟩ := a3; exact ⟨o, e⟩
        · by_cases q2 : a = i2
          · subst q2; obtain ⟨o, e, _⟩ := a4; exact ⟨o, e⟩
          · exact ⟨oa, a7 a oa haz q1 q2 ha⟩
      obtain ⟨oa', haa⟩ := haa
      refine fin h' (fun c o c1 _ c3 c4 e => a7 c o c1 c3 c4 e) (.inr ⟨a, true, oa', haz, hat, a1, haa⟩) a3 a4 a5 a6 (a7 _ _ D.TIz D.TIi1 D.TIi2 I.ti) ?_ ?_ ⟨oT, a7 _ _ D.TOz D.TOi1 D.TOi2 eT⟩
      · obtain ⟨o, e, r⟩ := I.l1
        exact ⟨o, a7 _ _ D.l1z D.l1i1 D.l1i2 e, r⟩
      · obtain ⟨o, e, r⟩ := I.l2
        exact ⟨o, a7 _ _ D.l2z D.l2i1 D.l2i2 e, r⟩
end
end EvCol

namespace EvCol
open PySem PySem.Spec PyProof.Rows
theorem zip_no_len : typeLookup (.type "zip") "__len__" = pure none := by rw [typeLookup_type, builtinLookup_eq_fast]; kernel_rfl
theorem zip_no_hint : typeLookup (.type "zip") "__length_hint__" = pure none := by rw [typeLookup_type, builtinLookup_eq_fast]; kernel_rfl
section
variable {prog : Program} {w : World} {A : Around} {E : Value → Shared → Prop} {s : Shared}
/-- list(zip) of a zip just made -/
theorem call_list_zip {z TI TO i1 i2 l1 l2 : Addr} {xs ys : Array Value} {a b : Value} {n b0 : Nat} {Q : Value → Shared → Prop} (hh : A.handled = none) (D : ZipApart z TI TO i1 i2 l1 l2) (hn : n ≤ sizeLine) (hxn : n ≤ xs.size) (hyn : n ≤ ys.size) (hend : xs[n]? = none ∨ ys[n]? = none)
    (hz : IsZip s.heap z TI TO .none) (hTI : IsPair s.heap TI (.ref i1) (.ref i2)) (hTO : IsPair s.heap TO a b) (h1 : s.heap.IsTupleIter i1 l1 0) (h2 : s.heap.IsTupleIter i2 l2 0) (hl1 : s.heap.IsTuple l1 xs) (hl2 : s.heap.IsTuple l2 ys)
    (hb : b0 ≤ z ∧ b0 ≤ TO ∧ b0 ≤ i1 ∧ b0 ≤ i2) (hs : s.heap.objs.size < b0 + 100)
    (hQ : ∀ (h' : Heap) (tk : Nat) (acc : Array Value) (c : Nat), s.toks ≤ tk → (∀ b o, b < b0 → s.heap.get? b = some o → h'.get? b = some o) → h'.get? s.heap.objs.size = some { cls := .type "list", dict := none, data := .seq acc c, slots := #[] } → Laid h' b0 xs ys acc n →
      Q (.ref s.heap.objs.size) { s with heap := h', toks := tk }) :
    wpAny (model prog w) A (call (.type "list") [.ref z]) Q E s := by
  have hzs : z < s.heap.objs.size := Heap.lt_size hz
  have hTIs : TI < s.heap.objs.size := Heap.lt_size hTI
  have hTOs : TO < s.heap.objs.size := Heap.lt_size hTO
  have h1s : i1 < s.heap.objs.size := by obtain ⟨_, e, _⟩ := id h1; exact Heap.lt_size e
  have h2s : i2 < s.heap.objs.size := by obtain ⟨_, e, _⟩ := id h2; exact Heap.lt_size e
  have hl1s : l1 < s.heap.objs.size := by obtain ⟨_, e, _⟩ := id hl1; exact Heap.lt_size e
  have hl2s : l2 < s.heap.objs.size := by obtain ⟨_, e, _⟩ := id hl2; exact Heap.lt_size e
  have nn : ∀ {u : Addr}, u < s.heap.objs.size → s.heap.objs.size ≠ u := fun h e => absurd h (by rw [← e]; exact Nat.lt_irrefl _)
  refine callType_codes (Q₁ := fun obj s₁ => obj = .ref s.heap.objs.size ∧ s₁ = { s with heap := s.heap.push { cls := .type "list", data := .seq #[] } }) F.called_list (F.typeCall_list_1 _) F.entry_list_init
    (code_list_new _ ⟨rfl, rfl⟩) fun obj s₁ h₁ => ?_
  obtain ⟨rfl, rfl⟩ := h₁
  have hS : (s.heap.push { cls := .type "list", data := .seq #[] }).get? s.heap.objs.size = some { cls := .type "list", data := .seq #[] } := Heap.get?_push_size _ rfl
  refine ⟨⟨_, hS, rfl⟩, F.args_list_init_2 _ _, ?_⟩
  show wpAny _ A.in1.in1 (do let old ← Builtin.List.listItems (.ref s.heap.objs.size); Builtin.List.listUpdate (.ref s.heap.objs.size) (fun _ => #[]); letGo old.toList.reverse; Builtin.List.listExtendWith (.ref s.heap.objs.size) (.ref z) .none) _ _ _
  refine wpAny_bind ?_
  unfold Builtin.List.listItems
  refine wpAny_bind (wpAny_seqItems hS rfl (wpAny_pure ?_))
  show wpAny _ A.in1.in1 (updateSeq s.heap.objs.size (fun _ => #[]) >>= fun _ => letGo (#[] : Array Value).toList.reverse >>= fun _ => Builtin.List.listExtendWith (.ref s.heap.objs.size) (.ref z) .none) _ _ _
  refine wpAny_bind (wpAny_updateSeq hS rfl ?_)
  have hS₂ := Heap.get?_update_self (Obj.mapSeq (fun _ => (#[] : Array Value))) hS rfl
  have oth : ∀ b o, b ≠ s.heap.objs.size → s.heap.get? b = some o → ((s.heap.push { cls := .type "list", data := .seq #[] }).update s.heap.objs.size (Obj.mapSeq (fun _ => (#[] : Array Value)))).get? b = some o :=
    fun b o hb e => (Heap.get?_update_other _ _ (Ne.symm hb)).trans (Heap.get?_push_of_some _ e)
  refine wpAny_bind (wpAny_letGo ?_)
  generalize hHA : ((s.heap.push { cls := .type "list", data := .seq #[] }).update s.heap.objs.size (Obj.mapSeq (fun _ => (#[] : Array Value)))) = HA at *
  have hz1 : IsZip HA z TI TO .none := oth _ _ (nn hzs).symm hz
  have hT : ({ s with heap := HA } : Shared).TypeIs (.ref z) "zip" := ⟨_, hz1, rfl⟩
  have e1 : Builtin.List.listSameRef (.ref s.heap.objs.size) (.ref z) = false := by simp [Builtin.List.listSameRef, nn hzs]
  unfold Builtin.List.listExtendWith
  refine wpAny_bind (wpAny_typeOf hT ?_)
  rw [if_neg (by rw [e1]; decide)]
  refine wpAny_bind (wpAny_pyIter_zip (s := { s with heap := HA }) hz1 ?_)
  refine wpAny_bind (wpAny_holding ?_)
  unfold Builtin.List.listLengthHint
  refine wpAny_bind (wpAny_specialOf hT zip_no_len ?_)
  show wpAny _ A.in1.in1 (specialOf (Value.ref z) (Str.ofString "__length_hint__") >>= _) _ _ _
  refine wpAny_bind (wpAny_specialOf hT zip_no_hint ?_)
  refine wpAny_pure ?_
  show wpAny _ A.in1.in1 (rule "list.extend.makes-room" >>= fun _ => Builtin.List.listTouch (.ref s.heap.objs.size) >>= fun _ =>
    again (.builtin "list.extend.loop" ⟨[.ref s.heap.objs.size, .ref z, .none], []⟩)) _ _ _
  refine wpAny_bind (wpAny_rule ?_)
  refine wpAny_bind ?_
  show wpAny _ A.in1.in1 (updateSeq s.heap.objs.size (·.push .none) >>= fun _ => updateSeq s.heap.objs.size (·.pop)) _ _ _
  refine wpAny_bind (wpAny_updateSeq hS₂ rfl ?_)
  have hS₃ := Heap.get?_update_self (Obj.mapSeq (·.push Value.none)) hS₂ rfl
  refine wpAny_updateSeq (hz := by seq_fits) hS₃ rfl ?_
  have hS₄ := Heap.get?_update_self (Obj.mapSeq (·.pop)) hS₃ rfl
  have oth2 : ∀ b o, b ≠ s.heap.objs.size → s.heap.get? b = some o → ((HA.update s.heap.objs.size (Obj.mapSeq (·.push Value.none))).update s.heap.objs.size (Obj.mapSeq (·.pop))).get? b = some o :=
    fun b o hb e => (Heap.get?_update_other _ _ (Ne.symm hb)).trans ((Heap.get?_update_other _ _ (Ne.symm hb)).trans (oth b o hb e))
  refine wpAny_pure ⟨plainId_quiet F.plain_extend_loop _, loop_zip (A := A.in1) (h0 := s.heap) (b0 := b0) (n := n) (show A.in1.handled = none from hh) D hn hxn hyn hend ⟨nn hzs, nn hTIs, nn hTOs, nn h1s, nn h2s, nn hl1s, nn hl2s⟩ ⟨hb.1, hb.2.1, hb.2.2.1, hb.2.2.2, Nat.le_of_lt (Nat.lt_of_le_of_lt hb.1 hzs)⟩ hs .none n 0 _ #[] _ rfl (Nat.zero_le _) ?_ ⟨rfl, (fun j v hj => by simp at hj), fun j j' T hj => by simp at hj⟩ (fun v hv => by simp at hv) hS₄ fun h' tk acc' c' ht old hS' hL => ?_⟩
  · refine ⟨.inl ⟨rfl, oth2 _ _ (nn hzs).symm hz, a, b, oth2 _ _ (nn hTOs).symm hTO⟩, oth2 _ _ (nn hTIs).symm hTI, h1.at fun o e => oth2 _ o (nn h1s).symm e, h2.at fun o e => oth2 _ o (nn h2s).symm e, ?_, ?_, fun b o hlt e => oth2 b o (fun q => absurd hlt (by rw [q]; exact Nat.not_lt.mpr (Nat.le_of_lt (Nat.lt_of_le_of_lt hb.1 hzs)))) e, ⟨_, oth2 _ _ (nn hTOs).symm hTO⟩⟩
    · obtain ⟨o, e, r⟩ := hl1
      exact ⟨o, oth2 _ _ (nn hl1s).symm e, r⟩
    · obtain ⟨o, e, r⟩ := hl2
      exact ⟨o, oth2 _ _ (nn hl2s).symm e, r⟩
  · exact ⟨rfl, hQ h' tk acc' c' ht old hS' hL⟩
end
end EvCol

namespace EvCol
open PySem PySem.Spec PyProof.Rows L2
def layR (H : Hp) : List (Addr × HO) → Hp
  | [] => H
  | e :: L => upd (layR H L) e.1 e.2
theorem layR_none {H : Hp} {a : Addr} (h : H a = none) : ∀ {L : List (Addr × HO)}, a ∉ L.map (·.1) → layR H L a = none
  | [], _ => h
  | e :: L, hn => by
    rw [List.map_cons, List.mem_cons, not_or] at hn
    rw [layR, upd_ne hn.1]
    exact layR_none h hn.2
section
variable {X : Cx} {pins : List (Addr × Obj)} {σ : L2.St} {H : Hp} {s : Shared}
/-- many new objects at once -/
theorem lay_many {hF : Heap} {t' : Nat} (I : Inv X pins σ H s) : ∀ (L : List (Addr × HO)) (G : Heap), (L.map (·.1)).Nodup → (∀ e ∈ L, s.heap.objs.size ≤ e.1) →
    (∀ e ∈ L, ∀ (H' : Hp) (G' : Heap), G'.get? e.1 = hF.get? e.1 → ObjOk X.prog X.w (upd H' e.1 e.2) G' e.1 e.2) → (∀ b u, s.heap.get? b = some u → G.get? b = some u) → (∀ e ∈ L, G.get? e.1 = hF.get? e.1) →
    Inv X pins σ (layR H L) { s with heap := G, toks := t' }
  | [], G, _, _, _, k, _ => I.kept (t' := t') k
  | e :: L, G, hnd, hsz, hok, k, hg => by
    rw [List.map_cons, List.nodup_cons] at hnd
    obtain ⟨G', g1, g2⟩ := restrict G fun b => decide (b ≠ e.1)
    have h1 : ∀ b, b ≠ e.1 → G'.get? b = G.get? b := fun b hb => g1 b (decide_eq_true hb)
    have h2 : G'.get? e.1 = none := g2 _ (decide_eq_false (fun z => z rfl))
    have hlow : ∀ b u, s.heap.get? b = some u → b ≠ e.1 := fun b u q z => by
      have := Heap.lt_size q
      rw [z] at this
      exact absurd this (Nat.not_lt.mpr (hsz e (.head _)))
    have J := lay_many (t' := t') I L G' hnd.2 (fun x hx => hsz x (.tail _ hx)) (fun x hx => hok x (.tail _ hx)) (fun b u q => by rw [h1 b (hlow b u q)]; exact k b u q) fun x hx => by
      rw [h1 x.1 (fun z => hnd.1 (by rw [← z]; exact List.mem_map.mpr ⟨x, hx, rfl⟩))]
      exact hg x (.tail _ hx)
    have hn : layR H L e.1 = none := layR_none (I.hok.fresh (hsz e (.head _))) hnd.1
    exact Inv.laidN (s := { s with heap := G', toks := t' }) (t' := t') J (fun b u q => by
      by_cases z : b = e.1
      · rw [z] at q
        rw [show G'.get? e.1 = some u from q] at h2
        cases h2
      · rw [← h1 b z]; exact q) h2 hn (hok e (.head _) _ _ (hg e (.head _)))
end
end EvCol

namespace EvCol
open PySem PySem.Spec PyProof.Rows L2
def zipL (ts : List Addr) (xs ys : List V) : List (Addr × HO) := (ts.zip (xs.zip ys)).map fun e => (e.1, HO.tup [e.2.1, e.2.2])
/-- list(zip(x, y)), two tuples of one length -/
def tLstZip (K : PySem.W.Frag) (ta : TA) : TE := fun σ H Q => ta σ H fun vs H1 => ∃ (a b : Addr) (xs ys : List V), vs = [.ref a, .ref b] ∧ SqT K H1 a xs ∧ SqT K H1 b ys ∧ xs.length = ys.length ∧
  ∀ (ts : List Addr) (p : Addr), ts.length = xs.length → (p :: ts).Nodup → (∀ t ∈ p :: ts, H1 t = none) → Q (.ref p) (layR H1 ((p, .lst (ts.map V.ref)) :: zipL ts xs ys))
theorem refs_of : ∀ (l : List Value), (∀ v ∈ l, ∃ T : Addr, v = Value.ref T) → ∃ ts : List Addr, l = ts.map Value.ref
  | [], _ => ⟨[], rfl⟩
  | v :: l, h => by
    obtain ⟨T, hT⟩ := h v (.head _)
    obtain ⟨ts, hts⟩ := refs_of l fun w hw => h w (.tail _ hw)
    exact ⟨T :: ts, by rw [hT, hts]; rfl⟩
theorem vals_refs : ∀ ts : List Addr, Vals (ts.map V.ref) (ts.map Value.ref)
  | [] => .nil
  | t :: ts => .cons rfl (vals_refs ts)
theorem zipL_fst : ∀ (ts : List Addr) (xs ys : List V), ts.length = xs.length → xs.length = ys.length → (zipL ts xs ys).map (·.1) = ts := fun ts xs ys h1 h2 => by
  unfold zipL
  rw [List.map_map]
  show (ts.zip (xs.zip ys)).map Prod.fst = ts
  rw [List.map_fst_zip]
  rw [List.length_zip]
  omega
section
variable {X : Cx}
theorem pe_listZip {e e2 : Expr} {ta : TA} {p p2 pos pos2 : Pos} (hc : X.calm = true) (hg : Gl X "list") (hm : X.mg "list" = none) (hg2 : Gl X "zip") (hm2 : X.mg "zip" = none) (ha : PA X [e, e2] ta)
    (hs : starEach [e, e2] X.env = (false, eval e X.env) :: starEach [e2] X.env := by rfl) (hpl : (backTo pos2 (starEach [e2] X.env)).any (·.1) = false := by rfl)
    (hs2 : starEach [.Call (.Name "zip" p2) [e, e2] [] pos2] X.env = (false, eval (.Call (.Name "zip" p2) [e, e2] [] pos2) X.env) :: starEach [] X.env := by rfl) :
    PE X (.Call (.Name "list" p) [.Call (.Name "zip" p2) [e, e2] [] pos2] [] pos) (tLstZip X.K ta) := by
  refine ⟨fun pins s σ H Q I h => ?_⟩
  refine Call_ (ld_blt I hg hm boot_list (PyProof.Rows.callWith_type1 (args_cons (Call_ (ld_blt I hg2 hm2 PyProof.Rows.boot_zip (PyProof.Rows.callWith_type1 (thn (ha.run pos2 pins s σ H _ I h) fun us s1 ⟨vs, H1, I1, r1, q1⟩ => ?_) hs hpl))) hs2) hs2 rfl))
  obtain ⟨a, b, xs, ys, ex, hqx, hqy, hlen, q⟩ := q1
  subst ex
  cases r1 with
  | cons r rr =>
    cases rr with
    | cons r' rr =>
      cases rr
      cases r
      cases r'
      obtain ⟨its, rv, p1, hz1⟩ := I1.tuple hqx
      obtain ⟨its2, rv2, p2', _⟩ := I1.tuple hqy
      obtain ⟨o1, ho1, _⟩ := id p1
      obtain ⟨o2, ho2, _⟩ := id p2'
      refine RZ.call_zipT (show s1.heap.IsTuple a its.toArray from p1) (show s1.heap.IsTuple b its2.toArray from p2') fun h' hz hTI hTO h1 h2 hsz hk => args_nil ?_
      have hl1 := rv.length
      have hl2 := rv2.length
      refine call_list_zip (s := { s1 with heap := h' }) (xs := its.toArray) (ys := its2.toArray) (n := xs.length) (b0 := s1.heap.objs.size) (I1.ok.hd hc) (PySem.W.ktu_apart s1.heap.objs.size a b (Heap.lt_size ho1) (Heap.lt_size ho2)) hz1 (by rw [List.size_toArray]; omega) (by rw [List.size_toArray]; omega) (.inl (by rw [List.getElem?_toArray, List.getElem?_eq_none (by omega)])) hz hTI hTO h1 h2
        (by obtain ⟨o, e, r⟩ := p1; exact ⟨o, hk _ _ e, r⟩) (by obtain ⟨o, e, r⟩ := p2'; exact ⟨o, hk _ _ e, r⟩) ⟨Nat.le_add_right _ _, Nat.le_add_right _ _, Nat.le_refl _, Nat.le_add_right _ _⟩ (by show h'.objs.size < _; omega) fun hF tk acc c ht old hS hL => ?_
      have hsz' : h'.objs.size = s1.heap.objs.size + 5 := hsz
      obtain ⟨ts, hts⟩ := refs_of acc.toList fun v hv => by
        obtain ⟨j, hj⟩ := List.getElem?_of_mem hv
        rw [Array.getElem?_toList] at hj
        obtain ⟨T, _, _, e, _⟩ := hL.2.1 j v hj
        exact ⟨T, e⟩
      have htl : ts.length = xs.length := by
        have := congrArg List.length hts
        rw [List.length_map, Array.length_toList, hL.1] at this
        exact this.symm
      have tat : ∀ (j : Nat) (T : Addr), ts[j]? = some T → acc[j]? = some (Value.ref T) := fun j T h => by
        rw [← Array.getElem?_toList, hts, List.getElem?_map, h]
        rfl
      have tnd : ts.Nodup := by
        rw [List.nodup_iff_pairwise_ne, List.pairwise_iff_getElem]
        intro i j hi hj hij e
        have := hL.2.2 i j ts[i] (tat i _ (List.getElem?_eq_getElem hi)) (tat j _ (by rw [List.getElem?_eq_getElem hj, e]))
        omega
      have tge : ∀ t ∈ ts, s1.heap.objs.size ≤ t ∧ ∃ j : Nat, ts[j]? = some t := fun t ht => by
        obtain ⟨j, hj⟩ := List.getElem?_of_mem ht
        obtain ⟨T, _, _, e, g, _⟩ := hL.2.1 j _ (tat j t hj)
        injection e with e
        exact ⟨by rw [e]; exact g, j, hj⟩
      have pnt : h'.objs.size ∉ ts := fun hp => by
        obtain ⟨j, hj⟩ := List.getElem?_of_mem hp
        obtain ⟨T, x, y, e, _, g, _⟩ := hL.2.1 j _ (tat j _ hj)
        injection e with e
        rw [← e] at g
        have g' : hF.get? h'.objs.size = some { cls := .type "tuple", data := .seq #[x, y] } := g
        have hS' : hF.get? h'.objs.size = some { cls := .type "list", dict := none, data := .seq acc c, slots := #[] } := hS
        rw [hS'] at g'
        exact absurd (show Value.type "list" = Value.type "tuple" from congrArg Obj.cls (Option.some.inj g')) (by decide)
      have kk : ∀ b u, s1.heap.get? b = some u → hF.get? b = some u := fun b u e => old b u (Heap.lt_size e) (hk b u e)
      have hfst := zipL_fst ts xs ys htl hlen
      have J := lay_many (hF := hF) (t' := tk) I1 ((h'.objs.size, HO.lst (ts.map V.ref)) :: zipL ts xs ys) hF (by rw [List.map_cons, hfst, List.nodup_cons]; exact ⟨pnt, tnd⟩) (fun e he => ?_) (fun e he => ?_) kk (fun _ _ => rfl)
      · exact ⟨.ref h'.objs.size, _, J, rfl, q ts h'.objs.size htl (List.nodup_cons.mpr ⟨pnt, tnd⟩) fun t ht => I1.hok.fresh (by
          rcases List.mem_cons.mp ht with e | ht
          · rw [e]; omega
          · exact (tge t ht).1)⟩
      · rcases List.mem_cons.mp he with rfl | he
        · show s1.heap.objs.size ≤ h'.objs.size; omega
        · have : e.1 ∈ (zipL ts xs ys).map (·.1) := List.mem_map.mpr ⟨e, he, rfl⟩
          rw [hfst] at this
          exact (tge _ this).1
      · rcases List.mem_cons.mp he with rfl | he
        · intro H' G' hG
          refine (show ObjOk X.prog X.w _ G' _ (.lst (ts.map V.ref)) from ⟨by rw [List.length_map, htl]; exact hz1, acc.toList, c, by rw [hts]; exact vals_refs ts, ?_⟩)
          rw [Array.toArray_toList]
          exact hG.trans hS
        · intro H' G' hG
          unfold zipL at he
          obtain ⟨⟨t, x, y⟩, hm', rfl⟩ := List.mem_map.mp he
          obtain ⟨j, hj⟩ := List.getElem?_of_mem hm'
          rw [List.getElem?_zip_eq_some] at hj
          obtain ⟨hj1, hj2⟩ := hj
          rw [List.getElem?_zip_eq_some] at hj2
          obtain ⟨T, u, v, eT, _, g, gu, gv⟩ := hL.2.1 j _ (tat j t hj1)
          injection eT with eT
          obtain ⟨u', hu', ru⟩ := rv.get hj2.1
          obtain ⟨v', hv', rv'⟩ := rv2.get hj2.2
          rw [List.getElem?_toArray] at gu gv
          rw [gu] at hu'
          rw [gv] at hv'
          cases hu'
          cases hv'
          refine (show ObjOk X.prog X.w _ G' _ (.tup [x, y]) from ⟨by show 2 ≤ sizeLine; decide, [u, v], .cons ru (.cons rv' .nil), ?_⟩)
          have g' : hF.get? t = some { cls := .type "tuple", data := .seq #[u, v] } := by rw [show t = T from eT]; exact g
          exact ⟨_, hG.trans g', rfl, _, rfl⟩
end
end EvCol

/-! Built-in functions, further; targets. -/
namespace Ev
open PySem PySem.Spec PyProof.Rows L2

section
variable {X : Cx} {K : PySem.W.Frag} {φ : List Nat} {fs : List D → Option (List D)} {e : Expr} {es : List Expr} {pos p : Pos}
/-- a built-in whose answer is a plain value -/
theorem r_biS {f : BI} (hh : ∀ {t : TA}, PA X es t → PE X e (tCB (rB K f) t)) (hs : ∀ ds d, biD f ds = some d → ∃ v, sv d = some v) (ha : PA X es (RdA K φ .bor fs)) : PE X e (RdE K φ (.own 0) fun ρ => (fs ρ).bind fun ds => biD f ds) := by
  refine peI (hh ha) fun σ H Q ⟨ρ, F, S, st, d, e, q⟩ => ?_
  dsimp only at e
  obtain ⟨ds, eds, e⟩ := bind_some e
  refine ⟨ρ, F, S, st, ds, eds, fun vs H1 F1 e1 r1 => ?_⟩
  obtain ⟨v, hv⟩ := hs ds d e
  exact ⟨ds, d, v, r1, e, hv, q _ _ _ e1 (own0 (sv_rep hv))⟩
theorem sv_len {ds : List D} {d : D} (h : biD .len ds = some d) : ∃ v, sv d = some v := by
  replace h : one1 lenD ds = some d := h
  obtain ⟨x, rfl, h2⟩ := one1_some h
  clear h
  cases x <;> simp only [lenD, reduceCtorEq, Option.some.injEq] at h2 <;> subst h2 <;> exact ⟨_, rfl⟩
theorem sv_sum {ds : List D} {d : D} (h : biD .sum ds = some d) : ∃ v, sv d = some v := by
  obtain ⟨x, rfl, h2⟩ := one1_some (show one1 sumD ds = some d from h)
  obtain ⟨xs, _, h3⟩ := bind_some h2
  obtain ⟨ns, _, rfl⟩ := map_some' h3
  exact ⟨_, rfl⟩
theorem sv_any {ds : List D} {d : D} (h : biD .any ds = some d) : ∃ v, sv d = some v := by
  obtain ⟨x, rfl, h2⟩ := one1_some (show one1 anyD ds = some d from h)
  obtain ⟨xs, _, h3⟩ := bind_some h2
  obtain ⟨ns, _, rfl⟩ := map_some' h3
  exact ⟨_, rfl⟩
theorem sv_all {ds : List D} {d : D} (h : biD .all ds = some d) : ∃ v, sv d = some v := by
  obtain ⟨x, rfl, h2⟩ := one1_some (show one1 allD ds = some d from h)
  obtain ⟨xs, _, h3⟩ := bind_some h2
  obtain ⟨ns, _, rfl⟩ := map_some' h3
  exact ⟨_, rfl⟩
theorem sv_abs {ds : List D} {d : D} (h : biD .abs ds = some d) : ∃ v, sv d = some v := by
  replace h : one1 absD ds = some d := h
  obtain ⟨x, rfl, h2⟩ := one1_some h
  clear h
  cases x <;> simp only [absD, reduceCtorEq, Option.some.injEq] at h2 <;> subst h2 <;> exact ⟨_, rfl⟩
theorem sv_int {ds : List D} {d : D} (h : biD .int ds = some d) : ∃ v, sv d = some v := by
  replace h : one1 toIntD ds = some d := h
  obtain ⟨x, rfl, h2⟩ := one1_some h
  clear h
  cases x <;> simp only [toIntD, reduceCtorEq, Option.some.injEq] at h2 <;> subst h2 <;> exact ⟨_, rfl⟩
theorem minO_sv {ns : List Int} {d : D} (h : minO ns = some d) : ∃ v, sv d = some v := by
  cases ns with
  | nil => cases h
  | cons n r => cases h; exact ⟨_, rfl⟩
theorem maxO_sv {ns : List Int} {d : D} (h : maxO ns = some d) : ∃ v, sv d = some v := by
  cases ns with
  | nil => cases h
  | cons n r => cases h; exact ⟨_, rfl⟩
theorem minD_cases {ds : List D} {d : D} (h : minD ds = some d) : (∃ x xs ns, ds = [x] ∧ itemsD x = some xs ∧ intsD xs = some ns ∧ minO ns = some d) ∨ (∃ ns, intsD ds = some ns ∧ ns.length ≤ 3 ∧ ds.length ≠ 1 ∧ minO ns = some d) := by
  unfold minD at h
  split at h
  · obtain ⟨xs, h1, h⟩ := bind_some h
    obtain ⟨ns, h2, h⟩ := bind_some h
    exact .inl ⟨_, xs, ns, rfl, h1, h2, h⟩
  · rename_i hne
    obtain ⟨ns, h2, h⟩ := bind_some h
    split at h
    · refine .inr ⟨ns, h2, by assumption, fun hl => ?_, h⟩
      match ds, hl with
      | [x], _ => exact hne x rfl
    · cases h
theorem maxD_cases {ds : List D} {d : D} (h : maxD ds = some d) : (∃ x xs ns, ds = [x] ∧ itemsD x = some xs ∧ intsD xs = some ns ∧ maxO ns = some d) ∨ (∃ ns, intsD ds = some ns ∧ ns.length ≤ 3 ∧ ds.length ≠ 1 ∧ maxO ns = some d) := by
  unfold maxD at h
  split at h
  · obtain ⟨xs, h1, h⟩ := bind_some h
    obtain ⟨ns, h2, h⟩ := bind_some h
    exact .inl ⟨_, xs, ns, rfl, h1, h2, h⟩
  · rename_i hne
    obtain ⟨ns, h2, h⟩ := bind_some h
    split at h
    · refine .inr ⟨ns, h2, by assumption, fun hl => ?_, h⟩
      match ds, hl with
      | [x], _ => exact hne x rfl
    · cases h
theorem sv_min {ds : List D} {d : D} (h : biD .min ds = some d) : ∃ v, sv d = some v := by
  rcases minD_cases h with ⟨x, xs, ns, _, _, _, h⟩ | ⟨ns, _, _, _, h⟩ <;> exact minO_sv h
theorem sv_max {ds : List D} {d : D} (h : biD .max ds = some d) : ∃ v, sv d = some v := by
  rcases maxD_cases h with ⟨x, xs, ns, _, _, _, h⟩ | ⟨ns, _, _, _, h⟩ <;> exact maxO_sv h
end

section
variable {X : Cx} {pins : List (Addr × Obj)} {σ : L2.St} {H : Hp} {s : Shared}
theorem ints_len : ∀ {xs : List D} {ns : List Int}, intsD xs = some ns → ns.length = xs.length ∧ xs = ns.map D.int
  | [], ns, h => by cases h; exact ⟨rfl, rfl⟩
  | d :: ds, ns, h => by
    cases d <;> simp only [intsD, reduceCtorEq] at h
    obtain ⟨ms, h1, rfl⟩ := map_some' h
    obtain ⟨e1, e2⟩ := ints_len h1
    exact ⟨by simp [e1], by simp [e2]⟩
theorem argBest_minI (x : Int) (xs : List Int) : ((x :: xs).getD (argBest (fun i j => decide ((x :: xs).getD i 0 < (x :: xs).getD j 0)) xs.length) 0) = minI x xs := by
  have h := (PySem.W.argBest_fold (fun a b => decide (a < b)) 0 x xs xs.length (Nat.le_refl _)).2
  rw [List.take_length] at h
  rw [h]
  have go : ∀ (xs : List Int) (x : Int), List.foldl (fun a y => if decide (y < a) = true then y else a) x xs = minI x xs := by
    intro xs
    induction xs with
    | nil => intro x; rfl
    | cons y ys ih => intro x; rw [List.foldl_cons, ih, minI]; simp
  exact go xs x
theorem argBest_maxI (x : Int) (xs : List Int) : ((x :: xs).getD (argBest (fun i j => decide ((x :: xs).getD j 0 < (x :: xs).getD i 0)) xs.length) 0) = maxI x xs := by
  have h := (PySem.W.argBest_fold (fun a b => decide (b < a)) 0 x xs xs.length (Nat.le_refl _)).2
  rw [List.take_length] at h
  rw [h]
  have go : ∀ (xs : List Int) (x : Int), List.foldl (fun a y => if decide (a < y) = true then y else a) x xs = maxI x xs := by
    intro xs
    induction xs with
    | nil => intro x; rfl
    | cons y ys ih => intro x; rw [List.foldl_cons, ih, maxI]; simp
  exact go xs x
theorem vals3 {x y z : V} {us : List Value} (r : Vals [x, y, z] us) : ∃ u v w, us = [u, v, w] ∧ L2.RelV x u ∧ L2.RelV y v ∧ L2.RelV z w := by
  cases r with
  | cons r1 r =>
    cases r with
    | cons r2 r =>
      cases r with
      | cons r3 r =>
        cases r
        exact ⟨_, _, _, rfl, r1, r2, r3⟩
theorem bi_min (hc : X.calm = true) : CallR X (.builtin "min") (rB X.K .min) := by
  intro pins s σ H vs us Q I r h
  obtain ⟨ds, d, v, ha, e, hv, q⟩ := h
  rcases minD_cases e with ⟨x, xs, ns, rfl, ex, en, e2⟩ | ⟨ns, en, hl3, hl1, e2⟩
  · obtain ⟨w, rfl, hr⟩ := one_of ha
    obtain ⟨u, rfl, ru⟩ := vals1 r
    cases ns with
    | nil => cases e2
    | cons n ns =>
      cases e2
      cases hv
      obtain ⟨us, ws, q1, rv, hl, hz, wk⟩ := seq_walk I ex hr ru
      obtain ⟨rfl, hn⟩ := ints_at en q1 rv
      rw [List.length_cons] at hn
      refine call_min_walkH (wk (by exact I.ok.hd hc) fun o fp St s₂ e W st hfp h1 h2 => ?_)
      refine ⟨_, _, _, _, _, _, _, s.heap, fun i j => decide ((n :: ns).getD i 0 < (n :: ns).getD j 0), rfl, W, st, hfp, by omega, h1, h2, fun i j vi vj s' Q E hk hi hj hq => ?_, fun v s' hP m => ?_⟩
      · obtain ⟨t, rfl⟩ := vals_int_at rv hi
        obtain ⟨t', rfl⟩ := vals_int_at rv hj
        exact HT.rcLt_int _ _ _ _ _ _ _ _ _ _ hq
      · obtain ⟨t, rfl⟩ := vals_int_at rv hP
        refine ⟨.int (minI n ns), H, Inv.walked I e m, ⟨t, ?_⟩, q⟩
        have : us.length - 1 = ns.length := by omega
        rw [this, argBest_minI]
  · obtain ⟨hn, rfl⟩ := ints_len en
    match ns, hl3, hl1, e2, ha with
    | [], _, _, e2, _ => cases e2
    | [_], _, h1, _, _ => exact absurd rfl h1
    | [i, j], _, _, e2, ha =>
      cases e2
      cases hv
      obtain ⟨a, b, rfl, h1, h2⟩ := two_of ha
      refine call_min2 hc pins s σ H _ us Q I r ⟨i, j, by rw [rep_int h1, rep_int h2], ?_⟩
      simp only [minI] at q
      exact q
    | [i, j, k], _, _, e2, ha =>
      cases e2
      cases hv
      obtain ⟨a, b, c, rfl, h1, h2, h3⟩ := three_of ha
      rw [rep_int h1, rep_int h2, rep_int h3] at r
      obtain ⟨u1, u2, u3, rfl, ⟨t1, rfl⟩, ⟨t2, rfl⟩, ⟨t3, rfl⟩⟩ := vals3 r
      refine min_three_ints (I.ok.hd hc) fun h' tk hk => ⟨.int (minI i [j, k]), H, I.kept hk, ?_, q⟩
      simp only [minI]
      by_cases c1 : j < i
      · by_cases c2 : k < j
        · rw [if_pos c1, if_pos c2, if_pos c1, if_pos c2]; exact ⟨_, rfl⟩
        · rw [if_pos c1, if_neg c2, if_pos c1, if_neg c2]; exact ⟨_, rfl⟩
      · by_cases c2 : k < i
        · rw [if_neg c1, if_pos c2, if_neg c1, if_pos c2]; exact ⟨_, rfl⟩
        · rw [if_neg c1, if_neg c2, if_neg c1, if_neg c2]; exact ⟨_, rfl⟩
    | _ :: _ :: _ :: _ :: _, h, _, _, _ => simp at h
theorem bi_max (hc : X.calm = true) : CallR X (.builtin "max") (rB X.K .max) := by
  intro pins s σ H vs us Q I r h
  obtain ⟨ds, d, v, ha, e, hv, q⟩ := h
  rcases maxD_cases e with ⟨x, xs, ns, rfl, ex, en, e2⟩ | ⟨ns, en, hl3, hl1, e2⟩
  · obtain ⟨w, rfl, hr⟩ := one_of ha
    obtain ⟨u, rfl, ru⟩ := vals1 r
    cases ns with
    | nil => cases e2
    | cons n ns =>
      cases e2
      cases hv
      obtain ⟨us, ws, q1, rv, hl, hz, wk⟩ := seq_walk I ex hr ru
      obtain ⟨rfl, hn⟩ := ints_at en q1 rv
      rw [List.length_cons] at hn
      refine call_max_walkH (wk (by exact I.ok.hd hc) fun o fp St s₂ e W st hfp h1 h2 => ?_)
      refine ⟨_, _, _, _, _, _, _, s.heap, fun i j => decide ((n :: ns).getD j 0 < (n :: ns).getD i 0), rfl, W, st, hfp, by omega, h1, h2, fun i j vi vj s' Q E hk hi hj hq => ?_, fun v s' hP m => ?_⟩
      · obtain ⟨t, rfl⟩ := vals_int_at rv hi
        obtain ⟨t', rfl⟩ := vals_int_at rv hj
        exact (PyProof.Rows.gt_int hq : wpAny (model X.prog X.w) _ (compareOp .Gt _ _) Q E s')
      · obtain ⟨t, rfl⟩ := vals_int_at rv hP
        refine ⟨.int (maxI n ns), H, Inv.walked I e m, ⟨t, ?_⟩, q⟩
        have : us.length - 1 = ns.length := by omega
        rw [this, argBest_maxI]
  · obtain ⟨hn, rfl⟩ := ints_len en
    match ns, hl3, hl1, e2, ha with
    | [], _, _, e2, _ => cases e2
    | [_], _, h1, _, _ => exact absurd rfl h1
    | [i, j], _, _, e2, ha =>
      cases e2
      cases hv
      obtain ⟨a, b, rfl, h1, h2⟩ := two_of ha
      refine call_max2 hc pins s σ H _ us Q I r ⟨i, j, by rw [rep_int h1, rep_int h2], ?_⟩
      simp only [maxI] at q
      exact q
    | [i, j, k], _, _, e2, ha =>
      cases e2
      cases hv
      obtain ⟨a, b, c, rfl, h1, h2, h3⟩ := three_of ha
      rw [rep_int h1, rep_int h2, rep_int h3] at r
      obtain ⟨u1, u2, u3, rfl, ⟨t1, rfl⟩, ⟨t2, rfl⟩, ⟨t3, rfl⟩⟩ := vals3 r
      refine max_three_ints (I.ok.hd hc) fun h' tk hk => ⟨.int (maxI i [j, k]), H, I.kept hk, ?_, q⟩
      simp only [maxI]
      by_cases c1 : j > i
      · by_cases c2 : k > j
        · rw [if_pos c1, if_pos c2, if_pos c1, if_pos c2]; exact ⟨_, rfl⟩
        · rw [if_pos c1, if_neg c2, if_pos c1, if_neg c2]; exact ⟨_, rfl⟩
      · by_cases c2 : k > i
        · rw [if_neg c1, if_pos c2, if_neg c1, if_pos c2]; exact ⟨_, rfl⟩
        · rw [if_neg c1, if_neg c2, if_neg c1, if_neg c2]; exact ⟨_, rfl⟩
    | _ :: _ :: _ :: _ :: _, h, _, _, _ => simp at h

/-! ### new lists and tuples, the least of data -/
theorem r_biN {K : PySem.W.Frag} {φ : List Nat} {fs : List D → Option (List D)} {e : Expr} {es : List Expr} {f : BI} {ra r : Res} {R : List V → Hp → VK → Prop} (hh : ∀ {t : TA}, PA X es t → PE X e (tCB R t)) (ha : PA X es (RdA K φ ra fs))
    (hs : ∀ ds d, biD f ds = some d → ∀ (F0 F : Pa) (H0 H : Hp) (vs : List V) (Q : VK), Ext F0 H0 F H → Oks ra K H0 F H ds vs → (∀ w H' F', Ext F0 H0 F' H' → r.ok K H0 F' H' d w → Q w H') → R vs H Q) :
    PE X e (RdE K φ r fun ρ => (fs ρ).bind fun ds => biD f ds) := by
  refine peI (hh ha) fun σ H Q ⟨ρ, F, S, st, d, e, q⟩ => ?_
  dsimp only at e
  obtain ⟨ds, eds, e⟩ := bind_some e
  exact ⟨ρ, F, S, st, ds, eds, fun vs H1 F1 e1 r1 => hs ds d e F F1 H H1 vs Q e1 r1 q⟩
theorem oks_md1 {K : PySem.W.Frag} {m : Nat} {F : Pa} {H H0 : Hp} {d : D} {vs : List V} (h : Oks (.md m) K H0 F H [d] vs) : ∃ v, vs = [v] ∧ RepM K F H m d v := by
  obtain ⟨v, r, rfl, h1, h2⟩ := h
  have : r = [] := h2
  subst this
  exact ⟨v, rfl, h1⟩
def rList (K : PySem.W.Frag) : List V → Hp → VK → Prop := fun xs H Q => ∃ p ys, xs = [.ref p] ∧ (SqL K H p ys ∨ SqT K H p ys) ∧ ∀ l, H l = none → Q (.ref l) (upd H l (.lst ys))
def rTuple (K : PySem.W.Frag) : List V → Hp → VK → Prop := fun xs H Q => ∃ p ys, xs = [.ref p] ∧ ((SqL K H p ys ∧ ∀ l, H l = none → Q (.ref l) (upd H l (.tup ys))) ∨ (SqT K H p ys ∧ Q (.ref p) H))
theorem items_md {K : PySem.W.Frag} {F : Pa} {H : Hp} {x : D} {xs : List D} {v : V} (ex : itemsD x = some xs) (h : RepM K F H 1 x v) : ∃ p ys, v = .ref p ∧ (SqL K H p ys ∨ SqT K H p ys) ∧ AllR (Rep K F H) xs ys := by
  cases x <;> simp only [itemsD, reduceCtorEq, Option.some.injEq] at ex <;> subst ex
  · obtain ⟨a, vs, e, t, r⟩ := rep_scr (show Rep K F H (.scr _) v from h)
    exact ⟨a, vs, e, .inl t.sq, r⟩
  · obtain ⟨a, vs, e, t, r⟩ := (show ∃ a vs, v = .ref a ∧ SqT K H a vs ∧ AllR (Rep K F H) _ vs from h)
    exact ⟨a, vs, e, .inr t, r⟩
  · obtain ⟨a, vs, e, t, r⟩ := (show ∃ a vs, v = .ref a ∧ H a = some (.lst vs) ∧ AllR (Rep K F H) _ vs from h)
    exact ⟨a, vs, e, .inl (SqL.of t), r⟩
theorem items_bor {K : PySem.W.Frag} {H : Hp} {x : D} {xs : List D} {v : V} (ex : itemsD x = some xs) (h : Rep K Any H x v) : ∃ p ys, v = .ref p ∧ (SqL K H p ys ∨ SqT K H p ys) ∧ AllR (Rep K Any H) xs ys := by
  cases x <;> simp only [itemsD, reduceCtorEq, Option.some.injEq] at ex <;> subst ex
  · obtain ⟨a, vs, e, t, r⟩ := rep_scr h
    exact ⟨a, vs, e, .inl t.sq, r⟩
  · obtain ⟨a, vs, e, t, r⟩ := rep_tup h
    exact ⟨a, vs, e, .inr t.sq, r⟩
  · obtain ⟨a, vs, e, t, r⟩ := rep_lst h
    exact ⟨a, vs, e, .inl t.sq, r⟩
section
variable {K : PySem.W.Frag} {φ : List Nat} {fs : List D → Option (List D)} {e : Expr} {es : List Expr}
theorem r_list (hh : ∀ {t : TA}, PA X es t → PE X e (tCB (rList K) t)) (ha : PA X es (RdA K φ (.md 1) fs)) : PE X e (RdE K φ (.own 1) fun ρ => (fs ρ).bind fun ds => biD .list ds) := by
  refine r_biN hh ha fun ds d e F0 F H0 H vs Q e1 r1 q => ?_
  obtain ⟨x, rfl, e2⟩ := one1_some (show one1 (fun x => (itemsD x).map .lst) ds = some d from e)
  obtain ⟨xs, ex, rfl⟩ := map_some' e2
  obtain ⟨v, rfl, h⟩ := oks_md1 r1
  obtain ⟨p, ys, rfl, hp, r⟩ := items_md ex h
  exact ⟨p, ys, rfl, hp, fun l hl => q _ _ _ (e1.trans (Ext.laid e1.fo hl)) (fresh_own1 e1.fo e1.same hl r)⟩
theorem r_listB (hh : ∀ {t : TA}, PA X es t → PE X e (tCB (rList K) t)) (ha : PA X es (RdA K φ .bor fs)) : PE X e (RdE K φ .bor fun ρ => (fs ρ).bind fun ds => biD .list ds) := by
  refine r_biN hh ha fun ds d e F0 F H0 H vs Q e1 r1 q => ?_
  obtain ⟨x, rfl, e2⟩ := one1_some (show one1 (fun x => (itemsD x).map .lst) ds = some d from e)
  obtain ⟨xs, ex, rfl⟩ := map_some' e2
  obtain ⟨v, rfl, h⟩ := oks_bor1 r1
  obtain ⟨p, ys, rfl, hp, r⟩ := items_bor ex h
  refine ⟨p, ys, rfl, hp, fun l hl => ?_⟩
  have e3 := Ext.laid (o := .lst ys) e1.fo hl
  exact q _ _ _ (e1.trans e3) (mk_lst upd_same trivial (all_mono r e3.same fun _ h => h))
theorem r_tupleL (hh : ∀ {t : TA}, PA X es t → PE X e (tCB (rTuple K) t)) (ha : PA X es (RdA K φ (.md 1) fs)) : PE X e (RdE K φ (.own 0) fun ρ => (fs ρ).bind fun ds => biD .tupleL ds) := by
  refine r_biN hh ha fun ds d e F0 F H0 H vs Q e1 r1 q => ?_
  obtain ⟨x, rfl, e2⟩ := one1_some (show one1 tupleLD ds = some d from e)
  obtain ⟨v, rfl, h⟩ := oks_md1 r1
  cases x <;> simp only [tupleLD, reduceCtorEq, Option.some.injEq] at e2
  subst e2
  obtain ⟨a, vs, rfl, t, r⟩ := (show ∃ a vs, v = .ref a ∧ H a = some (.lst vs) ∧ AllR (Rep K F H) _ vs from h)
  refine ⟨a, vs, rfl, .inl ⟨SqL.of t, fun l hl => ?_⟩⟩
  have e3 := Ext.laidF (o := .tup vs) e1.fo hl
  exact q _ _ _ (e1.trans e3) (own0 (mk_tup upd_same (.inr rfl) (all_mono r e3.same e3.up)))
theorem r_tupleLB (hh : ∀ {t : TA}, PA X es t → PE X e (tCB (rTuple K) t)) (ha : PA X es (RdA K φ .bor fs)) : PE X e (RdE K φ .bor fun ρ => (fs ρ).bind fun ds => biD .tupleL ds) := by
  refine r_biN hh ha fun ds d e F0 F H0 H vs Q e1 r1 q => ?_
  obtain ⟨x, rfl, e2⟩ := one1_some (show one1 tupleLD ds = some d from e)
  obtain ⟨v, rfl, h⟩ := oks_bor1 r1
  cases x <;> simp only [tupleLD, reduceCtorEq, Option.some.injEq] at e2
  subst e2
  obtain ⟨a, vs, rfl, t, r⟩ := rep_lst h
  refine ⟨a, vs, rfl, .inl ⟨t.sq, fun l hl => ?_⟩⟩
  have e3 := Ext.laid (o := .tup vs) e1.fo hl
  exact q _ _ _ (e1.trans e3) (mk_tup upd_same trivial (all_mono r e3.same fun _ h => h))
theorem r_tuple (hh : ∀ {t : TA}, PA X es t → PE X e (tCB (rTuple K) t)) (ha : PA X es (RdA K φ (.md 0) fs)) : PE X e (RdE K φ (.own 0) fun ρ => (fs ρ).bind fun ds => biD .tuple ds) := by
  refine r_biN hh ha fun ds d e F0 F H0 H vs Q e1 r1 q => ?_
  obtain ⟨x, rfl, e2⟩ := one1_some (show one1 (fun x => (itemsD x).map .tup) ds = some d from e)
  obtain ⟨xs, ex, rfl⟩ := map_some' e2
  obtain ⟨v, rfl, h⟩ := oks_md1 r1
  have h : Rep K F H x v := h
  have new : ∀ {a : Addr} {vs : List V}, v = .ref a → SqL K H a vs → AllR (Rep K F H) xs vs → rTuple K [v] H Q := fun {a vs} e t r => by
    subst e
    refine ⟨a, vs, rfl, .inl ⟨t, fun l hl => ?_⟩⟩
    have e3 := Ext.laidF (o := .tup vs) e1.fo hl
    exact q _ _ _ (e1.trans e3) (own0 (mk_tup upd_same (.inr rfl) (all_mono r e3.same e3.up)))
  cases x <;> simp only [itemsD, reduceCtorEq, Option.some.injEq] at ex <;> subst ex
  · obtain ⟨a, vs, e, t, r⟩ := rep_scr h
    exact new e t.sq r
  · obtain ⟨a, vs, e, t, r⟩ := rep_tup h
    subst e
    exact ⟨a, vs, rfl, .inr ⟨t.sq, q _ _ _ e1 (own0 h)⟩⟩
  · obtain ⟨a, vs, e, t, r⟩ := rep_lst h
    exact new e t.sq r
theorem r_tupleB (hh : ∀ {t : TA}, PA X es t → PE X e (tCB (rTuple K) t)) (ha : PA X es (RdA K φ .bor fs)) : PE X e (RdE K φ .bor fun ρ => (fs ρ).bind fun ds => biD .tuple ds) := by
  refine r_biN hh ha fun ds d e F0 F H0 H vs Q e1 r1 q => ?_
  obtain ⟨x, rfl, e2⟩ := one1_some (show one1 (fun x => (itemsD x).map .tup) ds = some d from e)
  obtain ⟨xs, ex, rfl⟩ := map_some' e2
  obtain ⟨v, rfl, h⟩ := oks_bor1 r1
  have new : ∀ {a : Addr} {vs : List V}, v = .ref a → SqL K H a vs → AllR (Rep K Any H) xs vs → rTuple K [v] H Q := fun {a vs} e t r => by
    subst e
    refine ⟨a, vs, rfl, .inl ⟨t, fun l hl => ?_⟩⟩
    have e3 := Ext.laid (o := .tup vs) e1.fo hl
    exact q _ _ _ (e1.trans e3) (mk_tup upd_same trivial (all_mono r e3.same fun _ h => h))
  cases x <;> simp only [itemsD, reduceCtorEq, Option.some.injEq] at ex <;> subst ex
  · obtain ⟨a, vs, e, t, r⟩ := rep_scr h
    exact new e t.sq r
  · obtain ⟨a, vs, e, t, r⟩ := rep_tup h
    subst e
    exact ⟨a, vs, rfl, .inr ⟨t.sq, q _ _ _ e1 h⟩⟩
  · obtain ⟨a, vs, e, t, r⟩ := rep_lst h
    exact new e t.sq r
end
end

section
variable {X : Cx} {φ : List Nat} {fa fb : Sem1} {a b : Expr} {p p2 pos pos2 : Pos}
theorem rg_rep {K : PySem.W.Frag} {F : Pa} {H : Hp} : ∀ (lo hi : Int), AllR (Rep K F H) ((List.range (hi - lo).toNat).map fun (k : Nat) => D.int (lo + k)) (rgV lo hi) := by
  intro lo hi
  unfold rgV
  have go : ∀ ks : List Nat, AllR (Rep K F H) (ks.map fun (k : Nat) => D.int (lo + k)) (ks.map fun i => V.int (lo + (i : Nat))) := by
    intro ks
    induction ks with
    | nil => rfl
    | cons k ks ih => exact ⟨_, _, rfl, sv_rep rfl, ih⟩
  exact go _
theorem rgO_len {lo hi : Int} {xs : List D} (h1 : -(2 ^ 62) ≤ lo) (h2 : lo < 2 ^ 62) (h3 : -(2 ^ 62) ≤ hi) (h4 : hi < 2 ^ 62) (e : xs = (List.range (hi - lo).toNat).map fun (k : Nat) => D.int (lo + k)) (hl : xs.length ≤ SL) : RgOk lo hi := by
  subst e
  rw [List.length_map, List.length_range] at hl
  exact ⟨h1, h2, h3, h4, hl⟩
theorem rg1_of {x : D} {xs : List D} (h : rgD [x] = some xs) : ∃ n, x = .int n ∧ -(2 ^ 62) ≤ n ∧ n < 2 ^ 62 ∧ xs = (List.range (n - 0).toNat).map fun (k : Nat) => D.int (0 + k) := by
  cases x <;> simp only [rgD, reduceCtorEq] at h
  rename_i n
  split at h
  · rename_i q
    cases h
    refine ⟨n, rfl, q.1, q.2, ?_⟩
    rw [Int.sub_zero]
    apply List.map_congr_left
    intro k _
    rw [Int.zero_add]
  · cases h
theorem rg2_of {x y : D} {xs : List D} (h : rgD [x, y] = some xs) : ∃ m n, x = .int m ∧ y = .int n ∧ (-(2 ^ 62) ≤ m ∧ m < 2 ^ 62 ∧ -(2 ^ 62) ≤ n ∧ n < 2 ^ 62) ∧ xs = (List.range (n - m).toNat).map fun (k : Nat) => D.int (m + k) := by
  cases x <;> cases y <;> simp only [rgD, reduceCtorEq] at h
  rename_i m n
  split at h
  · rename_i q
    cases h
    exact ⟨m, n, rfl, rfl, q, rfl⟩
  · cases h
theorem tolD_of {t : Bool} {xs : List D} {d : D} (h : tolD t xs = some d) : xs.length ≤ SL ∧ d = if t then .tup xs else .lst xs := by
  unfold tolD at h
  split at h
  · rename_i q
    cases h
    exact ⟨q, rfl⟩
  · cases h
theorem fresh_tol {K : PySem.W.Frag} {F1 : Pa} {H H1 : Hp} {ds : List D} {vs : List V} {p : Addr} (e : Ext F1 H1 F1 H1) (hp : H1 p = none) (h : AllR (Rep K F1 H1) ds vs) : ∃ F2, Ext F1 H1 F2 (upd H1 p (.tup vs)) ∧ (Res.own 0).ok K H F2 (upd H1 p (.tup vs)) (.tup ds) (.ref p) := by
  have e3 := Ext.laidF (o := .tup vs) e.fo hp
  exact ⟨_, e3, own0 (mk_tup upd_same (.inr rfl) (all_mono h e3.same e3.up))⟩
theorem insU_mem (k : Int) : ∀ (xs : List Int) (j : Int), j ∈ insU k xs ↔ j = k ∨ j ∈ xs
  | [], j => by simp [insU]
  | x :: xs, j => by
    have ih := insU_mem k xs j
    rw [insU]
    split
    · simp
    · split
      · rename_i h1 h2
        subst h2
        simp
      · rw [List.mem_cons, ih, List.mem_cons]
        constructor
        · rintro (h | h | h)
          · exact .inr (.inl h)
          · exact .inl h
          · exact .inr (.inr h)
        · rintro (h | h | h)
          · exact .inr (.inl h)
          · exact .inl h
          · exact .inr (.inr h)
theorem insU_inc (k : Int) : ∀ {xs : List Int}, xs.Pairwise (· < ·) → (insU k xs).Pairwise (· < ·)
  | [], _ => by simp [insU]
  | x :: xs, h => by
    rw [List.pairwise_cons] at h
    rw [insU]
    split
    · rename_i h1
      rw [List.pairwise_cons]
      refine ⟨fun j hj => ?_, List.pairwise_cons.mpr h⟩
      rcases List.mem_cons.mp hj with e | hj
      · rw [e]; exact h1
      · have := h.1 j hj; omega
    · split
      · exact List.pairwise_cons.mpr h
      · rename_i h1 h2
        rw [List.pairwise_cons]
        refine ⟨fun j hj => ?_, insU_inc k h.2⟩
        rcases (insU_mem k xs j).mp hj with e | hj
        · rw [e]; omega
        · exact h.1 j hj
theorem ddU_inc : ∀ ns : List Int, (ddU ns).Pairwise (· < ·)
  | [] => .nil
  | n :: ns => insU_inc n (ddU_inc ns)
theorem ddU_mem : ∀ (ns : List Int) (j : Int), j ∈ ddU ns ↔ j ∈ ns
  | [], j => Iff.rfl
  | n :: ns, j => by
    show j ∈ insU n (ddU ns) ↔ _
    rw [insU_mem, ddU_mem ns j, List.mem_cons]
theorem inc_uniq : ∀ {xs ys : List Int}, xs.Pairwise (· < ·) → ys.Pairwise (· < ·) → (∀ k : Int, k ∈ xs ↔ k ∈ ys) → xs = ys
  | [], [], _, _, _ => rfl
  | [], y :: ys, _, _, h => by have := (h y).mpr (.head _); cases this
  | x :: xs, [], _, _, h => by have := (h x).mp (.head _); cases this
  | x :: xs, y :: ys, h1, h2, h => by
    rw [List.pairwise_cons] at h1 h2
    have e : x = y := by
      rcases List.mem_cons.mp ((h x).mp (.head _)) with e | hx
      · exact e
      · rcases List.mem_cons.mp ((h y).mpr (.head _)) with e | hy
        · exact e.symm
        · have := h2.1 x hx; have := h1.1 y hy; omega
    subst e
    congr 1
    refine inc_uniq h1.2 h2.2 fun k => ?_
    constructor
    · intro hk
      rcases List.mem_cons.mp ((h k).mp (.tail _ hk)) with e | z
      · have := h1.1 k hk; omega
      · exact z
    · intro hk
      rcases List.mem_cons.mp ((h k).mpr (.tail _ hk)) with e | z
      · have := h2.1 k hk; omega
      · exact z
theorem pureInts_of : ∀ {ds : List D} {ns : List Int}, pureInts ds = some ns → ds = ns.map D.int
  | [], ns, h => by cases h; rfl
  | d :: ds, ns, h => by
    cases d <;> simp only [pureInts, reduceCtorEq] at h
    obtain ⟨ms, hm, rfl⟩ := map_some' h
    rw [pureInts_of hm]
    rfl
theorem ints_rep {K : PySem.W.Frag} {P : Pa} {H : Hp} : ∀ {ns : List Int} {vs : List V}, AllR (Rep K P H) (ns.map D.int) vs → vs = ns.map V.int
  | [], vs, h => by cases vs <;> simp_all [AllR]
  | n :: ns, vs, h => by
    obtain ⟨v, r, e, h1, h2⟩ := h
    subst e
    have := rep_int h1
    subst this
    rw [ints_rep h2]
    rfl
theorem rep_ints {K : PySem.W.Frag} {P : Pa} {H : Hp} : ∀ (ns : List Int), AllR (Rep K P H) (ns.map D.int) (ns.map V.int)
  | [] => rfl
  | n :: ns => ⟨.int n, ns.map V.int, rfl, by unfold Rep; rfl, rep_ints ns⟩
theorem r_sst (hc : X.calm = true) (hg : Gl X "sorted") (hm : X.mg "sorted" = none) (hg2 : Gl X "set") (hm2 : X.mg "set" = none) (hp : plainE a = true) (ha : PE X a (RdE X.K φ .bor fa)) :
    PE X (.Call (.Name "sorted" p) [.Call (.Name "set" p2) [a] [] pos2] [] pos) (RdE X.K φ (.own 1) fun ρ => (fa ρ).bind sstD) := by
  refine r_one (R := fun x H Q => ∃ (l : Addr) (ns : List Int), x = .ref l ∧ SqL X.K H l (ns.map V.int) ∧ ns.length < 4000 ∧
    ∀ (ms : List Int) (a p : Addr) (o : HO), ms.Pairwise (· < ·) → (∀ k : Int, k ∈ ms ↔ k ∈ ns) → H a = none → upd H a o p = none → Q (.ref p) (upd (upd H a o) p (.lst (ms.map V.int)))) ha (fun h => EvCol.pe_sortSet hc hg hm hg2 hm2 h (plain_star hp _ _)) fun x d e F0 F H0 H v Q e1 r1 q => ?_
  cases x <;> simp only [sstD, reduceCtorEq] at e
  obtain ⟨ns, hns, e⟩ := bind_some e
  split at e
  · rename_i h64
    cases e
    have := pureInts_of hns
    subst this
    obtain ⟨a, vs, rfl, h1, q1⟩ := rep_lst (bor_of r1)
    have := ints_rep q1
    subst this
    refine ⟨a, ns, rfl, h1.sq, h64, fun ms a p o hinc hmem ha hp => ?_⟩
    have e2 := e1.trans (Ext.laid (o := o) e1.fo ha)
    have em : ms = ddU ns := inc_uniq hinc (ddU_inc ns) fun k => by rw [hmem, ddU_mem]
    subst em
    exact q _ _ _ (e2.trans (Ext.laid e2.fo hp)) (fresh_own1 e2.fo e2.same hp (rep_ints _))
  · cases e
theorem lay_rep {K : PySem.W.Frag} {H : Hp} : ∀ (ts : List Addr) {F : Pa} {ds es : List D} {vs ws : List V}, (∀ a, F a → (H a).isSome = true) → AllR (Rep K F H) ds vs → AllR (Rep K F H) es ws → ts.length = vs.length → vs.length = ws.length → ts.Nodup → (∀ t ∈ ts, H t = none) →
    ∃ F', Ext F H F' (EvCol.layR H (EvCol.zipL ts vs ws)) ∧ AllR (Rep K F' (EvCol.layR H (EvCol.zipL ts vs ws))) (zipD ds es) (ts.map V.ref)
  | [], F, ds, es, vs, ws, fo, r1, r2, h1, h2, _, _ => by
    have e1 : vs = [] := List.eq_nil_of_length_eq_zero h1.symm
    subst e1
    cases ds with
    | cons d ds => obtain ⟨v, r, e, _⟩ := r1; cases e
    | nil => exact ⟨F, Ext.refl fo, rfl⟩
  | t :: ts, F, ds, es, vs, ws, fo, r1, r2, h1, h2, hnd, hfr => by
    cases vs with
    | nil => simp at h1
    | cons v vs =>
      cases ws with
      | nil => simp at h2
      | cons w ws =>
        cases ds with
        | nil => exact absurd r1 (by intro z; cases z)
        | cons d ds =>
          cases es with
          | nil => exact absurd r2 (by intro z; cases z)
          | cons e es =>
            obtain ⟨v', r1', e1, q1, q1'⟩ := r1
            cases e1
            obtain ⟨w', r2', e2, q2, q2'⟩ := r2
            cases e2
            rw [List.nodup_cons] at hnd
            obtain ⟨F', x1, rr⟩ := lay_rep ts fo q1' q2' (by simpa using h1) (by simpa using h2) hnd.2 fun a ha => hfr a (.tail _ ha)
            have hn : EvCol.layR H (EvCol.zipL ts vs ws) t = none := EvCol.layR_none (hfr t (.head _)) (by
              rw [EvCol.zipL_fst ts vs ws (by simpa using h1) (by simpa using h2)]
              exact hnd.1)
            have x2 := Ext.laidF (o := .tup [v, w]) x1.fo hn
            refine ⟨_, x1.trans x2, ?_⟩
            refine ⟨.ref t, ts.map V.ref, rfl, mk_tup upd_same (.inr rfl) ⟨v, [w], rfl, ?_, w, [], rfl, ?_, rfl⟩, all_mono rr x2.same x2.up⟩
            · exact (q1.mono x1.same x1.up).mono x2.same x2.up
            · exact (q2.mono x1.same x1.up).mono x2.same x2.up
theorem r_lzp (hc : X.calm = true) (hg : Gl X "list") (hm : X.mg "list" = none) (hg2 : Gl X "zip") (hm2 : X.mg "zip" = none) (hp : plainE a = true) (hp2 : plainE b = true) (ha : PE X a (RdE X.K φ (.own 0) fa)) (hb : PE X b (RdE X.K φ (.own 0) fb)) :
    PE X (.Call (.Name "list" p) [.Call (.Name "zip" p2) [a, b] [] pos2] [] pos) (RdE X.K φ (.own 1) fun ρ => (fa ρ).bind fun x => (fb ρ).bind fun y => lzpD x y) := by
  refine peI (EvCol.pe_listZip hc hg hm hg2 hm2 (pa_cons ha (pa_cons hb pa_nil (plain_star hp2 _ _)) (plain_star hp _ _)) (plain_star hp _ _) (by rw [plain_star hp2]; rfl) (by rfl)) fun σ H Q ⟨ρ, F, S, st, d, e, q⟩ => ?_
  dsimp only at e
  obtain ⟨x, ex, e⟩ := bind_some e
  obtain ⟨y, ey, e⟩ := bind_some e
  refine ⟨ρ, F, S, st, x, ex, fun v H1 F1 e1 r1 => ⟨ρ, F1, S, st.ext e1, y, ey, fun u H2 F2 e2 r2 => ?_⟩⟩
  have r1' := of0 (Res.mono r1 e2)
  have r2' := of0 r2
  cases x <;> cases y <;> simp only [lzpD, reduceCtorEq] at e
  split at e
  · rename_i hlen
    cases e
    obtain ⟨l1, vs, rfl, t1, q1⟩ := rep_tup r1'
    obtain ⟨l2, ws, rfl, t2, q2⟩ := rep_tup r2'
    have hv := q1.len
    have hw := q2.len
    refine ⟨l1, l2, vs, ws, rfl, t1.sq, t2.sq, by omega, fun ts p h1 hnd hfr => ?_⟩
    rw [List.nodup_cons] at hnd
    obtain ⟨F', x1, rr⟩ := lay_rep ts e2.fo q1 q2 h1 (by omega) hnd.2 fun t ht => hfr t (.tail _ ht)
    have hn : EvCol.layR H2 (EvCol.zipL ts vs ws) p = none := EvCol.layR_none (hfr p (.head _)) (by
      rw [EvCol.zipL_fst ts vs ws h1 (by omega)]
      exact hnd.1)
    exact q _ _ _ (((e1.trans e2).trans x1).trans (Ext.laid x1.fo hn)) (fresh_own1 x1.fo ((e1.trans e2).trans x1).same hn rr)
  · cases e
theorem r_rvT (hc : X.calm = true) (hg : Gl X "tuple") (hm : X.mg "tuple" = none) (hg2 : Gl X "reversed") (hm2 : X.mg "reversed" = none) (hp : plainE a = true) (ha : PE X a (RdE X.K φ (.own 0) fa)) :
    PE X (.Call (.Name "tuple" p) [.Call (.Name "reversed" p2) [a] [] pos2] [] pos) (RdE X.K φ (.own 0) fun ρ => (fa ρ).bind (rvqD true)) := by
  refine r_one (R := fun x H Q => ∃ (a : Addr) (xs : List V), x = .ref a ∧ SqT X.K H a xs ∧ ∀ q, H q = none → Q (.ref q) (upd H q (.tup xs.reverse))) ha (fun h => EvCol.pe_tupRevT hc hg hm hg2 hm2 h (plain_star hp _ _) (by rfl)) fun x d e F0 F H0 H v Q e1 r1 q => ?_
  cases x <;> simp only [rvqD, reduceCtorEq, Option.some.injEq] at e
  subst e
  obtain ⟨a, vs, rfl, h1, q1⟩ := rep_tup (of0 r1)
  refine ⟨a, vs, rfl, h1.sq, fun p hp => ?_⟩
  have e3 := Ext.laidF (o := .tup vs.reverse) e1.fo hp
  exact q _ _ _ (e1.trans e3) (own0 (mk_tup upd_same (.inr rfl) (all_mono q1.rev e3.same e3.up)))
theorem r_rvL (hc : X.calm = true) (hg : Gl X "list") (hm : X.mg "list" = none) (hg2 : Gl X "reversed") (hm2 : X.mg "reversed" = none) (hp : plainE a = true) (ha : PE X a (RdE X.K φ (.md 1) fa)) :
    PE X (.Call (.Name "list" p) [.Call (.Name "reversed" p2) [a] [] pos2] [] pos) (RdE X.K φ (.own 1) fun ρ => (fa ρ).bind (rvqD false)) := by
  refine r_one (R := fun x H Q => ∃ (a : Addr) (xs : List V), x = .ref a ∧ SqL X.K H a xs ∧ ∀ q, H q = none → Q (.ref q) (upd H q (.lst xs.reverse))) ha (fun h => EvCol.pe_listRev hc hg hm hg2 hm2 h (plain_star hp _ _) (by rfl)) fun x d e F0 F H0 H v Q e1 r1 q => ?_
  cases x <;> simp only [rvqD, reduceCtorEq, Option.some.injEq] at e
  subst e
  obtain ⟨a, vs, rfl, h1, q1⟩ := (show ∃ a vs, v = .ref a ∧ H a = some (.lst vs) ∧ AllR (Rep X.K F H) _ vs from r1)
  exact ⟨a, vs, rfl, SqL.of h1, fun p hp => q _ _ _ (e1.trans (Ext.laid e1.fo hp)) (fresh_own1 e1.fo e1.same hp q1.rev)⟩
theorem r_rgs1 {t : Bool} (hc : X.calm = true) (hg : Gl X (if t then "tuple" else "list")) (hm : X.mg (if t then "tuple" else "list") = none) (hg2 : Gl X "range") (hm2 : X.mg "range" = none) (hp : plainE a = true) (ha : PE X a (RdE X.K φ .bor fa)) :
    PE X (.Call (.Name (if t then "tuple" else "list") p) [.Call (.Name "range" p2) [a] [] pos2] [] pos) (RdE X.K φ (.own (if t then 0 else 1)) fun ρ => (fa ρ).bind fun x => (rgD [x]).bind (tolD t)) := by
  have R := prg_1 (p := p2) (pos := pos2) hg2 hm2 ha (plain_star hp _ _)
  have core : ∀ {σ : L2.St} {H : Hp} {Q : VK}, RdE X.K φ (.own (if t then 0 else 1)) (fun ρ => (fa ρ).bind fun x => (rgD [x]).bind (tolD t)) σ H Q → (if t then tTupRg (tRg1 (RdE X.K φ .bor fa)) else tLstRg (tRg1 (RdE X.K φ .bor fa))) σ H Q := by
    intro σ H Q ⟨ρ, F, S, st, d, e, q⟩
    dsimp only at e
    obtain ⟨x, ex, e⟩ := bind_some e
    obtain ⟨xs, exs, e9⟩ := bind_some e
    obtain ⟨n, rfl, h1, h2, hxs⟩ := rg1_of exs
    obtain ⟨hl, rfl⟩ := tolD_of e9
    have ok := rgO_len (lo := 0) (by decide) (by decide) h1 h2 hxs hl
    cases t with
    | true =>
      refine ⟨ρ, F, S, st, _, ex, fun v H1 F1 e1 r1 => ⟨n, rep_int (bor_of r1), ok, fun l hl => ?_⟩⟩
      have e3 := Ext.laidF (o := .tup (rgV 0 n)) e1.fo hl
      refine q _ _ _ (e1.trans e3) (own0 (mk_tup upd_same (.inr rfl) ?_))
      rw [hxs]
      exact rg_rep 0 n
    | false =>
      refine ⟨ρ, F, S, st, _, ex, fun v H1 F1 e1 r1 => ⟨n, rep_int (bor_of r1), ok, fun l hl => ?_⟩⟩
      refine q _ _ _ (e1.trans (Ext.laid e1.fo hl)) (fresh_own1 e1.fo e1.same hl ?_)
      rw [hxs]
      exact rg_rep 0 n
  cases t with
  | true => exact peI (pe_tupRg hc hg hm R (by rfl)) fun σ H Q h => core h
  | false => exact peI (pe_listRg hc hg hm R (by rfl)) fun σ H Q h => core h
theorem r_rgs2 {t : Bool} (hc : X.calm = true) (hg : Gl X (if t then "tuple" else "list")) (hm : X.mg (if t then "tuple" else "list") = none) (hg2 : Gl X "range") (hm2 : X.mg "range" = none) (hp : plainE a = true) (hp2 : plainE b = true) (ha : PE X a (RdE X.K φ .bor fa)) (hb : PE X b (RdE X.K φ .bor fb)) :
    PE X (.Call (.Name (if t then "tuple" else "list") p) [.Call (.Name "range" p2) [a, b] [] pos2] [] pos) (RdE X.K φ (.own (if t then 0 else 1)) fun ρ => (fa ρ).bind fun x => (fb ρ).bind fun y => (rgD [x, y]).bind (tolD t)) := by
  have R := prg_2 (p := p2) (pos := pos2) hg2 hm2 ha hb (plain_star hp _ _) (plain_star hp2 _ _) (by rw [plain_star hp2]; rfl)
  have core : ∀ {σ : L2.St} {H : Hp} {Q : VK}, RdE X.K φ (.own (if t then 0 else 1)) (fun ρ => (fa ρ).bind fun x => (fb ρ).bind fun y => (rgD [x, y]).bind (tolD t)) σ H Q → (if t then tTupRg (tRg2 (RdE X.K φ .bor fa) (RdE X.K φ .bor fb)) else tLstRg (tRg2 (RdE X.K φ .bor fa) (RdE X.K φ .bor fb))) σ H Q := by
    intro σ H Q ⟨ρ, F, S, st, d, e, q⟩
    dsimp only at e
    obtain ⟨x, ex, e⟩ := bind_some e
    obtain ⟨y, ey, e⟩ := bind_some e
    obtain ⟨xs, exs, e9⟩ := bind_some e
    obtain ⟨m, n, rfl, rfl, h1, hxs⟩ := rg2_of exs
    obtain ⟨hl, rfl⟩ := tolD_of e9
    have ok := rgO_len (lo := m) h1.1 h1.2.1 h1.2.2.1 h1.2.2.2 hxs hl
    cases t with
    | true =>
      refine ⟨ρ, F, S, st, _, ex, fun v H1 F1 e1 r1 => ⟨ρ, F1, S, st.ext e1, _, ey, fun w H2 F2 e2 r2 => ⟨m, n, rep_int (bor_of r1), rep_int (bor_of r2), ok, fun l hl => ?_⟩⟩⟩
      have e3 := Ext.laidF (o := .tup (rgV m n)) e2.fo hl
      refine q _ _ _ ((e1.trans e2).trans e3) (own0 (mk_tup upd_same (.inr rfl) ?_))
      rw [hxs]
      exact rg_rep m n
    | false =>
      refine ⟨ρ, F, S, st, _, ex, fun v H1 F1 e1 r1 => ⟨ρ, F1, S, st.ext e1, _, ey, fun w H2 F2 e2 r2 => ⟨m, n, rep_int (bor_of r1), rep_int (bor_of r2), ok, fun l hl => ?_⟩⟩⟩
      refine q _ _ _ ((e1.trans e2).trans (Ext.laid e2.fo hl)) (fresh_own1 e2.fo (e1.trans e2).same hl ?_)
      rw [hxs]
      exact rg_rep m n
  cases t with
  | true => exact peI (pe_tupRg hc hg hm R (by rfl)) fun σ H Q h => core h
  | false => exact peI (pe_listRg hc hg hm R (by rfl)) fun σ H Q h => core h
end
end Ev

/-! The least, the greatest and the order of data. -/
namespace Ev
open PySem PySem.Spec PyProof.Rows L2

theorem toPs_len : ∀ xs : List D, (toPs xs).length = xs.length
  | [] => rfl
  | x :: xs => by simp [toPs, toPs_len xs]
theorem toPs_getD : ∀ (xs : List D) (i : Nat), (toPs xs).getD i .none = toP (xs.getD i .bad)
  | [], i => by simp [toPs, toP]
  | x :: xs, 0 => by simp [toPs]
  | x :: xs, i + 1 => by simp only [toPs, List.getD_cons_succ]; exact toPs_getD xs i
theorem mem_toPs {xs : List D} {d : PyData} : d ∈ toPs xs ↔ ∃ x ∈ xs, toP x = d := by
  rw [toPs_map, List.mem_map]
theorem pls_mem {n : Nat} : ∀ {xs : List D}, D.pls n xs = true → ∀ x ∈ xs, D.pl n x = true
  | [], _, x, h => by cases h
  | y :: ys, h, x, hm => by
    rw [D.pls, Bool.and_eq_true] at h
    rcases List.mem_cons.mp hm with rfl | hm
    · exact h.1
    · exact pls_mem h.2 x hm
theorem okC_alike {xs : List D} (h : okC xs = true) : PySem.W.AlikeAll (toPs xs) ∧ D.pls 40 xs = true := by
  unfold okC at h
  rw [Bool.and_eq_true, List.all_eq_true] at h
  obtain ⟨h1, h2⟩ := h
  refine ⟨⟨fun a ha b hb => ?_, fun a ha e => ?_⟩, h1⟩
  · obtain ⟨x, hx, rfl⟩ := mem_toPs.mp ha
    obtain ⟨y, hy, rfl⟩ := mem_toPs.mp hb
    have := h2 x hx
    rw [Bool.and_eq_true, List.all_eq_true] at this
    exact this.2 y hy
  · obtain ⟨x, hx, rfl⟩ := mem_toPs.mp ha
    have := h2 x hx
    rw [Bool.and_eq_true] at this
    have hp := pls_mem h1 x hx
    cases x <;> simp only [toP, reduceCtorEq] at e <;> simp [D.isNon, D.pl] at this hp
section
variable {X : Cx} {pins : List (Addr × Obj)} {σ : L2.St} {H : Hp} {s : Shared}
theorem seq_walk2 (I : Inv X pins σ H s) {p : Addr} {ys : List V} (h : SqL X.K H p ys ∨ SqT X.K H p ys) : ∃ us : List Value, Vals ys us ∧ us.length ≤ sizeLine ∧ WalksU X.prog X.w s (.ref p) us := by
  rcases h with h | h
  · obtain ⟨its, rv, pl, hz⟩ := I.list h
    exact ⟨its, rv, by rw [← rv.length]; exact hz, walksU_list pl.isList⟩
  · obtain ⟨its, rv, pl, hz⟩ := I.tuple h
    exact ⟨its, rv, by rw [← rv.length]; exact hz, walksU_tuple pl⟩
def rMinG (K : PySem.W.Frag) : List V → Hp → VK → Prop := fun vs H Q => ∃ p ys y r, vs = [V.ref p] ∧ (SqL K H p ys ∨ SqT K H p ys) ∧ AllR (Rep K Any H) (y :: r) ys ∧ okC (y :: r) = true ∧ ∀ (i : Nat) w, ys[i]? = some w → (y :: r)[i]? = some (minF y r) → Q w H
def rMaxG (K : PySem.W.Frag) : List V → Hp → VK → Prop := fun vs H Q => ∃ p ys y r, vs = [V.ref p] ∧ (SqL K H p ys ∨ SqT K H p ys) ∧ AllR (Rep K Any H) (y :: r) ys ∧ okC (y :: r) = true ∧ ∀ (i : Nat) w, ys[i]? = some w → (y :: r)[i]? = some (maxF y r) → Q w H
theorem at_of_getD {xs : List D} {i : Nat} (h : i < xs.length) : xs[i]? = some (xs.getD i .bad) := by
  rw [List.getD_eq_getElem?_getD, List.getElem?_eq_getElem h]
  rfl
theorem bi_minG (hc : X.calm = true) (hu : X.A.units + 64 < cLine) : CallR X (.builtin "min") (rMinG X.K) := by
  intro pins s σ H vs us Q I r h
  obtain ⟨p, ys, y, xs, rfl, hp, ha, ok, q⟩ := h
  obtain ⟨us, rv, hz, wk⟩ := seq_walk2 I hp
  rw [Vals.ref1 r]
  obtain ⟨al, pl⟩ := okC_alike ok
  obtain ⟨as, hr⟩ := Dp.readsAll I (toPs (y :: xs)) ys us (reps_dp _ _ (pls_sm _ _ pl) (reps_of ha)) rv
  have hn : us.length = xs.length + 1 := by rw [← rv.length, AllR.len ha]; rfl
  refine call_min_walkH (wk (by exact I.ok.hd hc) fun o fp St s₂ e W st hfp h1 h2 => ?_)
  have hd := (pls_lay _ _ pl).2
  have C := PySem.W.cmpIn_lt (prog := X.prog) (w := X.w) (s := s) (A := X.A.in1) (vs := us.toArray) hr al (by show X.A.units + 1 + _ < _; omega)
  rw [arr_at] at C
  refine ⟨_, _, _, _, _, _, _, s.heap, _, rfl, W, st, hfp, by omega, h1, h2, C, fun v s' hP m => ?_⟩
  have hi := (List.getElem?_eq_some_iff.mp hP).1
  have e1 : us.length - 1 = xs.length := by omega
  have e2 := (PySem.W.argBest_fold ltP .bad y xs xs.length (Nat.le_refl _)).2
  rw [List.take_length] at e2
  have e3 : (fun i j => PySem.W.dataLt ((toPs (y :: xs)).getD i .none) ((toPs (y :: xs)).getD j .none)) = fun i j => ltP ((y :: xs).getD i .bad) ((y :: xs).getD j .bad) := by
    funext i j
    rw [toPs_getD, toPs_getD]
    rfl
  rw [e3, e1] at hP hi
  obtain ⟨w, hw, rw'⟩ : ∃ w, ys[argBest (fun i j => ltP ((y :: xs).getD i .bad) ((y :: xs).getD j .bad)) xs.length]? = some w ∧ L2.RelV w v := by
    have hl : argBest (fun i j => ltP ((y :: xs).getD i .bad) ((y :: xs).getD j .bad)) xs.length < ys.length := by rw [rv.length]; exact hi
    refine ⟨_, List.getElem?_eq_getElem hl, ?_⟩
    obtain ⟨u, hu', r'⟩ := rv.get (List.getElem?_eq_getElem hl)
    rw [hP] at hu'
    cases hu'
    exact r'
  refine ⟨w, H, Inv.walked I e m, rw', q _ w hw ?_⟩
  rw [at_of_getD (by rw [List.length_cons, ← hn]; exact hi), e2]
  rfl
theorem bi_maxG (hc : X.calm = true) (hu : X.A.units + 64 < cLine) : CallR X (.builtin "max") (rMaxG X.K) := by
  intro pins s σ H vs us Q I r h
  obtain ⟨p, ys, y, xs, rfl, hp, ha, ok, q⟩ := h
  obtain ⟨us, rv, hz, wk⟩ := seq_walk2 I hp
  rw [Vals.ref1 r]
  obtain ⟨al, pl⟩ := okC_alike ok
  obtain ⟨as, hr⟩ := Dp.readsAll I (toPs (y :: xs)) ys us (reps_dp _ _ (pls_sm _ _ pl) (reps_of ha)) rv
  have hn : us.length = xs.length + 1 := by rw [← rv.length, AllR.len ha]; rfl
  refine call_max_walkH (wk (by exact I.ok.hd hc) fun o fp St s₂ e W st hfp h1 h2 => ?_)
  have hd := (pls_lay _ _ pl).2
  have C := PySem.W.cmpIn_gt (prog := X.prog) (w := X.w) (s := s) (A := X.A.in1) (vs := us.toArray) hr al (by show X.A.units + 1 + _ < _; omega)
  rw [arr_at] at C
  refine ⟨_, _, _, _, _, _, _, s.heap, _, rfl, W, st, hfp, by omega, h1, h2, C, fun v s' hP m => ?_⟩
  have hi := (List.getElem?_eq_some_iff.mp hP).1
  have e1 : us.length - 1 = xs.length := by omega
  have e2 := (PySem.W.argBest_fold (fun a b => ltP b a) .bad y xs xs.length (Nat.le_refl _)).2
  rw [List.take_length] at e2
  have e3 : (fun i j => PySem.W.dataLt ((toPs (y :: xs)).getD j .none) ((toPs (y :: xs)).getD i .none)) = fun i j => ltP ((y :: xs).getD j .bad) ((y :: xs).getD i .bad) := by
    funext i j
    rw [toPs_getD, toPs_getD]
    rfl
  rw [e3, e1] at hP hi
  obtain ⟨w, hw, rw'⟩ : ∃ w, ys[argBest (fun i j => ltP ((y :: xs).getD j .bad) ((y :: xs).getD i .bad)) xs.length]? = some w ∧ L2.RelV w v := by
    have hl : argBest (fun i j => ltP ((y :: xs).getD j .bad) ((y :: xs).getD i .bad)) xs.length < ys.length := by rw [rv.length]; exact hi
    refine ⟨_, List.getElem?_eq_getElem hl, ?_⟩
    obtain ⟨u, hu', r'⟩ := rv.get (List.getElem?_eq_getElem hl)
    rw [hP] at hu'
    cases hu'
    exact r'
  refine ⟨w, H, Inv.walked I e m, rw', q _ w hw ?_⟩
  rw [at_of_getD (by rw [List.length_cons, ← hn]; exact hi), e2]
  rfl
theorem minGD_cases {x d : D} (h : minGD x = some d) : ∃ y r, itemsD x = some (y :: r) ∧ okC (y :: r) = true ∧ d = minF y r := by
  obtain ⟨xs, h1, h⟩ := bind_some h
  split at h
  · rename_i hk
    cases xs with
    | nil => cases h
    | cons y r => exact ⟨y, r, h1, hk, (Option.some.inj h).symm⟩
  · cases h
theorem maxGD_cases {x d : D} (h : maxGD x = some d) : ∃ y r, itemsD x = some (y :: r) ∧ okC (y :: r) = true ∧ d = maxF y r := by
  obtain ⟨xs, h1, h⟩ := bind_some h
  split at h
  · rename_i hk
    cases xs with
    | nil => cases h
    | cons y r => exact ⟨y, r, h1, hk, (Option.some.inj h).symm⟩
  · cases h
section
variable {K : PySem.W.Frag} {φ : List Nat} {fs : List D → Option (List D)} {e : Expr} {es : List Expr}
theorem r_minG (hh : ∀ {t : TA}, PA X es t → PE X e (tCB (rMinG K) t)) (ha : PA X es (RdA K φ (.md 1) fs)) : PE X e (RdE K φ (.md 0) fun ρ => (fs ρ).bind fun ds => biD .minG ds) := by
  refine r_biN hh ha fun ds d e F0 F H0 H vs Q e1 r1 q => ?_
  obtain ⟨x, rfl, e2⟩ := one1_some (show one1 minGD ds = some d from e)
  obtain ⟨y, r, ex, ok, rfl⟩ := minGD_cases e2
  obtain ⟨v, rfl, h⟩ := oks_md1 r1
  obtain ⟨p, ys, rfl, hp, hr⟩ := items_md ex h
  refine ⟨p, ys, y, r, rfl, hp, hr.imp fun d v _ h => h.any, ok, fun i w hw hi => q _ _ _ e1 ?_⟩
  obtain ⟨w', hw', rw'⟩ := hr.get hi
  rw [hw] at hw'
  cases hw'
  exact rw'
theorem r_minGB (hh : ∀ {t : TA}, PA X es t → PE X e (tCB (rMinG K) t)) (ha : PA X es (RdA K φ .bor fs)) : PE X e (RdE K φ .bor fun ρ => (fs ρ).bind fun ds => biD .minG ds) := by
  refine r_biN hh ha fun ds d e F0 F H0 H vs Q e1 r1 q => ?_
  obtain ⟨x, rfl, e2⟩ := one1_some (show one1 minGD ds = some d from e)
  obtain ⟨y, r, ex, ok, rfl⟩ := minGD_cases e2
  obtain ⟨v, rfl, h⟩ := oks_bor1 r1
  obtain ⟨p, ys, rfl, hp, hr⟩ := items_bor ex h
  refine ⟨p, ys, y, r, rfl, hp, hr, ok, fun i w hw hi => q _ _ _ e1 ?_⟩
  obtain ⟨w', hw', rw'⟩ := hr.get hi
  rw [hw] at hw'
  cases hw'
  exact rw'
theorem r_maxG (hh : ∀ {t : TA}, PA X es t → PE X e (tCB (rMaxG K) t)) (ha : PA X es (RdA K φ (.md 1) fs)) : PE X e (RdE K φ (.md 0) fun ρ => (fs ρ).bind fun ds => biD .maxG ds) := by
  refine r_biN hh ha fun ds d e F0 F H0 H vs Q e1 r1 q => ?_
  obtain ⟨x, rfl, e2⟩ := one1_some (show one1 maxGD ds = some d from e)
  obtain ⟨y, r, ex, ok, rfl⟩ := maxGD_cases e2
  obtain ⟨v, rfl, h⟩ := oks_md1 r1
  obtain ⟨p, ys, rfl, hp, hr⟩ := items_md ex h
  refine ⟨p, ys, y, r, rfl, hp, hr.imp fun d v _ h => h.any, ok, fun i w hw hi => q _ _ _ e1 ?_⟩
  obtain ⟨w', hw', rw'⟩ := hr.get hi
  rw [hw] at hw'
  cases hw'
  exact rw'
theorem r_maxGB (hh : ∀ {t : TA}, PA X es t → PE X e (tCB (rMaxG K) t)) (ha : PA X es (RdA K φ .bor fs)) : PE X e (RdE K φ .bor fun ρ => (fs ρ).bind fun ds => biD .maxG ds) := by
  refine r_biN hh ha fun ds d e F0 F H0 H vs Q e1 r1 q => ?_
  obtain ⟨x, rfl, e2⟩ := one1_some (show one1 maxGD ds = some d from e)
  obtain ⟨y, r, ex, ok, rfl⟩ := maxGD_cases e2
  obtain ⟨v, rfl, h⟩ := oks_bor1 r1
  obtain ⟨p, ys, rfl, hp, hr⟩ := items_bor ex h
  refine ⟨p, ys, y, r, rfl, hp, hr, ok, fun i w hw hi => q _ _ _ e1 ?_⟩
  obtain ⟨w', hw', rw'⟩ := hr.get hi
  rw [hw] at hw'
  cases hw'
  exact rw'
end
/-! ### sorted -/
def rSrt (K : PySem.W.Frag) : List V → Hp → VK → Prop := fun vs H Q => ∃ (F : Pa) (a : Addr) (ys : List V) (xs : List D), vs = [V.ref a] ∧ SqL K H a ys ∧ AllR (Rep K F H) xs ys ∧ (okC xs && (xs.all isTupD || xs.all noTupD)) = true ∧
  ∀ zs p, H p = none → AllR (Rep K F H) (sortL xs) zs → Q (.ref p) (upd H p (.lst zs))
theorem each_of {R : Value → D → Prop} : ∀ {us : List Value} {xs : List D} {ys : List V}, Vals ys us → AllR (fun d v => ∀ u, L2.RelV v u → R u d) xs ys → PySem.W.EachIs R us xs
  | us, [], ys, r, h => by
    have h : ys = [] := h
    subst h
    cases r
    exact .nil
  | us, d :: ds, ys, r, ⟨v, vs, e, h1, h2⟩ => by
    subst e
    cases r with
    | cons r1 rr => exact .cons (h1 _ r1) (each_of rr h2)
theorem each_back {K : PySem.W.Frag} {F : Pa} {H : Hp} : ∀ {us : List Value} {xs : List D}, PySem.W.EachIs (fun u d => ∃ v, L2.RelV v u ∧ Rep K F H d v) us xs → ∃ vs, Vals vs us ∧ AllR (Rep K F H) xs vs
  | _, _, .nil => ⟨[], .nil, rfl⟩
  | _, _, .cons ⟨v, r1, r2⟩ t => by
    obtain ⟨vs, h1, h2⟩ := each_back t
    exact ⟨v :: vs, .cons r1 h1, v, vs, rfl, r2, h2⟩
theorem isTup_of {x : D} (h : isTupD x = true) : ∃ y r, toP x = .tuple (y :: r) := by
  cases x <;> simp only [isTupD, reduceCtorEq, Bool.false_eq_true] at h
  rename_i xs
  cases xs with
  | nil => simp [isTupD] at h
  | cons z r => exact ⟨toP z, toPs r, by simp [toP, toPs]⟩
theorem noTup_of {x : D} {n : Nat} (h : noTupD x = true) (hp : D.pl n x = true) : toP x ≠ .none ∧ ∀ xs, toP x ≠ .tuple xs := by
  cases x <;> simp_all [noTupD, toP, D.pl]
theorem bi_sorted (hu : X.A.units + 64 < cLine) : CallR X (.builtin "sorted") (rSrt X.K) := by
  intro pins s σ H vs us Q I r h
  obtain ⟨F, a, ys, xs, rfl, hs, ha, ok, q⟩ := h
  rw [Bool.and_eq_true] at ok
  obtain ⟨ok, ht⟩ := ok
  obtain ⟨al, pl⟩ := okC_alike ok
  obtain ⟨its, rv, hl, hz⟩ := I.list hs
  rw [Vals.ref1 r]
  have hlen : its.length = xs.length := by rw [← rv.length, AllR.len ha]
  refine PySem.W.sorted_data (enc := toP) (bs := xs) (R := fun u d => ∃ v, L2.RelV v u ∧ Rep X.K F H d v) hl.isList (each_of rv (ha.imp fun d v _ h u hr => ⟨v, hr, h⟩))
    (each_of rv (ha.imp fun d v hm h u hr => Dp.reads I (toP d) v u (rep_dp d v (pl_sm _ _ (pls_mem pl d hm)) h) hr)) ?_ ?_ (by rw [← hlen, ← rv.length]; exact hz) ?_ fun out ho he => ?_
  · rw [← toPs_map]
    exact al.1
  · rw [← toPs_map]
    rw [Bool.or_eq_true, List.all_eq_true, List.all_eq_true] at ht
    rcases ht with ht | ht
    · refine .inl fun d hd => ?_
      obtain ⟨x, hx, rfl⟩ := mem_toPs.mp hd
      exact isTup_of (ht x hx)
    · refine .inr fun d hd => ?_
      obtain ⟨x, hx, rfl⟩ := mem_toPs.mp hd
      exact noTup_of (ht x hx) (pls_mem pl x hx)
  · intro b hb
    have := (pl_lay _ _ (pls_mem pl b hb)).2
    omega
  · have he : PySem.W.EachIs (fun u d => ∃ v, L2.RelV v u ∧ Rep X.K F H d v) out (sortL xs) := he
    obtain ⟨zs, h1, h2⟩ := each_back he
    obtain ⟨ep, he'⟩ := PyProof.Rows.sortedAll_at s.heap its out.toArray
    have hzl : zs.length ≤ sizeLine := by rw [h1.length, ho, ← hlen, ← rv.length]; exact hz
    exact ⟨.ref _, upd H (s.heap.objs.size + 1) (.lst zs), I.laid (t' := s.toks) (fun _ _ => PyProof.Rows.sortedAll_old) (Nat.le_succ _) ⟨hzl, out, ep, h1, he'⟩, rfl, q zs _ (I.hok.fresh (Nat.le_succ _)) h2⟩
theorem sortD_cases {x d : D} (h : sortD x = some d) : ∃ xs, x = .lst xs ∧ d = .lst (sortL xs) ∧ (okC xs && (xs.all isTupD || xs.all noTupD)) = true := by
  cases x <;> simp only [sortD, reduceCtorEq] at h
  split at h
  · exact ⟨_, rfl, (Option.some.inj h).symm, by assumption⟩
  · cases h
theorem r_sorted {K : PySem.W.Frag} {φ : List Nat} {fs : List D → Option (List D)} {e : Expr} {es : List Expr} (hh : ∀ {t : TA}, PA X es t → PE X e (tCB (rSrt K) t)) (ha : PA X es (RdA K φ (.md 1) fs)) : PE X e (RdE K φ (.own 1) fun ρ => (fs ρ).bind fun ds => biD .sorted ds) := by
  refine r_biN hh ha fun ds d e F0 F H0 H vs Q e1 r1 q => ?_
  obtain ⟨x, rfl, e2⟩ := one1_some (show one1 sortD ds = some d from e)
  obtain ⟨xs, rfl, rfl, ok⟩ := sortD_cases e2
  obtain ⟨v, rfl, h⟩ := oks_md1 r1
  obtain ⟨a, ys, rfl, t, hr⟩ := (show ∃ a vs, v = .ref a ∧ H a = some (.lst vs) ∧ AllR (Rep K F H) _ vs from h)
  exact ⟨F, a, ys, xs, rfl, SqL.of t, hr, ok, fun zs p hp hzs => q _ _ _ (e1.trans (Ext.laid e1.fo hp)) (fresh_own1 e1.fo e1.same hp hzs)⟩
end
end Ev

/-! isinstance, targets, comprehensions. -/
namespace Ev
open PySem PySem.Spec PyProof.Rows L2

/-! ### isinstance -/
def tyS : Ty → String
  | .int => "int"
  | .bool => "bool"
  | .tuple => "tuple"
  | .str => "str"
  | .list => "list"
theorem isi_ty {K : PySem.W.Frag} {H : Hp} {d : D} {v : V} {t : Ty} {b : Bool} (r : Rep K Any H d v) (h : isiD t d = some b) : ∃ n : String, TyX K H v (.type n) ∧ kitB n (tyS t) = some b := by
  cases d <;> first
    | (cases t <;> simp [isiD] at h; done)
    | skip
  · have := rep_non r
    subst this
    refine ⟨"NoneType", .base .non, ?_⟩
    cases t <;> (simp only [isiD, Option.some.injEq] at h; subst h; decide +kernel)
  · have := rep_bl r
    subst this
    refine ⟨"bool", .base (.bl _), ?_⟩
    cases t <;> (simp only [isiD, Option.some.injEq] at h; subst h; decide +kernel)
  · have := rep_int r
    subst this
    refine ⟨"int", .base (.int _), ?_⟩
    cases t <;> (simp only [isiD, Option.some.injEq] at h; subst h; decide +kernel)
  · rename_i z
    have : v = .str z := by unfold Rep at r; exact r
    subst this
    refine ⟨"str", .base (.str _), ?_⟩
    cases t <;> (simp only [isiD, Option.some.injEq] at h; subst h; decide +kernel)
  · obtain ⟨a, vs, rfl, q, _⟩ := rep_tup r
    refine ⟨"tuple", ?_, ?_⟩
    · rcases q with ⟨q | ⟨o, q⟩, _⟩ | (q | ⟨o, its, n, h1, h2, _⟩)
      · exact .base (.tup q)
      · exact .fTuple q
      · rcases q with q | ⟨o, q⟩ <;> cases q
      · exact .kTuple h1 h2
    · cases t <;> (simp only [isiD, Option.some.injEq] at h; subst h; decide +kernel)
  · obtain ⟨a, vs, rfl, q, _⟩ := rep_lst r
    refine ⟨"list", .base (.lst q.1), ?_⟩
    cases t <;> (simp only [isiD, Option.some.injEq] at h; subst h; decide +kernel)
section
variable {X : Cx} {K : PySem.W.Frag} {φ : List Nat} {fa : Sem1} {a e : Expr} {p p2 pos : Pos}
theorem r_isi {t : Ty} (ha : PE X a (RdE X.K φ .bor fa)) (hh : ∀ {ta : TE}, PE X a ta → PE X e (tCB (rIsi X.K) (tCons ta (tCons (tC (.ty (tyS t))) tNil)))) : PE X e (RdE X.K φ (.own 0) fun ρ => (fa ρ).bind fun x => (isiD t x).map .bl) := by
  refine peI (hh ha) fun σ H Q ⟨ρ, F, S, st, d, e, q⟩ => ?_
  dsimp only at e
  obtain ⟨x, ex, e⟩ := bind_some e
  obtain ⟨b, eb, rfl⟩ := map_some' e
  refine ⟨ρ, F, S, st, x, ex, fun v H1 F1 e1 r1 => ?_⟩
  obtain ⟨n, h1, h2⟩ := isi_ty r1 eb
  exact ⟨v, .ty (tyS t), .type n, .type (tyS t), b, rfl, .ty _, h1, kit_ty h2, q _ _ _ e1 (own0 (sv_rep rfl))⟩
end

/-! ### targets -/
def gOf (K : PySem.W.Frag) : Tgt → TG
  | .nm i => gName i
  | .two a b => gTup K 2 (gCons (gOf K a) (gCons (gOf K b) gNil))
  | .three a b c => gTup K 3 (gCons (gOf K a) (gCons (gOf K b) (gCons (gOf K c) gNil)))
  | .four a b c d => gTup K 4 (gCons (gOf K a) (gCons (gOf K b) (gCons (gOf K c) (gCons (gOf K d) gNil))))
theorem agG_ns {t : Tgt} {c : AC} {e : Expr} (h : agG t c e = true) : ∀ (es : List Expr) (env : Env), assignEach (e :: es) env = (false, assign e env) :: assignEach es env := by
  intro es env
  cases e <;> first
    | rfl
    | (exfalso; cases t <;> simp [agG] at h)
theorem g_ok {X : Cx} {c : AC} {fr : List Nat} {Φ : Fns} {k : Nat} (g : GX X c fr Φ k) : ∀ (t : Tgt) (e : Expr), agG t c e = true → PG X e (gOf X.K t)
  | .nm i, e, h => by
    cases e <;> simp only [agG, Bool.false_eq_true] at h
    rename_i x pos
    rw [Bool.and_eq_true, decide_eq_true_eq] at h
    have hl : (c.sc.names.lookup x = some .local ∨ c.sc.names.lookup x = some .cell) ∧ (c.fn x = true ∨ c.sc.names.lookup x = some .local) := by
      have h2 := h.2
      unfold locB at h2
      split at h2
      · rename_i q; exact ⟨.inl q, .inr q⟩
      · rename_i q; exact ⟨.inr q, .inl h2⟩
      · cases h2
    refine pg_name g.nd (by rw [g.N]; exact h.1) ?_ ?_
    · show X.env.scope.names.lookup x = _ ∨ X.env.scope.names.lookup x = _
      rw [g.sc]
      exact hl.1
    · rw [g.fn, g.sc]
      exact hl.2
  | .two a b, e, h => by
    unfold agG at h
    split at h
    · rw [Bool.and_eq_true] at h
      refine pg_tup g.calm (pgs_cons (g_ok g a _ h.1) (pgs_cons (g_ok g b _ h.2) pgs_nil ?_) ?_) ?_ ?_
      · rw [agG_ns h.2]; rfl
      · rw [agG_ns h.1]; rfl
      · rw [agG_ns h.1, agG_ns h.2]; rfl
      · rw [agG_ns h.1, agG_ns h.2]; rfl
    · cases h
  | .three a b d, e, h => by
    unfold agG at h
    split at h
    · simp only [Bool.and_eq_true] at h
      obtain ⟨⟨h1, h2⟩, h3⟩ := h
      refine pg_tup g.calm (pgs_cons (g_ok g a _ h1) (pgs_cons (g_ok g b _ h2) (pgs_cons (g_ok g d _ h3) pgs_nil ?_) ?_) ?_) ?_ ?_
      · rw [agG_ns h3]; rfl
      · rw [agG_ns h2]; rfl
      · rw [agG_ns h1]; rfl
      · rw [agG_ns h1, agG_ns h2, agG_ns h3]; rfl
      · rw [agG_ns h1, agG_ns h2, agG_ns h3]; rfl
    · cases h
  | .four a b d f, e, h => by
    unfold agG at h
    split at h
    · simp only [Bool.and_eq_true] at h
      obtain ⟨⟨⟨h1, h2⟩, h3⟩, h4⟩ := h
      refine pg_tup g.calm (pgs_cons (g_ok g a _ h1) (pgs_cons (g_ok g b _ h2) (pgs_cons (g_ok g d _ h3) (pgs_cons (g_ok g f _ h4) pgs_nil ?_) ?_) ?_) ?_) ?_ ?_
      · rw [agG_ns h4]; rfl
      · rw [agG_ns h3]; rfl
      · rw [agG_ns h2]; rfl
      · rw [agG_ns h1]; rfl
      · rw [agG_ns h1, agG_ns h2, agG_ns h3, agG_ns h4]; rfl
      · rw [agG_ns h1, agG_ns h2, agG_ns h3, agG_ns h4]; rfl
    · cases h
theorem flT_len (φ : List Nat) (t : Tgt) : (flT φ t).length = φ.length := by
  induction t generalizing φ with
  | nm i => simp [flT]
  | two a b ha hb => simp only [flT, ha, hb]
  | three a b c ha hb hc => simp only [flT, ha, hb, hc]
  | four a b c d ha hb hc hd => simp only [flT, ha, hb, hc, hd]
theorem wipe_set (σ : L2.St) {i : Nat} {o : Option V} : ∀ {vs : List Nat}, i ∈ vs → wipe (σ.set i o) vs = wipe σ vs
  | [], h => by cases h
  | v :: vs, h => by
    unfold wipe
    by_cases hv : i ∈ vs
    · rw [wipe_set σ hv]
    · have e : i = v := by
        rcases List.mem_cons.mp h with h | h
        · exact h
        · exact absurd h hv
      subst e
      have out : ∀ {ws : List Nat}, i ∉ ws → wipe (σ.set i o) ws = (wipe σ ws).set i o := by
        intro ws
        induction ws with
        | nil => intro _; rfl
        | cons w ws ih =>
          intro hn
          rw [List.mem_cons, not_or] at hn
          unfold wipe
          rw [ih hn.2, List.set_comm _ _ hn.1]
      rw [out hv, List.set_set]
theorem t2_of {d : D} {p : D × D} (h : D.t2 d = some p) : d = .tup [p.1, p.2] := by
  unfold D.t2 at h
  split at h
  · cases h; rfl
  · cases h
theorem t3_of {d : D} {p : D × D × D} (h : D.t3 d = some p) : d = .tup [p.1, p.2.1, p.2.2] := by
  unfold D.t3 at h
  split at h
  · cases h; rfl
  · cases h
theorem t4_of {d : D} {p : D × D × D × D} (h : D.t4 d = some p) : d = .tup [p.1, p.2.1, p.2.2.1, p.2.2.2] := by
  unfold D.t4 at h
  split at h
  · cases h; rfl
  · cases h
theorem g_data {K : PySem.W.Frag} {F : Pa} {H : Hp} : ∀ (t : Tgt) {φ : List Nat} {d : D} {ρ ρ' : List D}, asgD t d ρ = some ρ' → (∀ i ∈ tIx t, i < φ.length) → ∀ {σ : L2.St} {S : List Addr} {v : V} {Q : L2.St → Hp → Prop}, Sta K φ ρ σ H F S → Rep K F H d v →
    (∀ σ' S', Sta K (flT φ t) ρ' σ' H F S' → (∀ a ∈ S', a ∈ S) → (∀ vs, (∀ i ∈ tIx t, i ∈ vs) → wipe σ' vs = wipe σ vs) → Q σ' H) → gOf K t v σ H Q
  | .nm i, φ, d, ρ, ρ', h, hi, σ, S, v, Q, st, r, q => by
    unfold asgD at h
    split at h
    · cases h
    · cases h
      obtain ⟨S', st', hs⟩ := st.set (i := i) (k := 0) (d := d) (v := v) (Sn := []) (hi i (by simp [tIx])) ⟨rfl, r⟩ List.nodup_nil (fun _ h => nomatch h)
      refine q _ S' st' (fun a ha => ?_) fun vs hv => wipe_set σ (hv i (by simp [tIx]))
      rcases hs a ha with h | h
      · exact h
      · cases h
  | .two a b, φ, d, ρ, ρ', h, hi, σ, S, v, Q, st, r, q => by
    obtain ⟨p, hp, h⟩ := bind_some h
    obtain ⟨ρ1, h1, h2⟩ := bind_some h
    obtain ⟨x, y⟩ := p
    have hd := t2_of hp
    subst hd
    obtain ⟨l, vs, rfl, ta, u, vs1, rfl, r1, w, vs2, rfl, r2, r3⟩ := rep_tup r
    have r3 : vs2 = [] := r3
    subst r3
    refine ⟨l, _, rfl, ta.sq, rfl, u, _, rfl, g_data a h1 (fun i h => hi i (by simp [tIx, h])) st r1 fun σ1 S1 st1 hs1 hw1 => ?_⟩
    refine ⟨w, _, rfl, g_data b h2 (fun i h => by rw [flT_len]; exact hi i (by simp [tIx, h])) st1 r2 fun σ2 S2 st2 hs2 hw2 => ⟨rfl, ?_⟩⟩
    exact q σ2 S2 st2 (fun a h => hs1 a (hs2 a h)) fun vs hv => (hw2 vs fun i h => hv i (by simp [tIx, h])).trans (hw1 vs fun i h => hv i (by simp [tIx, h]))
  | .three a b c, φ, d, ρ, ρ', h, hi, σ, S, v, Q, st, r, q => by
    obtain ⟨p, hp, h⟩ := bind_some h
    obtain ⟨ρ1, h1, h⟩ := bind_some h
    obtain ⟨ρ2, h2, h3⟩ := bind_some h
    obtain ⟨x, y, z⟩ := p
    have hd := t3_of hp
    subst hd
    obtain ⟨l, vs, rfl, ta, u, vs1, rfl, r1, w, vs2, rfl, r2, w3, vs3, rfl, r3, r4⟩ := rep_tup r
    have r4 : vs3 = [] := r4
    subst r4
    refine ⟨l, _, rfl, ta.sq, rfl, u, _, rfl, g_data a h1 (fun i h => hi i (by simp [tIx, h])) st r1 fun σ1 S1 st1 hs1 hw1 => ?_⟩
    refine ⟨w, _, rfl, g_data b h2 (fun i h => by rw [flT_len]; exact hi i (by simp [tIx, h])) st1 r2 fun σ2 S2 st2 hs2 hw2 => ?_⟩
    refine ⟨w3, _, rfl, g_data c h3 (fun i h => by rw [flT_len, flT_len]; exact hi i (by simp [tIx, h])) st2 r3 fun σ3 S3 st3 hs3 hw3 => ⟨rfl, ?_⟩⟩
    exact q σ3 S3 st3 (fun a h => hs1 a (hs2 a (hs3 a h))) fun vs hv => (hw3 vs fun i h => hv i (by simp [tIx, h])).trans ((hw2 vs fun i h => hv i (by simp [tIx, h])).trans (hw1 vs fun i h => hv i (by simp [tIx, h])))
  | .four a b c f, φ, d, ρ, ρ', h, hi, σ, S, v, Q, st, r, q => by
    obtain ⟨p, hp, h⟩ := bind_some h
    obtain ⟨ρ1, h1, h⟩ := bind_some h
    obtain ⟨ρ2, h2, h⟩ := bind_some h
    obtain ⟨ρ3, h3, h4⟩ := bind_some h
    obtain ⟨x, y, z, z'⟩ := p
    have hd := t4_of hp
    subst hd
    obtain ⟨l, vs, rfl, ta, u, vs1, rfl, r1, w, vs2, rfl, r2, w3, vs3, rfl, r3, w4, vs4, rfl, r4, r5⟩ := rep_tup r
    have r5 : vs4 = [] := r5
    subst r5
    refine ⟨l, _, rfl, ta.sq, rfl, u, _, rfl, g_data a h1 (fun i h => hi i (by simp [tIx, h])) st r1 fun σ1 S1 st1 hs1 hw1 => ?_⟩
    refine ⟨w, _, rfl, g_data b h2 (fun i h => by rw [flT_len]; exact hi i (by simp [tIx, h])) st1 r2 fun σ2 S2 st2 hs2 hw2 => ?_⟩
    refine ⟨w3, _, rfl, g_data c h3 (fun i h => by rw [flT_len, flT_len]; exact hi i (by simp [tIx, h])) st2 r3 fun σ3 S3 st3 hs3 hw3 => ?_⟩
    refine ⟨w4, _, rfl, g_data f h4 (fun i h => by rw [flT_len, flT_len, flT_len]; exact hi i (by simp [tIx, h])) st3 r4 fun σ4 S4 st4 hs4 hw4 => ⟨rfl, ?_⟩⟩
    exact q σ4 S4 st4 (fun a h => hs1 a (hs2 a (hs3 a (hs4 a h)))) fun vs hv => (hw4 vs fun i h => hv i (by simp [tIx, h])).trans ((hw3 vs fun i h => hv i (by simp [tIx, h])).trans ((hw2 vs fun i h => hv i (by simp [tIx, h])).trans (hw1 vs fun i h => hv i (by simp [tIx, h]))))

/-! ### comprehensions -/
def snocO (r : List D) : Option D → List D
  | some d => r ++ [d]
  | none => r
theorem collect_app {f : D → Option (Option D)} : ∀ {xs ys r : List D}, collect f (xs ++ ys) = some r → ∃ r1 r2, collect f xs = some r1 ∧ collect f ys = some r2 ∧ r = r1 ++ r2
  | [], ys, r, h => ⟨[], r, rfl, h, rfl⟩
  | x :: xs, ys, r, h => by
    obtain ⟨o, ho, h⟩ := bind_some (show (f x).bind _ = some r from h)
    obtain ⟨q, hq, rfl⟩ := map_some' h
    obtain ⟨r1, r2, h1, h2, rfl⟩ := collect_app hq
    refine ⟨consO o r1, r2, ?_, h2, ?_⟩
    · simp only [collect, ho, Option.bind_some, h1, Option.map_some]
    · cases o <;> rfl
theorem collect_snoc {f : D → Option (Option D)} {d : D} {o : Option D} (ho : f d = some o) : ∀ {ys r1 : List D}, collect f ys = some r1 → collect f (ys ++ [d]) = some (snocO r1 o)
  | [], r1, h => by
    cases h
    simp only [List.nil_append, collect, ho, Option.bind_some, Option.map_some]
    cases o <;> rfl
  | z :: zs, r1, h => by
    obtain ⟨o', ho', h⟩ := bind_some (show (f z).bind _ = some r1 from h)
    obtain ⟨q', hq', rfl⟩ := map_some' h
    simp only [List.cons_append, collect, ho', Option.bind_some, collect_snoc ho hq', Option.map_some]
    cases o <;> cases o' <;> rfl
theorem collect_at {f : D → Option (Option D)} {xs r : List D} {i : Nat} {d : D} (h : collect f xs = some r) (hd : xs[i]? = some d) : ∃ acc o, collect f (xs.take i) = some acc ∧ f d = some o ∧
    collect f (xs.take (i + 1)) = some (snocO acc o) ∧ (snocO acc o).length ≤ r.length := by
  have hi : i < xs.length := (List.getElem?_eq_some_iff.mp hd).1
  have hx : xs[i] = d := (List.getElem?_eq_some_iff.mp hd).2
  have e : xs = xs.take i ++ (d :: xs.drop (i + 1)) := by
    rw [← hx, ← List.drop_eq_getElem_cons hi, List.take_append_drop]
  rw [e] at h
  obtain ⟨acc, r2, h1, h2, rfl⟩ := collect_app h
  obtain ⟨o, ho, h3⟩ := bind_some (show (f d).bind _ = some r2 from h2)
  obtain ⟨q, hq, rfl⟩ := map_some' h3
  refine ⟨acc, o, h1, ho, ?_, ?_⟩
  · have e2 : xs.take (i + 1) = xs.take i ++ [d] := by rw [List.take_succ_eq_append_getElem hi, hx]
    rw [e2]
    exact collect_snoc ho h1
  · cases o with
    | none => simp [snocO, consO]
    | some y => simp only [snocO, consO, List.length_append, List.length_cons, List.length_nil]; omega
theorem wipe_wipe (σ : L2.St) (vs : List Nat) : wipe (wipe σ vs) vs = wipe σ vs := by
  have go : ∀ (ws : List Nat), (∀ i ∈ ws, i ∈ vs) → wipe (wipe σ ws) vs = wipe σ vs := by
    intro ws
    induction ws with
    | nil => intro _; rfl
    | cons w ws ih =>
      intro h
      show L2.wipe ((L2.wipe σ ws).set w none) vs = _
      rw [wipe_set _ (h w (.head _)), ih fun i hi => h i (.tail _ hi)]
  exact go vs fun _ h => h
theorem φ0_len (φ : List Nat) : ∀ vs, (φ0 φ vs).length = φ.length
  | [] => rfl
  | v :: vs => by simp [φ0, φ0_len φ vs]
theorem Sta.wipe {K : PySem.W.Frag} {φ : List Nat} {ρ : List D} {σ : L2.St} {H : Hp} {F : Pa} {S : List Addr} (st : Sta K φ ρ σ H F S) : ∀ (vs : List Nat), (∀ i ∈ vs, i < φ.length) → ∃ S', Sta K (φ0 φ vs) (wipeD ρ vs) (L2.wipe σ vs) H F S' ∧ ∀ a ∈ S', a ∈ S
  | [], _ => ⟨S, st, fun _ h => h⟩
  | v :: vs, h => by
    obtain ⟨S1, s1, hs1⟩ := Sta.wipe st vs fun i hi => h i (.tail _ hi)
    have hi : v < (φ0 φ vs).length := by rw [φ0_len]; exact h v (.head _)
    obtain ⟨d', o, Sa, Sb, Sc, g1, g2, g3, g4, g5⟩ := s1.sl.split (List.getElem?_eq_getElem hi)
    subst g3
    have q := g5 F H 0 .bad none [] (.of (Same.refl H) fun _ h => h) (fun _ _ _ h => h) (.inl ⟨rfl, rfl⟩)
    refine ⟨_, ⟨q, s1.fo, fun a ha => s1.nf a ?_, nodup_repl s1.nd List.nodup_nil (by simp)⟩, fun a ha => hs1 a ?_⟩
    · simp only [List.mem_append, List.not_mem_nil, false_or] at ha ⊢
      rcases ha with ha | ha <;> simp [ha]
    · simp only [List.mem_append, List.not_mem_nil, false_or] at ha ⊢
      rcases ha with ha | ha <;> simp [ha]
theorem AllO.there {K : PySem.W.Frag} {F : Pa} {H : Hp} {k : Nat} : ∀ {ds : List D} {vs : List V} {S : List Addr}, AllO (Own K F H k) ds vs S → ∀ b ∈ S, (H b).isSome = true
  | [], _, _, h, b, hb => by rw [h.2] at hb; cases hb
  | d :: ds, vs, S, ⟨v, r, S1, S2, e, e2, h1, h2⟩, b, hb => by
    subst e2
    rcases List.mem_append.mp hb with hb | hb
    · exact Own.there h1 b hb
    · exact AllO.there h2 b hb
theorem some_none {H : Hp} {a : Addr} (h : (H a).isSome = true) (h' : H a = none) : False := by rw [h'] at h; cases h
theorem not_new {F F' : Pa} {H H' : Hp} {a : Addr} (e : Ext F H F' H') (h : (H a).isSome = true) (n : ¬ F a) : ¬ F' a := fun q => (e.new a q).elim n (some_none h)
theorem lc_turns {K : PySem.W.Frag} {φ : List Nat} {ρ : List D} {σ : L2.St} {F F' : Pa} {H H1 : Hp} {S : List Addr} {k : Nat} {tg : Tgt} {vs : List Nat} {fe : Sem1} {fc : List D → Option Bool} {ds res : List D} {J : It} {G : Hp → Prop} {D : Addr} {Q : VK}
    (st : Sta K φ ρ σ H F S) (hv : ∀ i ∈ vs, i < φ.length) (ht : ∀ i ∈ tIx tg, i ∈ vs) (e1 : Ext F H F' H1) (w : WkD K F' H1 false ds J G) (hD : H1 D = none)
    (hr : collect (fun x => (asgD tg x (wipeD ρ vs)).bind fun ρ' => (fc ρ').bind fun t => if t then (fe ρ').map some else some none) ds = some res) (hl : res.length ≤ SL)
    (q : ∀ v H' F', Ext F H F' H' → (Res.own (k + 1)).ok K H F' H' (.lst res) v → Q v H') :
    ∃ W : Nat → Nat → Hp → Prop, (∃ m, W 0 m (upd H1 D (.lst []))) ∧ ∀ i m H, W i m H →
      (J.stop i H ∧ Q (.ref D) H) ∨ (J.go i H ∧ ∃ Nx : Hp → Prop, (∀ H', Nx H' → ∃ m', m' < m ∧ W (i + 1) m' H') ∧ ∀ x H', J.yld i H x H' → gOf K tg x (L2.wipe σ vs) H' fun σ2 H2 => L2.wipe σ2 vs = L2.wipe σ vs ∧ RdT K (flT (φ0 φ vs) tg) fc σ2 H2 fun b H3 =>
        if b = true then RdE K (flT (φ0 φ vs) tg) (.own k) fe σ2 H3 fun y H4 => ∃ acc, H4 D = some (.lst acc) ∧ acc.length < sizeLine ∧ Nx (upd H4 D (.lst (acc ++ [y]))) else Nx H3) := by
  have nfD : ¬ F' D := fun h => some_none (e1.fo D h) hD
  refine lc_it w.walk (Qd := fun H => Q (.ref D) H) (fun i H => ∃ (F1 : Pa) (acc : List Ev.D) (vsa : List V) (T : List Addr), collect (fun x => (asgD tg x (wipeD ρ vs)).bind fun ρ' => (fc ρ').bind fun t => if t then (fe ρ').map some else some none) (ds.take i) = some acc ∧ Ext F' H1 F1 H ∧ H D = some (.lst vsa) ∧ ¬ F1 D ∧
      AllO (Own K F1 H k) acc vsa T ∧ T.Nodup ∧ ∀ a ∈ T, a ≠ D ∧ H1 a = none ∧ ¬ F1 a) ?_ ?_ ?_ ?_
  · exact ⟨F', [], [], [], rfl, Ext.laid e1.fo hD, upd_same, nfD, ⟨rfl, rfl⟩, List.nodup_nil, fun _ h => nomatch h⟩
  · rintro i H2 hi ⟨F1, acc, vsa, T, _, e2, _⟩
    exact w.stay H2 F1 (.of e2.same e2.up) (.inr e2.same)
  · rintro i x H2 H3 hi ⟨F1, acc, vsa, T, hc, e2, hDl, nf1, ho, nd, hT⟩ hy
    obtain ⟨F2, d, hd, e3, rd⟩ := w.item i H2 x H3 hi (w.stay H2 F1 (.of e2.same e2.up) (.inr e2.same)) hy F1 (.of e2.same e2.up) e2.fo
    obtain ⟨acc', o, hc', ho', hc2, hlen⟩ := collect_at hr hd
    rw [hc] at hc'
    cases hc'
    obtain ⟨ρ', ea, h⟩ := bind_some ho'
    obtain ⟨t, et, h⟩ := bind_some h
    have e123 := (e1.trans e2).trans e3
    obtain ⟨S0, st0, _⟩ := Sta.wipe (st.ext e123) vs hv
    refine g_data tg ea (fun i hi => by rw [φ0_len]; exact hv i (ht i hi)) st0 rd fun σ2 S2 st2 hs2 hw => ⟨by rw [hw vs ht, wipe_wipe], ρ', F2, S2, st2, t, et, fun H4 F4 e4 => ?_⟩
    have hD4 : H4 D = some (.lst vsa) := e4.same _ _ (e3.same _ _ hDl)
    have nf2 : ¬ F2 D := not_new e3 (by rw [hDl]; rfl) nf1
    have nf4 : ¬ F4 D := not_new e4 (by rw [e3.same _ _ hDl]; rfl) nf2
    cases t with
    | false =>
      dsimp only
      rw [if_neg (by decide)]
      rw [if_neg (by decide)] at h
      cases h
      refine ⟨F4, acc, vsa, T, hc2, (e2.trans e3).trans e4, hD4, nf4, ho.imp fun d v S' _ h => (h.mono e3.same e3.up).mono e4.same e4.up, nd, fun a ha => ⟨(hT a ha).1, (hT a ha).2.1, ?_⟩⟩
      have th := AllO.there ho a ha
      have n2 := not_new e3 th (hT a ha).2.2
      exact not_new e4 (by cases q : H2 a with
        | none => exact (some_none th q).elim
        | some u => rw [e3.same _ _ q]; rfl) n2
    | true =>
      dsimp only
      rw [if_pos rfl]
      rw [if_pos rfl] at h
      obtain ⟨y, hy', rfl⟩ := map_some' h
      refine ⟨ρ', F4, S2, st2.ext e4, y, hy', fun yv H5 F5 e5 r5 => ?_⟩
      have hD5 : H5 D = some (.lst vsa) := e5.same _ _ hD4
      have nf5 : ¬ F5 D := not_new e5 (by rw [hD4]; rfl) nf4
      obtain ⟨T2, ho2, nd2, hT2⟩ := r5
      have hlen' : vsa.length < sizeLine := by
        rw [AllO.len ho, ← SL_eq]
        simp only [snocO, List.length_append, List.length_singleton] at hlen
        omega
      have kD : ∀ a, a ≠ D → ∀ o, H5 a = some o → upd H5 D (.lst (vsa ++ [yv])) a = some o := fun a ha o h => by rw [upd_ne ha]; exact h
      have k5 : Kept F5 F5 H5 (upd H5 D (.lst (vsa ++ [yv]))) := ⟨fun a ha o h => kD a (fun z => nf5 (by rw [← z]; exact ha)) o h, fun _ h => h⟩
      have there2 : ∀ a ∈ T, (H4 a).isSome = true ∧ ¬ F4 a := fun a ha => by
        have th := AllO.there ho a ha
        have n2 := not_new e3 th (hT a ha).2.2
        cases q : H2 a with
        | none => exact (some_none th q).elim
        | some u =>
          have q3 := e3.same _ _ q
          exact ⟨by rw [e4.same _ _ q3]; rfl, not_new e4 (by rw [q3]; rfl) n2⟩
      have ne2 : ∀ a ∈ T2, a ≠ D := fun a ha z => by
        have := (hT2 a ha).1
        rw [z, hD4] at this
        cases this
      refine ⟨vsa, hD5, hlen', F5, acc ++ [y], vsa ++ [yv], T ++ T2, hc2, ?_, upd_same, nf5, ?_, ?_, ?_⟩
      · have e25 := ((e2.trans e3).trans e4).trans e5
        refine ⟨fun b o hb => ?_, e25.up, e25.new, fun a ha => ?_⟩
        · rw [upd_ne (ne_of_none hb hD)]
          exact e25.same b o hb
        · rw [upd_ne (fun z => nf5 (by rw [← z]; exact ha))]
          exact e5.fo a ha
      · refine AllO.app (ho.imp fun d v S' hs h => ?_) (AllO.one (ho2.kept k5 fun a ha => kD a (ne2 a ha)))
        exact (((h.mono e3.same e3.up).mono e4.same e4.up).mono e5.same e5.up).kept k5 fun a ha => kD a (hT a (hs a ha)).1
      · rw [List.nodup_append]
        refine ⟨nd, nd2, fun a ha b hb z => ?_⟩
        subst z
        exact some_none (there2 a ha).1 (hT2 a hb).1
      · intro a ha
        rcases List.mem_append.mp ha with ha | ha
        · exact ⟨(hT a ha).1, (hT a ha).2.1, not_new e5 (there2 a ha).1 (there2 a ha).2⟩
        · exact ⟨ne2 a ha, ((e2.trans e3).trans e4).same.free (hT2 a ha).1, (hT2 a ha).2⟩
  · rintro H2 ⟨F1, acc, vsa, T, hc, e2, hDl, nf1, ho, nd, hT⟩
    rw [List.take_length] at hc
    rw [hr] at hc
    cases hc
    refine q _ _ _ (e1.trans e2) ⟨D :: T, ⟨D, vsa, T, rfl, hDl, ho, rfl⟩, ?_, ?_⟩
    · rw [List.nodup_cons]
      exact ⟨fun h => (hT D h).1 rfl, nd⟩
    · intro a ha
      rcases List.mem_cons.mp ha with rfl | ha
      · exact ⟨e1.same.free hD, nf1⟩
      · exact ⟨e1.same.free (hT a ha).2.1, (hT a ha).2.2⟩

/-! ### two fors -/
theorem collectL_app {f : D → Option (List D)} : ∀ {xs ys r : List D}, collectL f (xs ++ ys) = some r → ∃ r1 r2, collectL f xs = some r1 ∧ collectL f ys = some r2 ∧ r = r1 ++ r2
  | [], ys, r, h => ⟨[], r, rfl, h, rfl⟩
  | x :: xs, ys, r, h => by
    obtain ⟨o, ho, h⟩ := bind_some (show (f x).bind _ = some r from h)
    obtain ⟨q, hq, rfl⟩ := map_some' h
    obtain ⟨r1, r2, h1, h2, rfl⟩ := collectL_app hq
    refine ⟨o ++ r1, r2, ?_, h2, by rw [List.append_assoc]⟩
    simp only [collectL, ho, Option.bind_some, h1, Option.map_some]
theorem collectL_snoc {f : D → Option (List D)} {d : D} {o : List D} (ho : f d = some o) : ∀ {ys r1 : List D}, collectL f ys = some r1 → collectL f (ys ++ [d]) = some (r1 ++ o)
  | [], r1, h => by
    cases h
    simp only [List.nil_append, collectL, ho, Option.bind_some, Option.map_some, List.append_nil]
  | z :: zs, r1, h => by
    obtain ⟨o', ho', h⟩ := bind_some (show (f z).bind _ = some r1 from h)
    obtain ⟨q', hq', rfl⟩ := map_some' h
    simp only [List.cons_append, collectL, ho', Option.bind_some, collectL_snoc ho hq', Option.map_some, List.append_assoc]
theorem collectL_at {f : D → Option (List D)} {xs r : List D} {i : Nat} {d : D} (h : collectL f xs = some r) (hd : xs[i]? = some d) : ∃ acc o, collectL f (xs.take i) = some acc ∧ f d = some o ∧
    collectL f (xs.take (i + 1)) = some (acc ++ o) ∧ (acc ++ o).length ≤ r.length := by
  have hi : i < xs.length := (List.getElem?_eq_some_iff.mp hd).1
  have hx : xs[i] = d := (List.getElem?_eq_some_iff.mp hd).2
  have e : xs = xs.take i ++ (d :: xs.drop (i + 1)) := by
    rw [← hx, ← List.drop_eq_getElem_cons hi, List.take_append_drop]
  rw [e] at h
  obtain ⟨acc, r2, h1, h2, rfl⟩ := collectL_app h
  obtain ⟨o, ho, h3⟩ := bind_some (show (f d).bind _ = some r2 from h2)
  obtain ⟨q, hq, rfl⟩ := map_some' h3
  refine ⟨acc, o, h1, ho, ?_, by simp only [List.length_append]; omega⟩
  have e2 : xs.take (i + 1) = xs.take i ++ [d] := by rw [List.take_succ_eq_append_getElem hi, hx]
  rw [e2]
  exact collectL_snoc ho h1
/-- the list that is being made at A -/
structure AccD (K : PySem.W.Frag) (k : Nat) (F' : Pa) (H1 : Hp) (A : Addr) (acc : List D) (F1 : Pa) (H : Hp) : Prop where
  ex : ∃ vsa T, H A = some (.lst vsa) ∧ AllO (Own K F1 H k) acc vsa T ∧ T.Nodup ∧ ∀ a ∈ T, a ≠ A ∧ H1 a = none ∧ ¬ F1 a
  e : Ext F' H1 F1 H
  nf : ¬ F1 A
section
variable {K : PySem.W.Frag} {k : Nat} {F' F1 F2 : Pa} {H1 H H2 : Hp} {A : Addr} {acc : List D}
theorem AccD.on (a : AccD K k F' H1 A acc F1 H) (e : Ext F1 H F2 H2) : AccD K k F' H1 A acc F2 H2 := by
  obtain ⟨vsa, T, h1, h2, h3, h4⟩ := a.ex
  exact ⟨⟨vsa, T, e.same _ _ h1, h2.imp fun d v S' _ h => h.mono e.same e.up, h3, fun a ha => ⟨(h4 a ha).1, (h4 a ha).2.1, not_new e (AllO.there h2 a ha) (h4 a ha).2.2⟩⟩, a.e.trans e, not_new e (by rw [h1]; rfl) a.nf⟩
theorem AccD.snoc (w : AccD K k F' H1 A acc F1 H) (hA : H1 A = none) (e : Ext F1 H F2 H2) {y : D} {yv : V} (r : (Res.own k).ok K H F2 H2 y yv) (hl : (acc ++ [y]).length ≤ SL) :
    ∃ vsa, H2 A = some (.lst vsa) ∧ vsa.length < sizeLine ∧ AccD K k F' H1 A (acc ++ [y]) F2 (upd H2 A (.lst (vsa ++ [yv]))) := by
  have nf2 := (w.on e).nf
  have e2 := w.e.trans e
  obtain ⟨vsa, T, g1, g2, g3, g4⟩ := w.ex
  obtain ⟨T2, o2, n2, m2⟩ := r
  have h1 := e.same _ _ g1
  have hlen : vsa.length < sizeLine := by
    rw [AllO.len g2, ← SL_eq]
    simp only [List.length_append, List.length_singleton] at hl
    omega
  have kD : ∀ a, a ≠ A → ∀ o, H2 a = some o → upd H2 A (.lst (vsa ++ [yv])) a = some o := fun a ha o h => by rw [upd_ne ha]; exact h
  have k5 : Kept F2 F2 H2 (upd H2 A (.lst (vsa ++ [yv]))) := ⟨fun a ha o h => kD a (fun z => nf2 (by rw [← z]; exact ha)) o h, fun _ h => h⟩
  have ne2 : ∀ a ∈ T2, a ≠ A := fun a ha z => by
    have := (m2 a ha).1
    rw [z, g1] at this
    cases this
  refine ⟨vsa, h1, hlen, ⟨vsa ++ [yv], T ++ T2, upd_same, ?_, ?_, ?_⟩, ⟨fun b o hb => ?_, e2.up, e2.new, fun a ha => ?_⟩, nf2⟩
  · exact AllO.app (g2.imp fun d v S' hs h => (h.mono e.same e.up).kept k5 fun a ha => kD a (g4 a (hs a ha)).1) (AllO.one (o2.kept k5 fun a ha => kD a (ne2 a ha)))
  · rw [List.nodup_append]
    exact ⟨g3, n2, fun a ha b hb z => some_none (AllO.there g2 a ha) (m2 a (z ▸ hb)).1⟩
  · intro a ha
    rcases List.mem_append.mp ha with ha | ha
    · exact ⟨(g4 a ha).1, (g4 a ha).2.1, not_new e (AllO.there g2 a ha) (g4 a ha).2.2⟩
    · exact ⟨ne2 a ha, w.e.same.free (m2 a ha).1, (m2 a ha).2⟩
  · rw [upd_ne (ne_of_none hb hA)]
    exact e2.same b o hb
  · rw [upd_ne (fun z => nf2 (by rw [← z]; exact ha))]
    exact e2.fo a ha
end
theorem lc2_turns {K : PySem.W.Frag} {φ : List Nat} {ρ : List D} {σ : L2.St} {F F' : Pa} {H H1 : Hp} {S : List Addr} {k : Nat} {tg tg1 : Tgt} {vs : List Nat} {fe : Sem1} {fc fc1 : List D → Option Bool} {fi : List D → Option (List D)} {ds res : List D} {J : It} {G : Hp → Prop} {A : Addr} {Q : VK}
    (st : Sta K φ ρ σ H F S) (hv : ∀ i ∈ vs, i < φ.length) (ht : ∀ i ∈ tIx tg, i ∈ vs) (ht1 : ∀ i ∈ tIx tg1, i ∈ vs) (e1 : Ext F H F' H1) (w : WkD K F' H1 false ds J G) (hA : H1 A = none)
    (hr : collectL (fun x => (asgD tg x (wipeD ρ vs)).bind fun ρ1 => (fc ρ1).bind fun t => if t then (fi ρ1).bind fun ys =>
        collect (fun y => (asgD tg1 y (wipeD ρ1 (tIx tg1))).bind fun ρ2 => (fc1 ρ2).bind fun t => if t then (fe ρ2).map some else some none) ys else some []) ds = some res) (hl : res.length ≤ SL)
    (q : ∀ v H' F', Ext F H F' H' → (Res.own (k + 1)).ok K H F' H' (.lst res) v → Q v H') :
    ∃ W : Nat → Nat → Hp → Prop, (∃ m, W 0 m (upd H1 A (.lst []))) ∧ ∀ i m H, W i m H →
      (J.stop i H ∧ Q (.ref A) H) ∨ (J.go i H ∧ ∃ Nx : Hp → Prop, (∀ H', Nx H' → ∃ m', m' < m ∧ W (i + 1) m' H') ∧ ∀ x H', J.yld i H x H' → gOf K tg x (L2.wipe σ vs) H' fun σ2 H2 => L2.wipe σ2 vs = L2.wipe σ vs ∧ RdT K (flT (φ0 φ vs) tg) fc σ2 H2 fun b H3 =>
        if b = true then RdI K (flT (φ0 φ vs) tg) true fi σ2 H3 fun J1 H4 => ∃ W1 : Nat → Nat → Hp → Prop, (∃ m, W1 0 m H4) ∧ ∀ j k' H, W1 j k' H →
          (J1.stop j H ∧ Nx H) ∨ (J1.go j H ∧ ∃ Nx1 : Hp → Prop, (∀ H', Nx1 H' → ∃ k'', k'' < k' ∧ W1 (j + 1) k'' H') ∧ ∀ x H', J1.yld j H x H' → gOf K tg1 x (L2.wipe σ2 (tIx tg1)) H' fun σ3 H5 => L2.wipe σ3 (tIx tg1) = L2.wipe σ2 (tIx tg1) ∧ RdT K (flT (φ0 (flT (φ0 φ vs) tg) (tIx tg1)) tg1) fc1 σ3 H5 fun b H6 =>
            if b = true then RdE K (flT (φ0 (flT (φ0 φ vs) tg) (tIx tg1)) tg1) (.own k) fe σ3 H6 fun y H7 => ∃ acc, H7 A = some (.lst acc) ∧ acc.length < sizeLine ∧ Nx1 (upd H7 A (.lst (acc ++ [y]))) else Nx1 H6)
        else Nx H3) := by
  have nfA : ¬ F' A := fun h => some_none (e1.fo A h) hA
  let fin := fun ρ1 => fun y => (asgD tg1 y (wipeD ρ1 (tIx tg1))).bind fun ρ2 => (fc1 ρ2).bind fun t => if t then (fe ρ2).map some else some none
  let fo := fun x => (asgD tg x (wipeD ρ vs)).bind fun ρ1 => (fc ρ1).bind fun t => if t then (fi ρ1).bind fun ys => collect (fin ρ1) ys else some []
  let Pv := fun (i : Nat) (H : Hp) => ∃ (F1 : Pa) (acc : List Ev.D), collectL fo (ds.take i) = some acc ∧ AccD K k F' H1 A acc F1 H
  have gW : ∀ i H, Pv i H → G H := fun i H ⟨F1, acc, _, a⟩ => w.stay H F1 (.of a.e.same a.e.up) (.inr a.e.same)
  refine ⟨fun i m H => m = ds.length - i ∧ i ≤ ds.length ∧ Pv i H, ⟨ds.length, rfl, Nat.zero_le _, F', [], rfl, ⟨[], [], upd_same, ⟨rfl, rfl⟩, List.nodup_nil, fun _ h => nomatch h⟩, Ext.laid e1.fo hA, nfA⟩, ?_⟩
  rintro i m H2 ⟨rfl, hi, pv⟩
  have g := gW i H2 pv
  by_cases hlt : i < ds.length
  · refine .inr ⟨w.walk.goes i H2 hlt g, Pv (i + 1), fun H' p' => ⟨ds.length - (i + 1), by omega, rfl, hlt, p'⟩, fun x H3 hy => ?_⟩
    obtain ⟨F1, acc, hc, a⟩ := pv
    obtain ⟨F2, d, hd, e3, rd⟩ := w.item i H2 x H3 hlt g hy F1 (.of a.e.same a.e.up) a.e.fo
    obtain ⟨acc', o, hc', ho', hc2, hlen⟩ := collectL_at hr hd
    have eacc : acc = acc' := Option.some.inj (hc.symm.trans hc')
    subst eacc
    obtain ⟨ρ1, ea, h⟩ := bind_some ho'
    obtain ⟨t, et, h⟩ := bind_some h
    have e123 := (e1.trans a.e).trans e3
    obtain ⟨S0, st0, hS0⟩ := Sta.wipe (st.ext e123) vs hv
    refine g_data tg ea (fun i hi => by rw [φ0_len]; exact hv i (ht i hi)) st0 rd fun σ2 S2 st2 hs2 hw => ⟨by rw [hw vs ht, wipe_wipe], ρ1, F2, S2, st2, t, et, fun H4 F4 e4 => ?_⟩
    have a4 := (a.on e3).on e4
    cases t with
    | false =>
      dsimp only
      rw [if_neg (by decide)]
      rw [if_neg (by decide)] at h
      cases h
      exact ⟨F4, acc, by rw [List.append_nil] at hc2; exact hc2, a4⟩
    | true =>
      dsimp only
      rw [if_pos rfl]
      rw [if_pos rfl] at h
      obtain ⟨ys, ey, h⟩ := bind_some h
      refine ⟨ρ1, F4, S2, st2.ext e4, ys, ey, fun J1 G1 H5 F5 e5 w1 => ?_⟩
      have a5 := a4.on e5
      have st5 := (st2.ext e4).ext e5
      have e05 : Ext F H F5 H5 := e1.trans a5.e
      let Pv1 := fun (j : Nat) (Hc : Hp) => ∃ (F6 : Pa) (acc1 : List Ev.D), collect (fin ρ1) (ys.take j) = some acc1 ∧ AccD K k F' H1 A (acc ++ acc1) F6 Hc ∧ Kept F5 F6 H5 Hc
      refine ⟨fun j m Hc => m = ys.length - j ∧ j ≤ ys.length ∧ Pv1 j Hc, ⟨ys.length, rfl, Nat.zero_le _, F5, [], rfl, by rw [List.append_nil]; exact a5, .of (Same.refl _) fun _ h => h⟩, ?_⟩
      rintro j m1 Hc ⟨rfl, hj, F6, acc1, hc1, a6, k6⟩
      have g1 := w1.stay Hc F6 k6 (.inl rfl)
      by_cases hjl : j < ys.length
      · refine .inr ⟨w1.walk.goes j Hc hjl g1, Pv1 (j + 1), fun H' p' => ⟨ys.length - (j + 1), by omega, rfl, hjl, p'⟩, fun y H7 hy1 => ?_⟩
        obtain ⟨F7, d1, hd1, e7, rd1⟩ := w1.item j Hc y H7 hjl g1 hy1 F6 k6 a6.e.fo
        obtain ⟨acc1', o1, hc1', ho1, hc12, hlen1⟩ := collect_at h hd1
        have eacc1 : acc1 = acc1' := Option.some.inj (hc1.symm.trans hc1')
        subst eacc1
        obtain ⟨ρ2, ea1, h2⟩ := bind_some ho1
        obtain ⟨t1, et1, h2⟩ := bind_some h2
        have e06 : Ext F H F6 Hc := e1.trans a6.e
        have inS : ∀ b ∈ S2, b ∈ S := fun b hb => hS0 b (hs2 b hb)
        have st6 : Sta K (flT (φ0 φ vs) tg) ρ1 σ2 Hc F6 S2 := ⟨st5.sl.kept k6 fun b hb o ho => by
            have th := st.sl.there b (inS b hb)
            cases q0 : H b with
            | none => exact (some_none th q0).elim
            | some o0 =>
              rw [e05.same _ _ q0] at ho
              cases ho
              exact e06.same _ _ q0, a6.e.fo, fun b hb => not_new e06 (st.sl.there b (inS b hb)) (st.nf b (inS b hb)), st5.nd⟩
        obtain ⟨S7, st7, _⟩ := Sta.wipe (st6.ext e7) (tIx tg1) (fun i hi => by rw [flT_len, φ0_len]; exact hv i (ht1 i hi))
        refine g_data tg1 ea1 (fun i hi => by rw [φ0_len, flT_len, φ0_len]; exact hv i (ht1 i hi)) st7 rd1 fun σ3 S3 st3 hs3 hw3 => ⟨by rw [hw3 (tIx tg1) (fun _ h => h), wipe_wipe], ρ2, F7, S3, st3, t1, et1, fun H8 F8 e8 => ?_⟩
        have a8 := (a6.on e7).on e8
        have k8 : Kept F5 F8 H5 H8 := k6.trans (.of (e7.trans e8).same (e7.trans e8).up)
        cases t1 with
        | false =>
          dsimp only
          rw [if_neg (by decide)]
          rw [if_neg (by decide)] at h2
          cases h2
          exact ⟨F8, acc1, hc12, a8, k8⟩
        | true =>
          dsimp only
          rw [if_pos rfl]
          rw [if_pos rfl] at h2
          obtain ⟨yd, hyd, rfl⟩ := map_some' h2
          refine ⟨ρ2, F8, S3, st3.ext e8, yd, hyd, fun yv H9 F9 e9 r9 => ?_⟩
          have hsn : ((acc ++ acc1) ++ [yd]).length ≤ SL := by
            simp only [snocO, List.length_append, List.length_singleton] at hlen hlen1 ⊢
            omega
          obtain ⟨vsa, z1, z2, a9⟩ := a8.snoc hA e9 r9 hsn
          refine ⟨vsa, z1, z2, F9, acc1 ++ [yd], hc12, by rw [← List.append_assoc]; exact a9, ⟨fun b hb o ho => ?_, fun b hb => e9.up b (k8.pp b hb)⟩⟩
          rw [upd_ne (fun z => a9.nf (by rw [← z]; exact e9.up b (k8.pp b hb)))]
          exact e9.same _ _ (k8.hp b hb o ho)
      · have ej : j = ys.length := by omega
        subst ej
        rw [List.take_length] at hc1
        rw [show collect (fin ρ1) ys = some o from h] at hc1
        cases hc1
        exact .inl ⟨w1.walk.stops Hc g1, F6, _, hc2, a6⟩
  · have e : i = ds.length := by omega
    subst e
    obtain ⟨F1, acc, hc, a⟩ := pv
    rw [List.take_length] at hc
    rw [show collectL fo ds = some res from hr] at hc
    cases hc
    refine .inl ⟨w.walk.stops H2 g, ?_⟩
    obtain ⟨vsa, T, g1, g2, g3, g4⟩ := a.ex
    refine q _ _ _ (e1.trans a.e) ⟨A :: T, ⟨A, vsa, T, rfl, g1, g2, rfl⟩, ?_, ?_⟩
    · rw [List.nodup_cons]
      exact ⟨fun h => (g4 A h).1 rfl, g3⟩
    · intro b hb
      rcases List.mem_cons.mp hb with rfl | hb
      · exact ⟨e1.same.free hA, a.nf⟩
      · exact ⟨e1.same.free (g4 b hb).2.1, (g4 b hb).2.2⟩
end Ev

/-! Expressions: what the small language says of them is so. -/
namespace Ev
open PySem PySem.Spec PyProof.Rows L2

theorem leR_pe {X : Cx} {K : PySem.W.Frag} {φ : List Nat} {e : Expr} {f : Sem1} {o : Option Res} {r : Res} (h : ∀ r', o = some r' → PE X e (RdE K φ r' f)) (hl : leR r o = true) : PE X e (RdE K φ r f) := by
  cases o with
  | none => cases hl
  | some r' => exact peW (h r' rfl) hl
theorem evEs_len (Φ : Fns) : ∀ (es : CEs) (ρ : List D) (ds : List D), evEs Φ es ρ = some ds → ds.length = lenEs es
  | .nil, ρ, ds, h => by
    unfold evEs at h
    cases h
    rfl
  | .cons e es, ρ, ds, h => by
    unfold evEs at h
    obtain ⟨d, _, h⟩ := bind_some h
    obtain ⟨r, hr, rfl⟩ := map_some' h
    simp [lenEs, evEs_len Φ es ρ r hr]
theorem agEs_len {c : AC} : ∀ (es : CEs) (xs : List Expr), agEs es c xs = true → xs.length = lenEs es
  | .nil, [], _ => rfl
  | .nil, _ :: _, h => by simp [agEs] at h
  | .cons _ _, [], h => by simp [agEs] at h
  | .cons e es, x :: xs, h => by
    unfold agEs at h
    rw [Bool.and_eq_true] at h
    simp [lenEs, agEs_len es xs h.2]
theorem agEs_plain {c : AC} : ∀ (es : CEs) (xs : List Expr), agEs es c xs = true → ∀ x ∈ xs, plainE x = true
  | .nil, [], _, x, h => by cases h
  | .nil, _ :: _, h, _, _ => by simp [agEs] at h
  | .cons _ _, [], _, x, h => by cases h
  | .cons e es, y :: xs, h, x, hx => by
    unfold agEs at h
    rw [Bool.and_eq_true] at h
    rcases List.mem_cons.mp hx with rfl | hx
    · exact agE_plain h.1
    · exact agEs_plain es xs h.2 x hx
theorem star_all {env : Env} : ∀ {xs : List Expr}, (∀ x ∈ xs, plainE x = true) → ∀ pos, (backTo pos (starEach xs env)).any (·.1) = false
  | [], _, _ => rfl
  | x :: xs, h, pos => by
    rw [plain_star (h x (.head _))]
    exact star_all (fun y hy => h y (.tail _ hy)) pos
theorem glB_of {X : Cx} {c : AC} {fr : List Nat} {Φ : Fns} {k : Nat} {x : Str} (g : GX X c fr Φ k) (h : glB c x = true) : Gl X x ∧ (x == ("__debug__" : Str)) = false := by
  unfold glB at h
  rw [Bool.and_eq_true, decide_eq_true_eq, Bool.not_eq_true'] at h
  refine ⟨?_, h.2⟩
  show X.env.scope.names.lookup x = _
  rw [g.sc]
  exact h.1
section
variable {fr : List Nat} {Φ : Fns} {k : Nat}
theorem hu64 {X : Cx} {c : AC} (g : GX X c fr Φ k) : X.A.units + 64 < cLine := g.room.units
theorem hu65 {X : Cx} {c : AC} (g : GX X c fr Φ k) : X.A.units + 65 < cLine := by have := g.room.un; omega
theorem cmp_op {X : Cx} {c : AC} (g : GX X c fr Φ k) {o : Cop} {op : CmpOp} (h : copM o op = true) : OpR X (compareOp op) (rC X.K o) := by
  cases o <;> cases op <;> first
    | (simp [copM] at h; done)
    | exact op_eqX (hu64 g)
    | exact op_neX (hu64 g)
    | exact op_ltX
    | exact op_leX
    | exact op_gtX
    | exact op_geX
    | exact op_inX (hu65 g)
    | exact op_ninX (hu65 g)
theorem r_call {X : Cx} {c : AC} (g : GX X c fr Φ k) {φ : List Nat} {fs : List D → Option (List D)} {x : Str} {y : Expr} {ys : List Expr} {p pos : Pos} {j rk : Nat} (hx : c.fs[j]? = some x) (hr : fr[j]? = some rk) (hg : glB c x = true) (hp : ∀ z ∈ y :: ys, plainE z = true) :
    (PA X (y :: ys) (RdA X.K φ (.md 0) fs) → PE X (.Call (.Name x p) (y :: ys) [] pos) (RdE X.K φ (.own rk) fun ρ => (fs ρ).bind fun ds => (Φ[j]?).bind fun f => f ds)) ∧
    (PA X (y :: ys) (RdA X.K φ .bor fs) → PE X (.Call (.Name x p) (y :: ys) [] pos) (RdE X.K φ .bor fun ρ => (fs ρ).bind fun ds => (Φ[j]?).bind fun f => f ds)) := by
  obtain ⟨f, hf, ⟨n, a, fd, ps, F, hm, hk, hb, hs⟩⟩ := g.fns j x rk hx hr
  obtain ⟨h1, h2⟩ := glB_of g hg
  rw [hf]
  refine ⟨fun ha => ?_, fun ha => ?_⟩
  · exact peI (pe_call F g.room h1 hm hk hb .nil pass0 ha h2 (plain_star (hp y (.head _)) _ _) (star_all (fun z hz => hp z (.tail _ hz)) _)) fun σ H Q h => tcall hs h
  · exact peI (pe_call F g.room h1 hm hk hb .nil pass0 ha h2 (plain_star (hp y (.head _)) _ _) (star_all (fun z hz => hp z (.tail _ hz)) _)) fun σ H Q h => tcallB hs h
def biRes (f : BI) (m0 m1 : Bool) : Res := match f with
  | .tuple => if m0 then .own 0 else .bor
  | .tupleL => if m1 then .own 0 else .bor
  | .list => if m1 then .own 1 else .bor
  | .sorted => .own 1
  | .minG => if m1 then .md 0 else .bor
  | .maxG => if m1 then .md 0 else .bor
  | _ => .own 0
theorem r_bi {X : Cx} {c : AC} (g : GX X c fr Φ k) {φ : List Nat} {fs : List D → Option (List D)} {f : BI} {y : Expr} {ys : List Expr} {p pos : Pos} (hg : glB c (biN f) = true) (hp : ∀ z ∈ y :: ys, plainE z = true) {r : Res}
    (hr : ∀ r', PA X (y :: ys) (RdA X.K φ r' fs) → PA X (y :: ys) (RdA X.K φ r' fs)) (hmd0 : Bool) (hmd1 : Bool) (h0 : hmd0 = true → PA X (y :: ys) (RdA X.K φ (.md 0) fs)) (h1 : hmd1 = true → PA X (y :: ys) (RdA X.K φ (.md 1) fs)) (hb : PA X (y :: ys) (RdA X.K φ .bor fs))
    (hres : r = biRes f hmd0 hmd1) (hsrt : f = .sorted → hmd1 = true) : PE X (.Call (.Name (biN f) p) (y :: ys) [] pos) (RdE X.K φ r fun ρ => (fs ρ).bind fun ds => biD f ds) := by
  have s1 := plain_star (hp y (.head _)) ys X.env
  have s2 := star_all (env := X.env) (fun z hz => hp z (.tail _ hz)) pos
  obtain ⟨hgl, hdb⟩ := glB_of g hg
  cases f
  case len =>
    subst hres
    exact r_biS (fun ha => pe_callB bi_len hgl (g.blt _ (by simp [bltNames, biN])) (by decide +kernel) ha (by decide) hdb s1 s2) (fun _ _ => sv_len) hb
  case sum =>
    subst hres
    exact r_biS (fun ha => pe_callB (bi_sum g.calm) hgl (g.blt _ (by simp [bltNames, biN])) (by decide +kernel) ha (by decide) hdb s1 s2) (fun _ _ => sv_sum) hb
  case any =>
    subst hres
    exact r_biS (fun ha => pe_callB (bi_any g.calm) hgl (g.blt _ (by simp [bltNames, biN])) (by decide +kernel) ha (by decide) hdb s1 s2) (fun _ _ => sv_any) hb
  case all =>
    subst hres
    exact r_biS (fun ha => pe_callB (bi_all g.calm) hgl (g.blt _ (by simp [bltNames, biN])) (by decide +kernel) ha (by decide) hdb s1 s2) (fun _ _ => sv_all) hb
  case abs =>
    subst hres
    exact r_biS (fun ha => pe_callB bi_abs hgl (g.blt _ (by simp [bltNames, biN])) (by decide +kernel) ha (by decide) hdb s1 s2) (fun _ _ => sv_abs) hb
  case int =>
    subst hres
    exact r_biS (fun ha => pe_callTy bi_int hgl (g.blt _ (by simp [bltNames, biN])) (by decide +kernel) ha (by decide) hdb s1 s2) (fun _ _ => sv_int) hb
  case min =>
    subst hres
    exact r_biS (fun ha => pe_callB (bi_min g.calm) hgl (g.blt _ (by simp [bltNames, biN])) (by decide +kernel) ha (by decide) hdb s1 s2) (fun _ _ => sv_min) hb
  case max =>
    subst hres
    exact r_biS (fun ha => pe_callB (bi_max g.calm) hgl (g.blt _ (by simp [bltNames, biN])) (by decide +kernel) ha (by decide) hdb s1 s2) (fun _ _ => sv_max) hb
  case minG =>
    subst hres
    cases hmd1 with
    | true => exact r_minG (fun ha => pe_callB (bi_minG g.calm (hu64 g)) hgl (g.blt _ (by simp [bltNames, biN])) (by decide +kernel) ha (by decide) hdb s1 s2) (h1 rfl)
    | false => exact r_minGB (fun ha => pe_callB (bi_minG g.calm (hu64 g)) hgl (g.blt _ (by simp [bltNames, biN])) (by decide +kernel) ha (by decide) hdb s1 s2) hb
  case maxG =>
    subst hres
    cases hmd1 with
    | true => exact r_maxG (fun ha => pe_callB (bi_maxG g.calm (hu64 g)) hgl (g.blt _ (by simp [bltNames, biN])) (by decide +kernel) ha (by decide) hdb s1 s2) (h1 rfl)
    | false => exact r_maxGB (fun ha => pe_callB (bi_maxG g.calm (hu64 g)) hgl (g.blt _ (by simp [bltNames, biN])) (by decide +kernel) ha (by decide) hdb s1 s2) hb
  case tuple =>
    subst hres
    cases hmd0 with
    | true => exact r_tuple (fun ha => pe_callTy call_tuple_of hgl (g.blt _ (by simp [bltNames, biN])) (by decide +kernel) ha (by decide) hdb s1 s2) (h0 rfl)
    | false => exact r_tupleB (fun ha => pe_callTy call_tuple_of hgl (g.blt _ (by simp [bltNames, biN])) (by decide +kernel) ha (by decide) hdb s1 s2) hb
  case tupleL =>
    subst hres
    cases hmd1 with
    | true => exact r_tupleL (fun ha => pe_callTy call_tuple_of hgl (g.blt _ (by simp [bltNames, biN])) (by decide +kernel) ha (by decide) hdb s1 s2) (h1 rfl)
    | false => exact r_tupleLB (fun ha => pe_callTy call_tuple_of hgl (g.blt _ (by simp [bltNames, biN])) (by decide +kernel) ha (by decide) hdb s1 s2) hb
  case list =>
    subst hres
    cases hmd1 with
    | true => exact r_list (fun ha => pe_callTy call_list_of hgl (g.blt _ (by simp [bltNames, biN])) (by decide +kernel) ha (by decide) hdb s1 s2) (h1 rfl)
    | false => exact r_listB (fun ha => pe_callTy call_list_of hgl (g.blt _ (by simp [bltNames, biN])) (by decide +kernel) ha (by decide) hdb s1 s2) hb
  case sorted =>
    subst hres
    have := hsrt rfl
    exact r_sorted (fun ha => pe_callB (bi_sorted (hu64 g)) hgl (g.blt _ (by simp [bltNames, biN])) (by decide +kernel) ha (by decide) hdb s1 s2) (h1 this)
end
end Ev

namespace Ev
open PySem PySem.Spec PyProof.Rows L2

theorem ite_some {c : Prop} [Decidable c] {α : Type} {a b : Option α} {r : α} (h : (if c then a else b) = some r) : (c ∧ a = some r) ∨ (¬ c ∧ b = some r) := by
  by_cases hc : c
  · rw [if_pos hc] at h; exact .inl ⟨hc, h⟩
  · rw [if_neg hc] at h; exact .inr ⟨hc, h⟩
theorem arith_of {o : Bop} {op : Operator} (h : bopM o op = true) (h1 : ∀ k, o ≠ .catL k) (h2 : o ≠ .catT) (h3 : o ≠ .repL) (h4 : o ≠ .repT) : (o = .add ∨ o = .sub ∨ o = .mul ∨ o = .fdiv ∨ o = .mod ∨ o = .pow) ∧ ∀ X : Cx, OpR X (binaryOp op) (rA o) := by
  cases o <;> cases op <;> first
    | (simp [bopM] at h; done)
    | exact absurd rfl (h1 _)
    | exact absurd rfl h2
    | exact absurd rfl h3
    | exact absurd rfl h4
    | exact ⟨by simp, fun X => op_addX⟩
    | exact ⟨by simp, fun X => op_subX⟩
    | exact ⟨by simp, fun X => op_mulX⟩
    | exact ⟨by simp, fun X => op_fdivX⟩
    | exact ⟨by simp, fun X => op_modX⟩
    | exact ⟨by simp, fun X => op_powX⟩
section
variable {fr : List Nat} {Φ : Fns} {k : Nat}
theorem r_biB {c : AC} {X : Cx} (g : GX X c fr Φ k) {φ : List Nat} {fs : List D → Option (List D)} {f : BI} {y : Expr} {ys : List Expr} {p pos : Pos} (hg : glB c (biN f) = true) (hp : ∀ z ∈ y :: ys, plainE z = true) (hb : PA X (y :: ys) (RdA X.K φ .bor fs)) (hf : f ≠ .sorted) :
    PE X (.Call (.Name (biN f) p) (y :: ys) [] pos) (RdE X.K φ .bor fun ρ => (fs ρ).bind fun ds => biD f ds) := by
  have go : ∀ r : Res, r.le .bor = true → r = biRes f false false → PE X (.Call (.Name (biN f) p) (y :: ys) [] pos) (RdE X.K φ .bor fun ρ => (fs ρ).bind fun ds => biD f ds) := fun r h1 h2 =>
    peW (r_bi g hg hp (fun _ h => h) false false (fun h => nomatch h) (fun h => nomatch h) hb h2 (fun h => absurd h hf)) h1
  cases f
  case sorted => exact absurd rfl hf
  case tuple => exact go .bor rfl rfl
  case tupleL => exact go .bor rfl rfl
  case list => exact go .bor rfl rfl
  case minG => exact go .bor rfl rfl
  case maxG => exact go .bor rfl rfl
  all_goals exact go (.own 0) rfl rfl
theorem r_isiX {t : Ty} {c : AC} {X : Cx} {y : Expr} {p p2 pos : Pos} {φ : List Nat} {fa : Sem1} (g : GX X c fr Φ k) (h2 : glB c ("isinstance" : Str) = true) (h5 : glB c (tyN t) = true) (hy : plainE y = true) (ha : PE X y (RdE X.K φ .bor fa)) :
    PE X (.Call (.Name ("isinstance" : Str) p) [y, .Name (tyN t) p2] [] pos) (RdE X.K φ (.own 0) fun ρ => (fa ρ).bind fun x => (isiD t x).map .bl) := by
  obtain ⟨q1, q2⟩ := glB_of g h2
  obtain ⟨q3, q4⟩ := glB_of g h5
  refine r_isi (t := t) ha fun {ta} p1 => ?_
  refine pe_callB call_isi q1 (g.blt _ (by simp [bltNames])) (by decide +kernel) (pa_cons p1 (pa_cons ?_ pa_nil (by rfl)) (plain_star hy _ _)) (by decide) q2 (plain_star hy _ _) (by rfl)
  cases t <;> exact pe_bltn q3 (g.blt _ (by simp [bltNames, tyN])) (by decide +kernel) rfl (by decide) q4
theorem sVar {i : Nat} {c : AC} {X : Cx} {e : Expr} {φ : List Nat} (g : GX X c fr Φ k) (ha : agE (.var i) c e = true) {r : Res} (hb : best fr φ (.var i) = some r) : PE X e (RdE X.K φ r (evE Φ (.var i))) := by
  unfold agE at ha
  split at ha
  · rename_i x pos
    simp only [Bool.and_eq_true, decide_eq_true_eq] at ha
    obtain ⟨⟨h1, h2⟩, h3⟩ := ha
    unfold okN at h3
    simp only [Bool.and_eq_true, Bool.not_eq_true'] at h3
    have hv : Vis X.env.scope x := by
      unfold visB at h2
      unfold Vis
      rw [g.sc]
      split at h2
      · rename_i q; exact .inl q
      · rename_i q; exact .inr (.inl q)
      · rename_i q; exact .inr (.inr q)
      · cases h2
    have hp := pe_var (X := X) (pos := pos) (show X.N[i]? = some x by rw [g.N]; exact h1) hv h3.1 h3.2
    unfold best at hb
    split at hb
    · rename_i hk
      cases hb
      exact r_var hp hk
    · rename_i q hk
      cases hb
      have := r_var (K := X.K) hp hk
      rw [if_neg (by rintro rfl; simp_all)] at this
      exact this
    · cases hb
  · cases ha
theorem agI_plain {it : CI} {c : AC} {gt ie : Expr} (h3 : agI it c gt ie = true) : plainE ie = true := by
  cases it
  · unfold agI at h3; exact agE_plain h3
  all_goals (cases ie <;> first | rfl | (exfalso; cases gt <;> simp [agI] at h3))
mutual
theorem sE : ∀ (ce : CE) {c : AC} {X : Cx} {e : Expr} {φ : List Nat}, GX X c fr Φ k → agE ce c e = true → ∀ {r : Res}, best fr φ ce = some r → PE X e (RdE X.K φ r (evE Φ ce))
  | .int i, c, X, e, φ, g, ha, r, hb => by
    unfold agE at ha
    split at ha
    · rw [decide_eq_true_eq] at ha
      subst ha
      unfold best at hb
      cases hb
      exact r_const pe_int rfl
    · cases ha
  | .bl b, c, X, e, φ, g, ha, r, hb => by
    unfold agE at ha
    split at ha
    · rw [beq_iff_eq] at ha
      subst ha
      unfold best at hb
      cases hb
      exact r_const pe_bl rfl
    · cases ha
  | .non, c, X, e, φ, g, ha, r, hb => by
    unfold agE at ha
    split at ha
    · unfold best at hb
      cases hb
      exact r_const pe_non rfl
    · cases ha
  | .str s, c, X, e, φ, g, ha, r, hb => by
    unfold agE at ha
    split at ha
    · rw [decide_eq_true_eq] at ha
      subst ha
      unfold best at hb
      cases hb
      exact r_const pe_str rfl
    · cases ha
  | .var i, c, X, e, φ, g, ha, r, hb => sVar g ha hb
  | .tup es, c, X, e, φ, g, ha, r, hb => by
    unfold agE at ha
    split at ha
    · unfold best at hb
      rcases ite_some hb with ⟨hl, hb⟩ | ⟨_, hb⟩
      · have hL : ∀ ρ ds, evEs Φ es ρ = some ds → ds.length ≤ SL := fun ρ ds h => by rw [evEs_len Φ es ρ ds h]; show _ ≤ 16777216; omega
        rcases ite_some hb with ⟨hm, hb⟩ | ⟨_, hb⟩
        · cases hb
          exact r_tup (sEs es g ha hm) hL
        · rcases ite_some hb with ⟨hm, hb⟩ | ⟨_, hb⟩
          · cases hb
            exact r_tupB (sEs es g ha hm) hL
          · cases hb
      · cases hb
    · cases ha
  | .lst j es, c, X, e, φ, g, ha, r, hb => by
    unfold agE at ha
    split at ha
    · unfold best at hb
      rcases ite_some hb with ⟨hl, hb⟩ | ⟨_, hb⟩
      · have hL : ∀ ρ ds, evEs Φ es ρ = some ds → ds.length ≤ SL := fun ρ ds h => by rw [evEs_len Φ es ρ ds h]; show _ ≤ 16777216; omega
        rcases ite_some hb with ⟨hm, hb⟩ | ⟨_, hb⟩
        · cases hb
          exact r_lst (sEs es g ha hm) hL
        · rcases ite_some hb with ⟨hm, hb⟩ | ⟨_, hb⟩
          · cases hb
            exact r_lstB (sEs es g ha hm) hL
          · cases hb
      · cases hb
    · cases ha
  | .bin op a b, c, X, e, φ, g, ha, r, hb => by
    unfold agE at ha
    split at ha
    · rename_i x o y pos
      simp only [Bool.and_eq_true] at ha
      obtain ⟨⟨h1, h2⟩, h3⟩ := ha
      have A : ∀ {r}, leR r (best fr φ a) = true → PE X x (RdE X.K φ r (evE Φ a)) := fun h => leR_pe (fun r' h' => sE a g h2 h') h
      have B : ∀ {r}, leR r (best fr φ b) = true → PE X y (RdE X.K φ r (evE Φ b)) := fun h => leR_pe (fun r' h' => sE b g h3 h') h
      unfold best at hb
      split at hb
      · have ho : o = .Add := by cases o <;> simp [bopM] at h1 <;> rfl
        subst ho
        rcases ite_some hb with ⟨hm, hb⟩ | ⟨_, hb⟩
        · rw [Bool.and_eq_true] at hm
          cases hb
          exact r_catL (A hm.1) (B hm.2)
        · rcases ite_some hb with ⟨hm, hb⟩ | ⟨_, hb⟩
          · rw [Bool.and_eq_true] at hm
            cases hb
            exact r_catLB (A hm.1) (B hm.2)
          · cases hb
      · have ho : o = .Add := by cases o <;> simp [bopM] at h1 <;> rfl
        subst ho
        rcases ite_some hb with ⟨hm, hb⟩ | ⟨_, hb⟩
        · rw [Bool.and_eq_true] at hm
          cases hb
          exact r_catLO (A hm.1) (B hm.2)
        · cases hb
      · have ho : o = .Add := by cases o <;> simp [bopM] at h1 <;> rfl
        subst ho
        rcases ite_some hb with ⟨hm, hb⟩ | ⟨_, hb⟩
        · rw [Bool.and_eq_true] at hm
          cases hb
          exact r_catT (A hm.1) (B hm.2)
        · rcases ite_some hb with ⟨hm, hb⟩ | ⟨_, hb⟩
          · rw [Bool.and_eq_true] at hm
            cases hb
            exact r_catTB (A hm.1) (B hm.2)
          · cases hb
      · have ho : o = .Mult := by cases o <;> simp [bopM] at h1 <;> rfl
        subst ho
        rcases ite_some hb with ⟨hm, hb⟩ | ⟨_, hb⟩
        · rw [Bool.and_eq_true] at hm
          cases hb
          exact r_repL (A hm.1) (B hm.2)
        · rcases ite_some hb with ⟨hm, hb⟩ | ⟨_, hb⟩
          · rw [Bool.and_eq_true] at hm
            cases hb
            exact r_repLB (A hm.1) (B hm.2)
          · cases hb
      · have ho : o = .Mult := by cases o <;> simp [bopM] at h1 <;> rfl
        subst ho
        rcases ite_some hb with ⟨hm, hb⟩ | ⟨_, hb⟩
        · rw [Bool.and_eq_true] at hm
          cases hb
          exact r_repT (A hm.1) (B hm.2)
        · rcases ite_some hb with ⟨hm, hb⟩ | ⟨_, hb⟩
          · rw [Bool.and_eq_true] at hm
            cases hb
            exact r_repTB (A hm.1) (B hm.2)
          · cases hb
      · rename_i n1 n2 n3 n4 n5
        rcases ite_some hb with ⟨hm, hb⟩ | ⟨_, hb⟩
        · rw [Bool.and_eq_true] at hm
          cases hb
          obtain ⟨q1, q2⟩ := arith_of h1 (fun j z => by cases j with | zero => exact n1 z | succ j => exact n2 j z) n3 n4 n5
          exact r_arith q1 (q2 X) (A hm.1) (B hm.2)
        · cases hb
    · cases ha
  | .neg a, c, X, e, φ, g, ha, r, hb => by
    unfold agE at ha
    split at ha
    · unfold best at hb
      rcases ite_some hb with ⟨hm, hb⟩ | ⟨_, hb⟩
      · cases hb
        exact r_neg (leR_pe (fun r' h' => sE a g ha h') hm)
      · cases hb
    · cases ha
  | .cmp op a b, c, X, e, φ, g, ha, r, hb => by
    unfold agE at ha
    split at ha
    · simp only [Bool.and_eq_true] at ha
      obtain ⟨⟨h1, h2⟩, h3⟩ := ha
      unfold best at hb
      rcases ite_some hb with ⟨hm, hb⟩ | ⟨_, hb⟩
      · rw [Bool.and_eq_true] at hm
        cases hb
        exact r_cmp (cmp_op g h1) (plain_mark (agE_plain h3) _) (leR_pe (fun r' h' => sE a g h2 h') hm.1) (leR_pe (fun r' h' => sE b g h3 h') hm.2)
      · cases hb
    · cases ha
  | .chn op op' a b d, c, X, e, φ, g, ha, r, hb => by
    unfold agE at ha
    split at ha
    · simp only [Bool.and_eq_true] at ha
      obtain ⟨⟨⟨⟨h1, h2⟩, h3⟩, h4⟩, h5⟩ := ha
      unfold best at hb
      rcases ite_some hb with ⟨hm, hb⟩ | ⟨_, hb⟩
      · simp only [Bool.and_eq_true] at hm
        cases hb
        exact r_chain (cmp_op g h1) (cmp_op g h2) (leR_pe (fun r' h' => sE a g h3 h') hm.1.1) (leR_pe (fun r' h' => sE b g h4 h') hm.1.2) (leR_pe (fun r' h' => sE d g h5 h') hm.2)
          (fun p1 p2 p3 => pe_chain (cmp_op g h1) (cmp_op g h2) p1 p2 p3 (plain_mark (agE_plain h5) _))
      · cases hb
    · cases ha
  | .isN a, c, X, e, φ, g, ha, r, hb => by
    unfold agE at ha
    split at ha
    · unfold best at hb
      rcases ite_some hb with ⟨hm, hb⟩ | ⟨_, hb⟩
      · cases hb
        exact r_isN (leR_pe (fun r' h' => sE a g ha h') hm)
      · cases hb
    · cases ha
  | .noN a, c, X, e, φ, g, ha, r, hb => by
    unfold agE at ha
    split at ha
    · unfold best at hb
      rcases ite_some hb with ⟨hm, hb⟩ | ⟨_, hb⟩
      · cases hb
        exact r_noN (leR_pe (fun r' h' => sE a g ha h') hm)
      · cases hb
    · cases ha
  | .and a b, c, X, e, φ, g, ha, r, hb => by
    unfold agE at ha
    split at ha
    · rename_i x y rr p
      rw [Bool.and_eq_true] at ha
      obtain ⟨h1, h2⟩ := ha
      unfold best at hb
      rcases ite_some hb with ⟨hm, hb⟩ | ⟨_, hb⟩
      · have A := leR_pe (fun r' h' => sE a g h1 h') hm
        have tail : ∀ {r}, leR r (best fr φ b) = true → PE X (.BoolOp .And (y :: rr) p) (RdE X.K φ r (evE Φ b)) := fun h => by
          split at h2
          · exact pe_one (leR_pe (fun r' h' => sE b g h2 h') h)
          · exact leR_pe (fun r' h' => sE b g h2 h') h
        rcases ite_some hb with ⟨hn, hb⟩ | ⟨_, hb⟩
        · cases hb
          exact r_and (.inl rfl) A (tail hn) (fun p1 p2 => pe_and p1 p2)
        · rcases ite_some hb with ⟨hn, hb⟩ | ⟨_, hb⟩
          · cases hb
            exact r_and (.inr rfl) A (tail hn) (fun p1 p2 => pe_and p1 p2)
          · cases hb
      · cases hb
    · cases ha
  | .or a b, c, X, e, φ, g, ha, r, hb => by
    unfold agE at ha
    split at ha
    · rename_i x y rr p
      rw [Bool.and_eq_true] at ha
      obtain ⟨h1, h2⟩ := ha
      unfold best at hb
      rcases ite_some hb with ⟨hm, hb⟩ | ⟨_, hb⟩
      · have A := leR_pe (fun r' h' => sE a g h1 h') hm
        have tail : ∀ {r}, leR r (best fr φ b) = true → PE X (.BoolOp .Or (y :: rr) p) (RdE X.K φ r (evE Φ b)) := fun h => by
          split at h2
          · exact pe_one (leR_pe (fun r' h' => sE b g h2 h') h)
          · exact leR_pe (fun r' h' => sE b g h2 h') h
        rcases ite_some hb with ⟨hn, hb⟩ | ⟨_, hb⟩
        · cases hb
          exact r_or (.inl rfl) A (tail hn) (fun p1 p2 => pe_or p1 p2)
        · rcases ite_some hb with ⟨hn, hb⟩ | ⟨_, hb⟩
          · cases hb
            exact r_or (.inr rfl) A (tail hn) (fun p1 p2 => pe_or p1 p2)
          · cases hb
      · cases hb
    · cases ha
  | .not a, c, X, e, φ, g, ha, r, hb => by
    unfold agE at ha
    split at ha
    · unfold best at hb
      rcases ite_some hb with ⟨hm, hb⟩ | ⟨_, hb⟩
      · cases hb
        exact r_not (leR_pe (fun r' h' => sE a g ha h') hm)
      · cases hb
    · cases ha
  | .ifx t a b, c, X, e, φ, g, ha, r, hb => by
    unfold agE at ha
    split at ha
    · simp only [Bool.and_eq_true] at ha
      obtain ⟨⟨h1, h2⟩, h3⟩ := ha
      unfold best at hb
      rcases ite_some hb with ⟨hm, hb⟩ | ⟨_, hb⟩
      · have T := (sT t g h1 hm).1
        have A : ∀ {r}, leR r (best fr φ a) = true → PE X _ (RdE X.K φ r (evE Φ a)) := fun h => leR_pe (fun r' h' => sE a g h2 h') h
        have B : ∀ {r}, leR r (best fr φ b) = true → PE X _ (RdE X.K φ r (evE Φ b)) := fun h => leR_pe (fun r' h' => sE b g h3 h') h
        rcases ite_some hb with ⟨hn, hb⟩ | ⟨_, hb⟩
        · rw [Bool.and_eq_true] at hn
          rcases ite_some hb with ⟨he, hb⟩ | ⟨_, hb⟩
          · rw [beq_iff_eq] at he
            exact r_ifx T (sE a g h2 hb) (sE b g h3 (he ▸ hb))
          · cases hb
            exact r_ifx T (A hn.1) (B hn.2)
        · rcases ite_some hb with ⟨hn, hb⟩ | ⟨_, hb⟩
          · rw [Bool.and_eq_true] at hn
            cases hb
            exact r_ifx T (A hn.1) (B hn.2)
          · rcases ite_some hb with ⟨hn, hb⟩ | ⟨_, hb⟩
            · rw [Bool.and_eq_true] at hn
              cases hb
              exact r_ifx T (A hn.1) (B hn.2)
            · cases hb
      · cases hb
    · cases ha
  | .idx a i, c, X, e, φ, g, ha, r, hb => by
    unfold agE at ha
    split at ha
    · rw [Bool.and_eq_true] at ha
      unfold best at hb
      rcases ite_some hb with ⟨hm, hb⟩ | ⟨_, hb⟩
      · have I := leR_pe (fun r' h' => sE i g ha.2 h') hm
        rcases ite_some hb with ⟨hn, hb⟩ | ⟨_, hb⟩
        · cases hb
          exact r_idx (leR_pe (fun r' h' => sE a g ha.1 h') hn) I (agE_plain ha.2)
        · split at hb
          · rename_i m hm'
            cases hb
            exact r_idx (sE a g ha.1 hm') I (agE_plain ha.2)
          · rename_i hm'
            cases hb
            exact r_idxB (sE a g ha.1 hm') I (agE_plain ha.2)
          · cases hb
      · cases hb
    · cases ha
  | .slc t a lo hi, c, X, e, φ, g, ha, r, hb => by
    unfold agE at ha
    split at ha
    · simp only [Bool.and_eq_true] at ha
      obtain ⟨⟨h1, h2⟩, h3⟩ := ha
      unfold best at hb
      rcases ite_some hb with ⟨hm, hb⟩ | ⟨_, hb⟩
      · rw [Bool.and_eq_true] at hm
        have L := sO lo g h2 hm.1
        have U := sO hi g h3 hm.2
        have A : ∀ {r}, leR r (best fr φ a) = true → PE X _ (RdE X.K φ r (evE Φ a)) := fun h => leR_pe (fun r' h' => sE a g h1 h') h
        cases t with
        | true =>
          rw [if_pos rfl] at hb
          rcases ite_some hb with ⟨hn, hb⟩ | ⟨_, hb⟩
          · cases hb
            exact r_slcT (A hn) L U
          · rcases ite_some hb with ⟨hn, hb⟩ | ⟨_, hb⟩
            · cases hb
              exact r_slcTB (A hn) L U
            · cases hb
        | false =>
          rw [if_neg (by decide)] at hb
          rcases ite_some hb with ⟨hn, hb⟩ | ⟨_, hb⟩
          · cases hb
            exact r_slcL (A hn) L U
          · rcases ite_some hb with ⟨hn, hb⟩ | ⟨_, hb⟩
            · cases hb
              exact r_slcLB (A hn) L U
            · cases hb
      · cases hb
    · cases ha
  | .rev a, c, X, e, φ, g, ha, r, hb => by
    unfold agE at ha
    split at ha
    · unfold best at hb
      rcases ite_some hb with ⟨hm, hb⟩ | ⟨_, hb⟩
      · cases hb
        exact r_rev (leR_pe (fun r' h' => sE a g ha h') hm)
      · rcases ite_some hb with ⟨hm, hb⟩ | ⟨_, hb⟩
        · cases hb
          exact r_revB (leR_pe (fun r' h' => sE a g ha h') hm)
        · cases hb
    · cases ha
  | .call j es, c, X, e, φ, g, ha, r, hb => by
    unfold agE at ha
    split at ha
    · simp only [Bool.and_eq_true, decide_eq_true_eq] at ha
      obtain ⟨⟨h1, h2⟩, h3⟩ := ha
      unfold best at hb
      split at hb
      · rename_i rk hk
        rcases ite_some hb with ⟨hm, hb⟩ | ⟨_, hb⟩
        · cases hb
          exact (r_call (φ := φ) (fs := evEs Φ es) g h1 hk h2 (agEs_plain es _ h3)).1 (sEs es g h3 hm)
        · rcases ite_some hb with ⟨hm, hb⟩ | ⟨_, hb⟩
          · cases hb
            exact (r_call (φ := φ) (fs := evEs Φ es) g h1 hk h2 (agEs_plain es _ h3)).2 (sEs es g h3 hm)
          · cases hb
      · cases hb
    · cases ha
  | .bi f es, c, X, e, φ, g, ha, r, hb => by
    unfold agE at ha
    split at ha
    · simp only [Bool.and_eq_true, decide_eq_true_eq] at ha
      obtain ⟨⟨h1, h2⟩, h3⟩ := ha
      subst h1
      have P := agEs_plain es _ h3
      have AR : ∀ {r}, bests fr φ r es = true → PA X _ (RdA X.K φ r (evEs Φ es)) := fun h => sEs es g h3 h
      unfold best at hb
      split at hb
      · rcases ite_some hb with ⟨hm, hb⟩ | ⟨_, hb⟩
        · cases hb
          exact r_bi g h2 P (fun _ h => h) true false (fun _ => AR hm) (fun h => nomatch h) (a_weak (AR hm) (.inl ⟨rfl, rfl⟩)) rfl (fun h => nomatch h)
        · rcases ite_some hb with ⟨hm, hb⟩ | ⟨_, hb⟩
          · cases hb
            exact r_bi g h2 P (fun _ h => h) false false (fun h => nomatch h) (fun h => nomatch h) (AR hm) rfl (fun h => nomatch h)
          · cases hb
      · rcases ite_some hb with ⟨hm, hb⟩ | ⟨_, hb⟩
        · cases hb
          exact r_bi g h2 P (fun _ h => h) false true (fun h => nomatch h) (fun _ => AR hm) (a_weak (AR hm) (.inr (.inl ⟨rfl, rfl⟩))) rfl (fun h => nomatch h)
        · rcases ite_some hb with ⟨hm, hb⟩ | ⟨_, hb⟩
          · cases hb
            exact r_bi g h2 P (fun _ h => h) false false (fun h => nomatch h) (fun h => nomatch h) (AR hm) rfl (fun h => nomatch h)
          · cases hb
      · rcases ite_some hb with ⟨hm, hb⟩ | ⟨_, hb⟩
        · cases hb
          exact r_bi g h2 P (fun _ h => h) false true (fun h => nomatch h) (fun _ => AR hm) (a_weak (AR hm) (.inr (.inl ⟨rfl, rfl⟩))) rfl (fun h => nomatch h)
        · rcases ite_some hb with ⟨hm, hb⟩ | ⟨_, hb⟩
          · cases hb
            exact r_bi g h2 P (fun _ h => h) false false (fun h => nomatch h) (fun h => nomatch h) (AR hm) rfl (fun h => nomatch h)
          · cases hb
      · rcases ite_some hb with ⟨hm, hb⟩ | ⟨_, hb⟩
        · cases hb
          exact r_bi g h2 P (fun _ h => h) false true (fun h => nomatch h) (fun _ => AR hm) (a_weak (AR hm) (.inr (.inl ⟨rfl, rfl⟩))) rfl (fun _ => rfl)
        · cases hb
      · rcases ite_some hb with ⟨hm, hb⟩ | ⟨_, hb⟩
        · cases hb
          exact r_bi g h2 P (fun _ h => h) false true (fun h => nomatch h) (fun _ => AR hm) (a_weak (AR hm) (.inr (.inl ⟨rfl, rfl⟩))) rfl (fun h => nomatch h)
        · rcases ite_some hb with ⟨hm, hb⟩ | ⟨_, hb⟩
          · cases hb
            exact r_bi g h2 P (fun _ h => h) false false (fun h => nomatch h) (fun h => nomatch h) (AR hm) rfl (fun h => nomatch h)
          · cases hb
      · rcases ite_some hb with ⟨hm, hb⟩ | ⟨_, hb⟩
        · cases hb
          exact r_bi g h2 P (fun _ h => h) false true (fun h => nomatch h) (fun _ => AR hm) (a_weak (AR hm) (.inr (.inl ⟨rfl, rfl⟩))) rfl (fun h => nomatch h)
        · rcases ite_some hb with ⟨hm, hb⟩ | ⟨_, hb⟩
          · cases hb
            exact r_bi g h2 P (fun _ h => h) false false (fun h => nomatch h) (fun h => nomatch h) (AR hm) rfl (fun h => nomatch h)
          · cases hb
      · rename_i n1 n2 n3 n4 n5 n6
        rcases ite_some hb with ⟨hm, hb⟩ | ⟨_, hb⟩
        · cases hb
          refine r_bi g h2 P (fun _ h => h) false false (fun h => nomatch h) (fun h => nomatch h) (AR hm) ?_ (fun h => (n4 h).elim)
          cases f <;> first | rfl | exact absurd rfl n1 | exact absurd rfl n2 | exact absurd rfl n3 | exact absurd rfl n4 | exact absurd rfl n5 | exact absurd rfl n6
        · cases hb
    · cases ha
  | .sst a, c, X, e, φ, g, ha, r, hb => by
    unfold agE at ha
    split at ha
    · simp only [Bool.and_eq_true, decide_eq_true_eq] at ha
      obtain ⟨⟨⟨⟨h1, h2⟩, h3⟩, h4⟩, h5⟩ := ha
      subst h1
      subst h3
      unfold best at hb
      obtain ⟨q3, q4⟩ := glB_of g h4
      obtain ⟨q1, q2⟩ := glB_of g h2
      rcases ite_some hb with ⟨hm, hb⟩ | ⟨_, hb⟩
      · cases hb
        exact r_sst g.calm q1 (g.blt "sorted" (by simp [bltNames])) q3 (g.blt "set" (by simp [bltNames])) (agE_plain h5) (leR_pe (fun r' h' => sE a g h5 h') hm)
      · cases hb
    · cases ha
  | .lzp a b, c, X, e, φ, g, ha, r, hb => by
    unfold agE at ha
    split at ha
    · simp only [Bool.and_eq_true, decide_eq_true_eq] at ha
      obtain ⟨⟨⟨⟨⟨h1, h2⟩, h3⟩, h4⟩, h5⟩, h6⟩ := ha
      subst h1
      subst h3
      unfold best at hb
      obtain ⟨q3, q4⟩ := glB_of g h4
      obtain ⟨q1, q2⟩ := glB_of g h2
      rcases ite_some hb with ⟨hm, hb⟩ | ⟨_, hb⟩
      · cases hb
        rw [Bool.and_eq_true] at hm
        exact r_lzp g.calm q1 (g.blt "list" (by simp [bltNames])) q3 (g.blt "zip" (by simp [bltNames])) (agE_plain h5) (agE_plain h6) (leR_pe (fun r' h' => sE a g h5 h') hm.1) (leR_pe (fun r' h' => sE b g h6 h') hm.2)
      · cases hb
    · cases ha
  | .rvq t a, c, X, e, φ, g, ha, r, hb => by
    unfold agE at ha
    split at ha
    · simp only [Bool.and_eq_true, decide_eq_true_eq] at ha
      obtain ⟨⟨⟨⟨h1, h2⟩, h3⟩, h4⟩, h5⟩ := ha
      subst h1
      subst h3
      unfold best at hb
      obtain ⟨q3, q4⟩ := glB_of g h4
      cases t with
      | true =>
        obtain ⟨q1, q2⟩ := glB_of g h2
        rw [if_pos rfl] at hb
        rcases ite_some hb with ⟨hm, hb⟩ | ⟨_, hb⟩
        · cases hb
          exact r_rvT g.calm q1 (g.blt "tuple" (by simp [bltNames])) q3 (g.blt "reversed" (by simp [bltNames])) (agE_plain h5) (leR_pe (fun r' h' => sE a g h5 h') hm)
        · cases hb
      | false =>
        obtain ⟨q1, q2⟩ := glB_of g h2
        rw [if_neg Bool.false_ne_true] at hb
        rcases ite_some hb with ⟨hm, hb⟩ | ⟨_, hb⟩
        · cases hb
          exact r_rvL g.calm q1 (g.blt "list" (by simp [bltNames])) q3 (g.blt "reversed" (by simp [bltNames])) (agE_plain h5) (leR_pe (fun r' h' => sE a g h5 h') hm)
        · cases hb
    · cases ha
  | .rgs1 t a, c, X, e, φ, g, ha, r, hb => by
    unfold agE at ha
    split at ha
    · simp only [Bool.and_eq_true, decide_eq_true_eq] at ha
      obtain ⟨⟨⟨⟨h1, h2⟩, h3⟩, h4⟩, h5⟩ := ha
      subst h1
      subst h3
      unfold best at hb
      rcases ite_some hb with ⟨hm, hb⟩ | ⟨_, hb⟩
      · cases hb
        obtain ⟨q3, q4⟩ := glB_of g h4
        cases t with
        | true =>
          obtain ⟨q1, q2⟩ := glB_of g h2
          exact r_rgs1 (t := true) g.calm q1 (g.blt "tuple" (by simp [bltNames])) q3 (g.blt "range" (by simp [bltNames])) (agE_plain h5) (leR_pe (fun r' h' => sE a g h5 h') hm)
        | false =>
          obtain ⟨q1, q2⟩ := glB_of g h2
          exact r_rgs1 (t := false) g.calm q1 (g.blt "list" (by simp [bltNames])) q3 (g.blt "range" (by simp [bltNames])) (agE_plain h5) (leR_pe (fun r' h' => sE a g h5 h') hm)
      · cases hb
    · cases ha
  | .rgs2 t a b, c, X, e, φ, g, ha, r, hb => by
    unfold agE at ha
    split at ha
    · simp only [Bool.and_eq_true, decide_eq_true_eq] at ha
      obtain ⟨⟨⟨⟨⟨h1, h2⟩, h3⟩, h4⟩, h5⟩, h6⟩ := ha
      subst h1
      subst h3
      unfold best at hb
      rcases ite_some hb with ⟨hm, hb⟩ | ⟨_, hb⟩
      · cases hb
        rw [Bool.and_eq_true] at hm
        obtain ⟨q3, q4⟩ := glB_of g h4
        cases t with
        | true =>
          obtain ⟨q1, q2⟩ := glB_of g h2
          exact r_rgs2 (t := true) g.calm q1 (g.blt "tuple" (by simp [bltNames])) q3 (g.blt "range" (by simp [bltNames])) (agE_plain h5) (agE_plain h6) (leR_pe (fun r' h' => sE a g h5 h') hm.1) (leR_pe (fun r' h' => sE b g h6 h') hm.2)
        | false =>
          obtain ⟨q1, q2⟩ := glB_of g h2
          exact r_rgs2 (t := false) g.calm q1 (g.blt "list" (by simp [bltNames])) q3 (g.blt "range" (by simp [bltNames])) (agE_plain h5) (agE_plain h6) (leR_pe (fun r' h' => sE a g h5 h') hm.1) (leR_pe (fun r' h' => sE b g h6 h') hm.2)
      · cases hb
    · cases ha
  | .isi t a, c, X, e, φ, g, ha, r, hb => by
    unfold agE at ha
    split at ha
    · simp only [Bool.and_eq_true, decide_eq_true_eq] at ha
      obtain ⟨⟨⟨⟨h1, h2⟩, h3⟩, h4⟩, h5⟩ := ha
      subst h1
      subst h4
      unfold best at hb
      rcases ite_some hb with ⟨hm, hb⟩ | ⟨_, hb⟩
      · cases hb
        exact r_isiX g h2 h5 (agE_plain h3) (leR_pe (fun r' h' => sE a g h3 h') hm)
      · cases hb
    · cases ha
  | .lc j elt own tg it t, c, X, e, φ, g, ha, r, hb => by
    unfold agE at ha
    split at ha
    · rename_i x gt i ifs a scope pos
      simp only [Bool.and_eq_true, decide_eq_true_eq] at ha
      obtain ⟨⟨⟨⟨⟨h1, h2⟩, h3⟩, h4⟩, h5⟩, h6⟩ := ha
      subst h1
      unfold best at hb
      rcases ite_some hb with ⟨hm, hb⟩ | ⟨_, hb⟩
      · cases hb
        simp only [Bool.and_eq_true] at hm
        obtain ⟨⟨⟨⟨m1, m2⟩, m3⟩, m4⟩, m5⟩ := hm
        rw [List.all_eq_true] at m4 m5
        have I := sI it (tg := gt) g h3 m1
        have hfold : ∀ y, foldedSetIterable i X.env y = pure y := fun y => by
          have : plainE i = true := by
            cases it
            · unfold agI at h3; exact agE_plain h3
            all_goals (cases i <;> first | rfl | (exfalso; cases gt <;> simp [agI] at h3))
          exact plain_fold this _ _
        refine peI (pe_lc (g := gOf X.K tg) (tt := RdT X.K (flT (φ0 φ (own.map (·.2))) tg) (evC Φ t)) (te := RdE X.K (flT (φ0 φ (own.map (·.2))) tg) (.own j) (evE Φ elt)) g.calm g.nd I (blkOk_by (by rw [g.N, g.sc]; exact h2)) (fun s H C cl fp => g_ok (g.blk s H scope C cl fp) tg gt h4) (fun s H C cl fp => sC t (g.blk s H scope C cl fp) h5 m2)
          (fun s H C cl fp => leR_pe (fun r' h' => sE elt (g.blk s H scope C cl fp) h6 h') m3) hfold) fun σ H Q ⟨ρ, F, S, st, d, e, q⟩ => ?_
        unfold evE at e
        obtain ⟨ds, eds, e⟩ := bind_some e
        obtain ⟨res, er, e⟩ := bind_some e
        rcases ite_some e with ⟨hl, e⟩ | ⟨_, e⟩
        · cases e
          exact ⟨ρ, F, S, st, ds, eds, fun J G H1 F1 e1 w D hD => lc_turns st (fun i hi => of_decide_eq_true (m5 i hi)) (fun i hi => by simpa using m4 i hi) e1 w hD er hl q⟩
        · cases e
      · cases hb
    · cases ha
  | .lc2 j elt own tg it t tg1 it1 t1, c, X, e, φ, g, ha, r, hb => by
    unfold agE at ha
    split at ha
    · rename_i x gt i ifs a gt1 i1 ifs1 a1 scope pos
      simp only [Bool.and_eq_true, decide_eq_true_eq] at ha
      obtain ⟨⟨⟨⟨⟨⟨⟨⟨⟨h1, h1'⟩, h2⟩, h3⟩, h4⟩, h5⟩, h6⟩, h7⟩, h8⟩, h9⟩ := ha
      subst h1
      subst h1'
      unfold best at hb
      rcases ite_some hb with ⟨hm, hb⟩ | ⟨_, hb⟩
      · cases hb
        simp only [Bool.and_eq_true] at hm
        obtain ⟨⟨⟨⟨⟨⟨⟨m1, m2⟩, m3⟩, m4⟩, m5⟩, m6⟩, m7⟩, m8⟩ := hm
        rw [List.all_eq_true] at m6 m7 m8
        have I := sI it (tg := gt) g h3 m1
        refine peI (pe_lc2 (g := gOf X.K tg) (g1 := gOf X.K tg1) (vs1 := tIx tg1) (tt := RdT X.K (flT (φ0 φ (own.map (·.2))) tg) (evC Φ t)) (tt1 := RdT X.K (flT (φ0 (flT (φ0 φ (own.map (·.2))) tg) (tIx tg1)) tg1) (evC Φ t1)) (wi1 := RdI X.K (flT (φ0 φ (own.map (·.2))) tg) true (evI Φ it1))
          (te := RdE X.K (flT (φ0 (flT (φ0 φ (own.map (·.2))) tg) (tIx tg1)) tg1) (.own j) (evE Φ elt)) g.calm g.nd I (blkOk_by (by rw [g.N, g.sc]; exact h2)) (fun i hi => by simpa using m7 i hi) (fun s H C cl fp => g_ok (g.blk s H scope C cl fp) tg gt h4) (fun s H C cl fp => sC t (g.blk s H scope C cl fp) h5 m2)
          (fun s H C cl fp => sJ it1 (g.blk s H scope C cl fp) h6 m3) (fun s H C cl fp => g_ok (g.blk s H scope C cl fp) tg1 gt1 h7) (fun s H C cl fp => sC t1 (g.blk s H scope C cl fp) h8 m4)
          (fun s H C cl fp => leR_pe (fun r' h' => sE elt (g.blk s H scope C cl fp) h9 h') m5) (fun y => plain_fold (agI_plain h3) _ _) (fun env y => plain_fold (agI_plain h6) _ _)) fun σ H Q ⟨ρ, F, S, st, d, e, q⟩ => ?_
        unfold evE at e
        obtain ⟨ds, eds, e⟩ := bind_some e
        obtain ⟨res, er, e⟩ := bind_some e
        rcases ite_some e with ⟨hl, e⟩ | ⟨_, e⟩
        · cases e
          exact ⟨ρ, F, S, st, ds, eds, fun J G H1 F1 e1 w D hD => lc2_turns st (fun i hi => of_decide_eq_true (m8 i hi)) (fun i hi => by simpa using m6 i hi) (fun i hi => by simpa using m7 i hi) e1 w hD er hl q⟩
        · cases e
      · cases hb
    · cases ha
theorem sT : ∀ (ce : CE) {c : AC} {X : Cx} {e : Expr} {φ : List Nat}, GX X c fr Φ k → agE ce c e = true → bestT fr φ ce = true → PT X e (RdT X.K φ (evT Φ ce)) ∧ ∀ op vs p, e = .BoolOp op vs p → PW X e (RdT X.K φ (evT Φ ce))
  | .and a b, c, X, e, φ, g, ha, hb => by
    unfold agE at ha
    split at ha
    · rename_i x y rr p
      rw [Bool.and_eq_true] at ha
      obtain ⟨h1, h2⟩ := ha
      unfold bestT at hb
      rw [Bool.and_eq_true] at hb
      have A := (sT a g h1 hb.1).1
      have tail : PW X (.BoolOp .And (y :: rr) p) (RdT X.K φ (evT Φ b)) := by
        split at h2
        · exact pw_and1 (sT b g h2 hb.2).1
        · exact (sT b g h2 hb.2).2 _ _ _ rfl
      have R : PW X (.BoolOp .And (x :: y :: rr) p) (RdT X.K φ (evT Φ (.and a b))) := t_and A tail (fun p1 p2 => pw_and p1 p2)
      exact ⟨R.pt, fun op vs p' h => R⟩
    · cases ha
  | .or a b, c, X, e, φ, g, ha, hb => by
    unfold agE at ha
    split at ha
    · rename_i x y rr p
      rw [Bool.and_eq_true] at ha
      obtain ⟨h1, h2⟩ := ha
      unfold bestT at hb
      rw [Bool.and_eq_true] at hb
      have A := (sT a g h1 hb.1).1
      have tail : PW X (.BoolOp .Or (y :: rr) p) (RdT X.K φ (evT Φ b)) := by
        split at h2
        · exact pw_or1 (sT b g h2 hb.2).1
        · exact (sT b g h2 hb.2).2 _ _ _ rfl
      have R : PW X (.BoolOp .Or (x :: y :: rr) p) (RdT X.K φ (evT Φ (.or a b))) := t_or A tail (fun p1 p2 => pw_or p1 p2)
      exact ⟨R.pt, fun op vs p' h => R⟩
    · cases ha
  | .not a, c, X, e, φ, g, ha, hb => by
    unfold agE at ha
    split at ha
    · unfold bestT at hb
      exact ⟨t_not (sT a g ha hb).1, fun op vs p' h => nomatch h⟩
    · cases ha
  | .cmp op a b, c, X, e, φ, g, ha, hb => by
    unfold agE at ha
    split at ha
    · simp only [Bool.and_eq_true] at ha
      obtain ⟨⟨h1, h2⟩, h3⟩ := ha
      unfold bestT at hb
      rw [Bool.and_eq_true] at hb
      exact ⟨t_cmp (cmp_op g h1) (plain_mark (agE_plain h3) _) (leR_pe (fun r' h' => sE a g h2 h') hb.1) (leR_pe (fun r' h' => sE b g h3 h') hb.2), fun op vs p' h => nomatch h⟩
    · cases ha
  | .chn op op' a b d, c, X, e, φ, g, ha, hb => by
    unfold agE at ha
    split at ha
    · simp only [Bool.and_eq_true] at ha
      obtain ⟨⟨⟨⟨h1, h2⟩, h3⟩, h4⟩, h5⟩ := ha
      unfold bestT at hb
      simp only [Bool.and_eq_true] at hb
      exact ⟨t_chain (cmp_op g h1) (cmp_op g h2) (leR_pe (fun r' h' => sE a g h3 h') hb.1.1) (leR_pe (fun r' h' => sE b g h4 h') hb.1.2) (leR_pe (fun r' h' => sE d g h5 h') hb.2)
          (fun p1 p2 p3 => pt_chain (cmp_op g h1) (cmp_op g h2) p1 p2 p3 (plain_mark (agE_plain h5) _)), fun op vs p' h => nomatch h⟩
    · cases ha
  | .isN a, c, X, e, φ, g, ha, hb => by
    unfold agE at ha
    split at ha
    · unfold bestT at hb
      exact ⟨t_isN (leR_pe (fun r' h' => sE a g ha h') hb), fun op vs p' h => nomatch h⟩
    · cases ha
  | .noN a, c, X, e, φ, g, ha, hb => by
    unfold agE at ha
    split at ha
    · unfold bestT at hb
      exact ⟨t_noN (leR_pe (fun r' h' => sE a g ha h') hb), fun op vs p' h => nomatch h⟩
    · cases ha
  | .bl b, c, X, e, φ, g, ha, hb => by
    unfold agE at ha
    split at ha
    · rw [beq_iff_eq] at ha
      subst ha
      exact ⟨t_val (fa := fun _ => some (.bl b)) (peW (r_const (v := .bl b) pe_bl rfl) rfl) (fun _ => rfl), fun op vs p' h => nomatch h⟩
    · cases ha
  | .var i, c, X, e, φ, g, ha, hb => by
    unfold bestT at hb
    split at hb
    · rename_i k' hk
      have P : ∃ r, best fr φ (.var i) = some r ∧ r.le .bor = true := by
        unfold best
        rw [hk]
        cases k' with
        | zero => exact ⟨_, rfl, rfl⟩
        | succ n => exact ⟨_, rfl, rfl⟩
      obtain ⟨r, h1, h2⟩ := P
      have V := peW (sVar (k := k) g ha h1) h2
      unfold agE at ha
      split at ha
      · exact ⟨t_val V (fun _ => rfl), fun op vs p' h => nomatch h⟩
      · cases ha
    · cases hb
  | .idx a i, c, X, e, φ, g, ha, hb => by
    unfold agE at ha
    split at ha
    · rw [Bool.and_eq_true] at ha
      unfold bestT at hb
      rw [Bool.and_eq_true] at hb
      exact ⟨t_val (r_idxB (leR_pe (fun r' h' => sE a g ha.1 h') hb.1) (leR_pe (fun r' h' => sE i g ha.2 h') hb.2) (agE_plain ha.2)) (fun _ => rfl), fun op vs p' h => nomatch h⟩
    · cases ha
  | .call j es, c, X, e, φ, g, ha, hb => by
    unfold agE at ha
    split at ha
    · simp only [Bool.and_eq_true, decide_eq_true_eq] at ha
      obtain ⟨⟨h1, h2⟩, h3⟩ := ha
      unfold bestT at hb
      rw [Bool.and_eq_true] at hb
      cases hk : fr[j]? with
      | none => rw [hk] at hb; cases hb.1
      | some rk => exact ⟨t_val ((r_call (φ := φ) (fs := evEs Φ es) g h1 hk h2 (agEs_plain es _ h3)).2 (sEs es g h3 hb.2)) (fun _ => rfl), fun op vs p' h => nomatch h⟩
    · cases ha
  | .bi f es, c, X, e, φ, g, ha, hb => by
    unfold agE at ha
    split at ha
    · simp only [Bool.and_eq_true, decide_eq_true_eq] at ha
      obtain ⟨⟨h1, h2⟩, h3⟩ := ha
      subst h1
      unfold bestT at hb
      rw [Bool.and_eq_true] at hb
      have B : PA X _ (RdA X.K φ .bor (evEs Φ es)) := sEs es g h3 hb.2
      exact ⟨t_val (r_biB g h2 (agEs_plain es _ h3) B (fun h => by rw [h] at hb; cases hb.1)) (fun _ => rfl), fun op vs p' h => nomatch h⟩
    · cases ha
  | .isi t a, c, X, e, φ, g, ha, hb => by
    unfold agE at ha
    split at ha
    · simp only [Bool.and_eq_true, decide_eq_true_eq] at ha
      obtain ⟨⟨⟨⟨h1, h2⟩, h3⟩, h4⟩, h5⟩ := ha
      subst h1
      subst h4
      unfold bestT at hb
      refine ⟨ptI (t_val (peW (r_isiX g h2 h5 (agE_plain h3) (leR_pe (fun r' h' => sE a g h3 h') hb)) rfl) (fun _ => rfl)) fun σ H Q ⟨ρ, F, S, st, b, h, q⟩ => ⟨ρ, F, S, st, b, ?_, q⟩, fun op vs p' h => nomatch h⟩
      unfold evT at h
      obtain ⟨x, hx, h⟩ := bind_some h
      dsimp only
      rw [hx]
      simp only [Option.bind_some, h, Option.map_some]
      rfl
    · cases ha
  | .bin op a b, c, X, e, φ, g, ha, hb => by
    unfold agE at ha
    split at ha
    · simp only [Bool.and_eq_true] at ha
      obtain ⟨⟨h1, h2⟩, h3⟩ := ha
      unfold bestT at hb
      simp only [Bool.and_eq_true] at hb
      obtain ⟨q1, q2⟩ := arith_of h1 (fun j z => by rw [z] at hb; cases hb.1) (fun z => by rw [z] at hb; cases hb.1) (fun z => by rw [z] at hb; cases hb.1) (fun z => by rw [z] at hb; cases hb.1)
      exact ⟨t_val (peW (r_arith q1 (q2 X) (leR_pe (fun r' h' => sE a g h2 h') hb.2.1) (leR_pe (fun r' h' => sE b g h3 h') hb.2.2)) rfl) (fun _ => rfl), fun op vs p' h => nomatch h⟩
    · cases ha
  | .int _, c, X, e, φ, g, ha, hb => by simp [bestT] at hb
  | .non, c, X, e, φ, g, ha, hb => by simp [bestT] at hb
  | .str _, c, X, e, φ, g, ha, hb => by simp [bestT] at hb
  | .tup _, c, X, e, φ, g, ha, hb => by simp [bestT] at hb
  | .lst _ _, c, X, e, φ, g, ha, hb => by simp [bestT] at hb
  | .neg _, c, X, e, φ, g, ha, hb => by simp [bestT] at hb
  | .ifx _ _ _, c, X, e, φ, g, ha, hb => by simp [bestT] at hb
  | .slc _ _ _ _, c, X, e, φ, g, ha, hb => by simp [bestT] at hb
  | .sst _, c, X, e, φ, g, ha, hb => by simp [bestT] at hb
  | .lzp _ _, c, X, e, φ, g, ha, hb => by simp [bestT] at hb
  | .rvq _ _, c, X, e, φ, g, ha, hb => by simp [bestT] at hb
  | .rgs1 _ _, c, X, e, φ, g, ha, hb => by simp [bestT] at hb
  | .rgs2 _ _ _, c, X, e, φ, g, ha, hb => by simp [bestT] at hb
  | .rev _, c, X, e, φ, g, ha, hb => by simp [bestT] at hb
  | .lc _ _ _ _ _ _, c, X, e, φ, g, ha, hb => by simp [bestT] at hb
  | .lc2 _ _ _ _ _ _ _ _ _, c, X, e, φ, g, ha, hb => by simp [bestT] at hb
theorem sEs : ∀ (es : CEs) {c : AC} {X : Cx} {xs : List Expr} {φ : List Nat}, GX X c fr Φ k → agEs es c xs = true → ∀ {r : Res}, bests fr φ r es = true → PA X xs (RdA X.K φ r (evEs Φ es))
  | .nil, c, X, xs, φ, g, ha, r, hb => by
    unfold agEs at ha
    split at ha
    · exact a_nil
    · cases ha
  | .cons e es, c, X, xs, φ, g, ha, r, hb => by
    unfold agEs at ha
    split at ha
    · rw [Bool.and_eq_true] at ha
      unfold bests at hb
      rw [Bool.and_eq_true] at hb
      exact a_cons (leR_pe (fun r' h' => sE e g ha.1 h') hb.1) (sEs es g ha.2 hb.2) (agE_plain ha.1)
    · cases ha
theorem sO : ∀ (o : CO) {c : AC} {X : Cx} {e : Option Expr} {φ : List Nat}, GX X c fr Φ k → agO o c e = true → bestO fr φ o = true → PO X e (RdO X.K φ (evO Φ o))
  | .no, c, X, e, φ, g, ha, hb => by
    unfold agO at ha
    split at ha
    · exact o_none
    · cases ha
  | .yes a, c, X, e, φ, g, ha, hb => by
    unfold agO at ha
    split at ha
    · unfold bestO at hb
      exact o_some (leR_pe (fun r' h' => sE a g ha h') hb)
    · cases ha
theorem sC : ∀ (o : CO) {c : AC} {X : Cx} {e : List Expr} {φ : List Nat}, GX X c fr Φ k → agC o c e = true → bestC fr φ o = true → PTs X e (RdT X.K φ (evC Φ o))
  | .no, c, X, e, φ, g, ha, hb => by
    unfold agC at ha
    split at ha
    · exact ⟨fun pins s σ H Q I ⟨ρ, F, S, st, b, h, q⟩ => pts_nil.run pins s σ H Q I (by cases h; exact q H F (.refl st.fo))⟩
    · cases ha
  | .yes a, c, X, e, φ, g, ha, hb => by
    unfold agC at ha
    split at ha
    · unfold bestC at hb
      exact pts_one (sT a g ha hb).1
    · cases ha
theorem sI : ∀ (o : CI) {c : AC} {X : Cx} {tg e : Expr} {φ : List Nat}, GX X c fr Φ k → agI o c tg e = true → bestI fr φ o = true → PI X tg e (RdI X.K φ false (evI Φ o))
  | .ex a, c, X, tg, e, φ, g, ha, hb => by
    unfold agI at ha
    unfold bestI at hb
    exact i_ex (leR_pe (fun r' h' => sE a g ha h') hb)
  | .rg es, c, X, tg, e, φ, g, ha, hb => by
    unfold agI at ha
    split at ha
    · simp only [Bool.and_eq_true, decide_eq_true_eq] at ha
      obtain ⟨⟨h1, h2⟩, h3⟩ := ha
      subst h1
      unfold bestI at hb
      obtain ⟨q1, q2⟩ := glB_of g h2
      have hm := g.blt "range" (by simp [bltNames])
      have P := agEs_plain es _ h3
      have A := sEs es g h3 hb
      have L := agEs_len es _ h3
      rename_i y ys _
      match ys, A, L, P with
      | [], A, L, P => exact i_rg1 q1 hm (P y (.head _)) A (fun ρ ds h => by rw [evEs_len Φ es ρ ds h, ← L]; rfl)
      | [z], A, L, P => exact i_rg2 q1 hm (P y (.head _)) (P z (.tail _ (.head _))) A (fun ρ ds h => by rw [evEs_len Φ es ρ ds h, ← L]; rfl)
      | [z, w], A, L, P => exact i_rg3 q1 hm (P y (.head _)) (P z (.tail _ (.head _))) (P w (.tail _ (.tail _ (.head _)))) A (fun ρ ds h => by rw [evEs_len Φ es ρ ds h, ← L]; rfl)
      | _ :: _ :: _ :: _, A, L, P =>
        refine piI (t := fun _ _ _ => False) ⟨fun _ _ _ _ _ _ h => h.elim⟩ fun σ H R ⟨ρ, F, S, st, ds, h, _⟩ => ?_
        unfold evI at h
        obtain ⟨xs, hx, h⟩ := bind_some h
        have hl := evEs_len Φ es ρ xs hx
        rw [← L] at hl
        simp only [List.length_cons] at hl
        match xs, hl with
        | _ :: _ :: _ :: _ :: _, _ => simp [rgD] at h
    · cases ha
  | .zip a b, c, X, tg, e, φ, g, ha, hb => by
    unfold agI at ha
    split at ha
    · simp only [Bool.and_eq_true, decide_eq_true_eq] at ha
      obtain ⟨⟨⟨h1, h2⟩, h3⟩, h4⟩ := ha
      subst h1
      unfold bestI at hb
      rw [Bool.and_eq_true] at hb
      obtain ⟨q1, q2⟩ := glB_of g h2
      exact i_zip q1 (g.blt "zip" (by simp [bltNames])) (agE_plain h3) (agE_plain h4) (leR_pe (fun r' h' => sE a g h3 h') hb.1) (leR_pe (fun r' h' => sE b g h4 h') hb.2)
    · cases ha
  | .enm a, c, X, tg, e, φ, g, ha, hb => by
    unfold agI at ha
    split at ha
    · simp only [Bool.and_eq_true, decide_eq_true_eq] at ha
      obtain ⟨⟨h1, h2⟩, h3⟩ := ha
      subst h1
      unfold bestI at hb
      obtain ⟨q1, q2⟩ := glB_of g h2
      exact i_enm q1 (g.blt "enumerate" (by simp [bltNames])) (agE_plain h3) (leR_pe (fun r' h' => sE a g h3 h') hb)
    · cases ha
  | .rvs a, c, X, tg, e, φ, g, ha, hb => by
    unfold agI at ha
    split at ha
    · simp only [Bool.and_eq_true, decide_eq_true_eq] at ha
      obtain ⟨⟨h1, h2⟩, h3⟩ := ha
      subst h1
      unfold bestI at hb
      obtain ⟨q1, q2⟩ := glB_of g h2
      exact i_rvs q1 (g.blt "reversed" (by simp [bltNames])) (agE_plain h3) (leR_pe (fun r' h' => sE a g h3 h') hb)
    · cases ha
theorem sJ : ∀ (o : CI) {c : AC} {X : Cx} {tg e : Expr} {φ : List Nat}, GX X c fr Φ k → agI o c tg e = true → bestJ fr φ o = true → PI X tg e (RdI X.K φ true (evI Φ o))
  | .ex a, c, X, tg, e, φ, g, ha, hb => by
    unfold agI at ha
    unfold bestJ at hb
    exact i_ex (b := true) (leR_pe (fun r' h' => sE a g ha h') hb)
  | .rg es, c, X, tg, e, φ, g, ha, hb => by
    unfold agI at ha
    split at ha
    · simp only [Bool.and_eq_true, decide_eq_true_eq] at ha
      obtain ⟨⟨h1, h2⟩, h3⟩ := ha
      subst h1
      unfold bestJ at hb
      obtain ⟨q1, q2⟩ := glB_of g h2
      have hm := g.blt "range" (by simp [bltNames])
      have P := agEs_plain es _ h3
      have A := sEs es g h3 hb
      have L := agEs_len es _ h3
      rename_i y ys _
      match ys, A, L, P with
      | [], A, L, P => exact i_rg1 q1 hm (P y (.head _)) A (fun ρ ds h => by rw [evEs_len Φ es ρ ds h, ← L]; rfl)
      | [z], A, L, P => exact i_rg2 q1 hm (P y (.head _)) (P z (.tail _ (.head _))) A (fun ρ ds h => by rw [evEs_len Φ es ρ ds h, ← L]; rfl)
      | [z, w], A, L, P => exact i_rg3 q1 hm (P y (.head _)) (P z (.tail _ (.head _))) (P w (.tail _ (.tail _ (.head _)))) A (fun ρ ds h => by rw [evEs_len Φ es ρ ds h, ← L]; rfl)
      | _ :: _ :: _ :: _, A, L, P =>
        refine piI (t := fun _ _ _ => False) ⟨fun _ _ _ _ _ _ h => h.elim⟩ fun σ H R ⟨ρ, F, S, st, ds, h, _⟩ => ?_
        unfold evI at h
        obtain ⟨xs, hx, h⟩ := bind_some h
        have hl := evEs_len Φ es ρ xs hx
        rw [← L] at hl
        simp only [List.length_cons] at hl
        match xs, hl with
        | _ :: _ :: _ :: _ :: _, _ => simp [rgD] at h
    · cases ha
  | .zip a b, c, X, tg, e, φ, g, ha, hb => by
    unfold agI at ha
    split at ha
    · simp only [Bool.and_eq_true, decide_eq_true_eq] at ha
      obtain ⟨⟨⟨h1, h2⟩, h3⟩, h4⟩ := ha
      subst h1
      unfold bestJ at hb
      rw [Bool.and_eq_true] at hb
      obtain ⟨q1, q2⟩ := glB_of g h2
      exact i_zip (b := true) q1 (g.blt "zip" (by simp [bltNames])) (agE_plain h3) (agE_plain h4) (leR_pe (fun r' h' => sE a g h3 h') hb.1) (leR_pe (fun r' h' => sE b g h4 h') hb.2)
    · cases ha
  | .enm a, c, X, tg, e, φ, g, ha, hb => by
    unfold agI at ha
    split at ha
    · simp only [Bool.and_eq_true, decide_eq_true_eq] at ha
      obtain ⟨⟨h1, h2⟩, h3⟩ := ha
      subst h1
      unfold bestJ at hb
      obtain ⟨q1, q2⟩ := glB_of g h2
      exact i_enm (b := true) q1 (g.blt "enumerate" (by simp [bltNames])) (agE_plain h3) (leR_pe (fun r' h' => sE a g h3 h') hb)
    · cases ha
  | .rvs a, c, X, tg, e, φ, g, ha, hb => by
    unfold agI at ha
    split at ha
    · simp only [Bool.and_eq_true, decide_eq_true_eq] at ha
      obtain ⟨⟨h1, h2⟩, h3⟩ := ha
      subst h1
      unfold bestJ at hb
      obtain ⟨q1, q2⟩ := glB_of g h2
      exact i_rvs (b := true) q1 (g.blt "reversed" (by simp [bltNames])) (agE_plain h3) (leR_pe (fun r' h' => sE a g h3 h') hb)
    · cases ha
end
end
end Ev

/-! Changes in place. -/
namespace Ev
open PySem PySem.Spec PyProof.Rows L2

section
variable {K : PySem.W.Frag} {F F' : Pa} {H H' : Hp} {φ : List Nat} {ρ : List D} {σ : L2.St} {S : List Addr}
theorem set_same {α : Type} {l : List α} {x : α} {i : Nat} (g : l[i]? = some x) : l.set i x = l := by
  apply List.ext_getElem?
  intro j
  by_cases hj : i = j
  · subst hj
    have hl : i < l.length := (List.getElem?_eq_some_iff.mp g).1
    rw [List.getElem?_set_self hl, g]
  · rw [List.getElem?_set_ne hj]
/-- an owned object of a slot is changed; new things may come under it -/
theorem Sta.upd {i k : Nat} {d d' : D} {p : Addr} {o : HO} {Sn : List Addr} (s : Sta K φ ρ σ H F S) (hk : φ[i]? = some k) (hd : ρ[i]? = some d) (hb : d ≠ .bad) (hn : ∀ a ∈ Sn, a ∉ S ∧ ¬ F a)
    (h : ∀ v Sb, σ[i]? = some (some v) → Own K F H k d v Sb → Sb.Nodup → (∀ a ∈ Sb, a ∈ S) → p ∈ Sb ∧ (Kept F F H (upd H p o) → ∃ Sb', Sb'.Nodup ∧ (∀ a ∈ Sb', a ∈ Sb ∨ a ∈ Sn) ∧ Own K F (upd H p o) k d' v Sb')) :
    p ∈ S ∧ ∃ S', Sta K φ (ρ.set i d') σ (upd H p o) F S' ∧ ∀ a ∈ S', a ∈ S ∨ a ∈ Sn := by
  obtain ⟨d0, o0, Sa, Sb, Sc, g1, g2, g3, g4, g5⟩ := s.sl.split hk
  subst g3
  rw [hd] at g1
  cases g1
  rcases g4 with ⟨e, _⟩ | ⟨v, e, hO⟩
  · exact absurd e hb
  · subst e
    have nd := s.nd
    rw [List.nodup_append] at nd
    have nd2 := nd.2.1
    rw [List.nodup_append] at nd2
    obtain ⟨hp, hm⟩ := h v Sb g2 hO nd2.1 (fun a ha => by simp [ha])
    have nfp : ¬ F p := s.nf p (by simp [hp])
    have kp : Kept F F H (upd H p o) := ⟨fun a ha u q => by rw [upd_ne (show a ≠ p from fun e => nfp (by rw [← e]; exact ha))]; exact q, fun _ h => h⟩
    obtain ⟨Sb', n1, n2, n3⟩ := hm kp
    have q := g5 F (upd H p o) k d' (some v) Sb' kp (fun a ha u q => by
      rw [upd_ne ?_]; exact q
      rintro rfl
      rcases List.mem_append.mp ha with ha | ha
      · exact nd.2.2 a ha a (by simp [hp]) rfl
      · exact nd2.2.2 a hp a ha rfl) (.inr ⟨v, rfl, n3⟩)
    rw [set_same hk, set_same g2] at q
    refine ⟨by simp [hp], _, ⟨q, fun a ha => by rw [upd_ne (show a ≠ p from fun e => nfp (by rw [← e]; exact ha))]; exact s.fo a ha, fun a ha => ?_, ?_⟩, fun a ha => ?_⟩
    · simp only [List.mem_append] at ha
      rcases ha with ha | ha | ha
      · exact s.nf a (by simp [ha])
      · rcases n2 a ha with ha | ha
        · exact s.nf a (by simp [ha])
        · exact (hn a ha).2
      · exact s.nf a (by simp [ha])
    · refine nodup_repl s.nd n1 fun a ha => ?_
      rcases n2 a ha with hb | hb
      · exact ⟨fun z => nd.2.2 a z a (by simp [hb]) rfl, fun z => nd2.2.2 a hb a z rfl⟩
      · have := (hn a hb).1
        simp only [List.mem_append, not_or] at this
        exact ⟨this.1, this.2.2⟩
    · simp only [List.mem_append] at ha ⊢
      rcases ha with ha | ha | ha
      · exact .inl (.inl ha)
      · rcases n2 a ha with ha | ha
        · exact .inl (.inr (.inl ha))
        · exact .inr ha
      · exact .inl (.inr (.inr ha))
/-- one of a row apart -/
theorem AllO.split {p : D → V → List Addr → Prop} : ∀ {ds : List D} {vs : List V} {S : List Addr} {j : Nat} {d : D}, AllO p ds vs S → ds[j]? = some d → ∃ v Sa Sb Sc, vs[j]? = some v ∧ S = Sa ++ (Sb ++ Sc) ∧ p d v Sb ∧
    ∀ (q : D → V → List Addr → Prop) (d' : D) (v' : V) (Sb' : List Addr), (∀ d v S', (∀ a ∈ S', a ∈ Sa ++ Sc) → p d v S' → q d v S') → q d' v' Sb' → AllO q (ds.set j d') (vs.set j v') (Sa ++ (Sb' ++ Sc))
  | [], _, _, _, _, _, h => by simp at h
  | d0 :: ds, vs, S, 0, d, ⟨v, r, S1, S2, e, e2, h1, h2⟩, h => by
    simp only [List.getElem?_cons_zero, Option.some.injEq] at h
    subst h; subst e; subst e2
    refine ⟨v, [], S1, S2, rfl, rfl, h1, fun q d' v' Sb' f hq => ?_⟩
    exact ⟨v', r, Sb', S2, rfl, rfl, hq, h2.imp fun d v S' hs h => f d v S' (fun a ha => by simpa using hs a ha) h⟩
  | d0 :: ds, vs, S, j + 1, d, ⟨v, r, S1, S2, e, e2, h1, h2⟩, h => by
    rw [List.getElem?_cons_succ] at h
    subst e; subst e2
    obtain ⟨w, Sa, Sb, Sc, g1, g2, g3, g4⟩ := AllO.split h2 h
    subst g2
    refine ⟨w, S1 ++ Sa, Sb, Sc, g1, by simp, g3, fun q d' v' Sb' f hq => ?_⟩
    rw [List.append_assoc]
    refine ⟨v, r.set j v', S1, Sa ++ (Sb' ++ Sc), rfl, rfl, f _ _ _ (fun a ha => by simp [ha]) h1, g4 q d' v' Sb' (fun d v S' hs h => f d v S' (fun a ha => ?_) h) hq⟩
    have := hs a ha
    simp only [List.mem_append] at this ⊢
    rcases this with this | this <;> simp [this]
theorem own_kept1 {k : Nat} {p : Addr} {o : HO} {Sr : List Addr} (kp : Kept F F H (upd H p o)) (hp : p ∉ Sr) {d : D} {v : V} {S' : List Addr} (hs : ∀ a ∈ S', a ∈ Sr) (h : Own K F H k d v S') : Own K F (upd H p o) k d v S' :=
  h.kept kp fun a ha u q => by
    rw [upd_ne (show a ≠ p from fun e => hp (e ▸ hs a ha))]
    exact q
/-- x.append(y) -/
theorem own_app {k : Nat} {ds : List D} {v : V} {Sb : List Addr} (h : Own K F H (k + 1) (.lst ds) v Sb) (hn : Sb.Nodup) :
    ∃ p vs, v = .ref p ∧ H p = some (.lst vs) ∧ vs.length = ds.length ∧ p ∈ Sb ∧ ∀ {dy : D} {y : V} {Sn : List Addr}, Own K F H k dy y Sn → Sn.Nodup → (∀ a ∈ Sn, a ∉ Sb) → Kept F F H (upd H p (.lst (vs ++ [y]))) →
      ∃ Sb', Sb'.Nodup ∧ (∀ a ∈ Sb', a ∈ Sb ∨ a ∈ Sn) ∧ Own K F (upd H p (.lst (vs ++ [y]))) (k + 1) (.lst (ds ++ [dy])) v Sb' := by
  obtain ⟨p, vs, S', rfl, hp, r, rfl⟩ := h
  rw [List.nodup_cons] at hn
  refine ⟨p, vs, rfl, hp, r.len, .head _, fun {dy y Sn} hy n1 n2 kp => ?_⟩
  refine ⟨p :: (S' ++ Sn), ?_, fun a ha => ?_, p, vs ++ [y], S' ++ Sn, rfl, upd_same, ?_, rfl⟩
  · rw [List.nodup_cons, List.nodup_append]
    refine ⟨fun z => ?_, hn.2, n1, fun a ha b hb e => n2 b hb (.tail _ (e ▸ ha))⟩
    rcases List.mem_append.mp z with z | z
    · exact hn.1 z
    · exact n2 p z (.head _)
  · rcases List.mem_cons.mp ha with rfl | ha
    · exact .inl (.head _)
    · rcases List.mem_append.mp ha with ha | ha
      · exact .inl (.tail _ ha)
      · exact .inr ha
  · refine AllO.app (r.imp fun d v S'' hs h => own_kept1 kp hn.1 hs h) (.one ?_)
    exact own_kept1 kp (fun z => n2 p z (.head _)) (fun a ha => ha) hy
/-- x[j] = y -/
theorem own_sto {k : Nat} {ds : List D} {v : V} {Sb : List Addr} (h : Own K F H (k + 1) (.lst ds) v Sb) (hn : Sb.Nodup) :
    ∃ p vs, v = .ref p ∧ H p = some (.lst vs) ∧ vs.length = ds.length ∧ p ∈ Sb ∧ ∀ {dy : D} {y : V} {Sn : List Addr} {j : Nat}, j < ds.length → Own K F H k dy y Sn → Sn.Nodup → (∀ a ∈ Sn, a ∉ Sb) → Kept F F H (upd H p (.lst (vs.set j y))) →
      ∃ Sb', Sb'.Nodup ∧ (∀ a ∈ Sb', a ∈ Sb ∨ a ∈ Sn) ∧ Own K F (upd H p (.lst (vs.set j y))) (k + 1) (.lst (ds.set j dy)) v Sb' := by
  obtain ⟨p, vs, S', rfl, hp, r, rfl⟩ := h
  rw [List.nodup_cons] at hn
  refine ⟨p, vs, rfl, hp, r.len, .head _, fun {dy y Sn j} hj hy n1 n2 kp => ?_⟩
  obtain ⟨w, Sa, Sm, Sc, g1, g2, g3, g4⟩ := r.split (List.getElem?_eq_getElem hj)
  subst g2
  have dj : ∀ a ∈ Sn, a ∉ Sa ∧ a ∉ Sc := fun a ha => by
    have := n2 a ha
    simp only [List.mem_cons, List.mem_append, not_or] at this
    exact ⟨this.2.1, this.2.2.2⟩
  have pn : p ∉ Sa ∧ p ∉ Sc := by
    have := hn.1
    simp only [List.mem_append, not_or] at this
    exact ⟨this.1, this.2.2⟩
  refine ⟨p :: (Sa ++ (Sn ++ Sc)), ?_, fun a ha => ?_, p, vs.set j y, _, rfl, upd_same, g4 _ _ _ _ (fun d v S'' hs h => own_kept1 kp (Sr := Sa ++ Sc) ?_ hs h) ?_, rfl⟩
  · rw [List.nodup_cons]
    refine ⟨fun z => ?_, nodup_repl hn.2 n1 dj⟩
    simp only [List.mem_append] at z
    rcases z with z | z | z
    · exact pn.1 z
    · exact n2 p z (.head _)
    · exact pn.2 z
  · rcases List.mem_cons.mp ha with rfl | ha
    · exact .inl (.head _)
    · simp only [List.mem_append] at ha
      rcases ha with ha | ha | ha
      · exact .inl (by simp [ha])
      · exact .inr ha
      · exact .inl (by simp [ha])
  · simp only [List.mem_append, not_or]
    exact pn
  · exact own_kept1 kp (fun z => n2 p z (.head _)) (fun a ha => ha) hy
/-- within -/
theorem own_in {k : Nat} {ds : List D} {v : V} {Sb : List Addr} (h : Own K F H (k + 1) (.lst ds) v Sb) (hn : Sb.Nodup) {j : Nat} {d : D} (hj : ds[j]? = some d) :
    ∃ p vs w Si, v = .ref p ∧ H p = some (.lst vs) ∧ vs.length = ds.length ∧ vs[j]? = some w ∧ Own K F H k d w Si ∧ Si.Nodup ∧ (∀ a ∈ Si, a ∈ Sb) ∧ ∀ {q : Addr} {o : HO} {d' : D} {Sn Si' : List Addr}, q ∈ Si → Kept F F H (upd H q o) → (∀ a ∈ Sn, a ∉ Sb) →
      Own K F (upd H q o) k d' w Si' → Si'.Nodup → (∀ a ∈ Si', a ∈ Si ∨ a ∈ Sn) → ∃ Sb', Sb'.Nodup ∧ (∀ a ∈ Sb', a ∈ Sb ∨ a ∈ Sn) ∧ Own K F (upd H q o) (k + 1) (.lst (ds.set j d')) v Sb' := by
  obtain ⟨p, vs, S', rfl, hp, r, rfl⟩ := h
  rw [List.nodup_cons] at hn
  obtain ⟨w, Sa, Sm, Sc, g1, g2, g3, g4⟩ := r.split hj
  subst g2
  have nd := hn.2
  rw [List.nodup_append] at nd
  have nd2 := nd.2.1
  rw [List.nodup_append] at nd2
  refine ⟨p, vs, w, Sm, rfl, hp, r.len, g1, g3, nd2.1, fun a ha => by simp [ha], fun {q o d' Sn Si'} hq kp dj ho n1 n2 => ?_⟩
  have out : ∀ a ∈ Si', a ∉ Sa ∧ a ∉ Sc ∧ a ≠ p := fun a ha => by
    rcases n2 a ha with z | z
    · exact ⟨fun h => nd.2.2 a h a (by simp [z]) rfl, fun h => nd2.2.2 a z a h rfl, fun e => hn.1 (by rw [← e]; simp [z])⟩
    · have := dj a z
      simp only [List.mem_cons, List.mem_append, not_or] at this
      exact ⟨this.2.1, this.2.2.2, this.1⟩
  have qp : p ≠ q := fun e => hn.1 (by rw [e]; simp [hq])
  have g := g4 (Own K F (upd H q o) k) d' w Si' (fun d v S'' hs h => own_kept1 kp (Sr := Sa ++ Sc) (fun z => by
      rcases List.mem_append.mp z with z | z
      · exact nd.2.2 q z q (by simp [hq]) rfl
      · exact nd2.2.2 q hq q z rfl) hs h) ho
  rw [set_same g1] at g
  refine ⟨p :: (Sa ++ (Si' ++ Sc)), ?_, fun a ha => ?_, p, vs, _, rfl, by rw [upd_ne qp]; exact hp, g, rfl⟩
  · rw [List.nodup_cons]
    refine ⟨fun z => ?_, nodup_repl hn.2 n1 fun a ha => ⟨(out a ha).1, (out a ha).2.1⟩⟩
    simp only [List.mem_append] at z
    rcases z with z | z | z
    · exact hn.1 (by simp [z])
    · exact (out p z).2.2 rfl
    · exact hn.1 (by simp [z])
  · rcases List.mem_cons.mp ha with rfl | ha
    · exact .inl (.head _)
    · simp only [List.mem_append] at ha
      rcases ha with ha | ha | ha
      · exact .inl (by simp [ha])
      · rcases n2 a ha with ha | ha
        · exact .inl (by simp [ha])
        · exact .inr ha
      · exact .inl (by simp [ha])
end
end Ev

/-! Statements: the small language, its meaning, its checks. -/
namespace Ev
open PySem PySem.Spec PyProof.Rows L2

/-- places -/
inductive PL where
  | nm (i : Nat) | sub (i : Nat) (j : CE) | two (a b : PL) | three (a b c : PL) | four (a b c d : PL) | thrl (a b c : PL)
mutual
inductive CS where
  | set (i k : Nat) (e : CE)
  | asg (p : PL) (e : CE)
  | par2 (i j ki kj : Nat) (a b : CE)
  | par3 (i j l ki kj kl : Nat) (a b c : CE)
  | par4 (i j l m ki kj kl km : Nat) (a b c d : CE)
  | ins (i : Nat) (j e : CE)
  | popa (i : Nat) (p : PL)
  | aug (i : Nat) (sb : Bool) (e : CE)
  | app (i k : Nat) (e : CE)
  | app1 (i k : Nat) (j e : CE)
  | ext (i k : Nat) (e : CE)
  | sto (i k : Nat) (j e : CE)
  | sto1 (i k : Nat) (j l e : CE)
  | augs (i : Nat) (sb : Bool) (j e : CE)
  | ife (c : CE) (a b : CSs)
  | for_ (tg : Tgt) (it : CI) (b : CSs)
  | whl (c : CE) (b : CSs)
  | ret (e : CE)
  | retN
  | brk | cnt | pas | doc
  | frz (is : List Nat)
inductive CSs where
  | nil | cons (s : CS) (ss : CSs)
end
inductive Out where
  | nx (ρ : List D) | rt (d : D) | bk (ρ : List D) | ct (ρ : List D)
  deriving Inhabited

/-! ### meanings -/
def appD (d y : D) : Option D := match d with
  | .lst xs => if xs.length < SL then some (.lst (xs ++ [y])) else none
  | _ => none
def extD (d y : D) : Option D := match d, y with
  | .lst xs, .lst ys => if xs.length + ys.length ≤ SL then some (.lst (xs ++ ys)) else none
  | _, _ => none
def insD (d i y : D) : Option D := match d, i with
  | .lst xs, .int n => if xs.length < SL ∧ 0 ≤ n ∧ n < 2 ^ 63 then some (.lst (xs.take n.toNat ++ [y] ++ xs.drop n.toNat)) else none
  | _, _ => none
def popD (d : D) : Option (D × D) := match d with
  | .lst xs => (xs[xs.length - 1]?).map fun y => (.lst xs.dropLast, y)
  | _ => none
def stoD (d i y : D) : Option D := match d, i with
  | .lst xs, .int n => (ixN xs.length n).map fun j => .lst (xs.set j y)
  | _, _ => none
/-- change the j-th -/
def inD (f : D → Option D) (d i : D) : Option D := match d, i with
  | .lst xs, .int n => (ixN xs.length n).bind fun j => (xs[j]?).bind fun x => (f x).map fun x' => .lst (xs.set j x')
  | _, _ => none
def augD (sb : Bool) (x y : D) : Option D := match x, y with
  | .int i, .int j => some (.int (if sb then i - j else i + j))
  | _, _ => none
/-- a list of three -/
def l3D : D → Option (D × D × D)
  | .lst [x, y, z] => some (x, y, z)
  | _ => none
def asgP (Φ : Fns) : PL → D → List D → Option (List D)
  | .nm i, d, ρ => if D.isBad d then none else some (ρ.set i d)
  | .sub i j, d, ρ => (getV ρ i).bind fun o => (evE Φ j ρ).bind fun n => (stoD o n d).map fun o' => ρ.set i o'
  | .two a b, d, ρ => (D.t2 d).bind fun p => (asgP Φ a p.1 ρ).bind (asgP Φ b p.2)
  | .three a b c, d, ρ => (D.t3 d).bind fun p => (asgP Φ a p.1 ρ).bind fun ρ => (asgP Φ b p.2.1 ρ).bind (asgP Φ c p.2.2)
  | .thrl a b c, d, ρ => (l3D d).bind fun p => (asgP Φ a p.1 ρ).bind fun ρ => (asgP Φ b p.2.1 ρ).bind (asgP Φ c p.2.2)
  | .four a b c e, d, ρ => (D.t4 d).bind fun p => (asgP Φ a p.1 ρ).bind fun ρ => (asgP Φ b p.2.1 ρ).bind fun ρ => (asgP Φ c p.2.2.1 ρ).bind (asgP Φ e p.2.2.2)
def forD (f : D → List D → Option Out) : List D → List D → Option Out
  | [], ρ => some (.nx ρ)
  | x :: xs, ρ => (f x ρ).bind fun o => match o with
    | .nx ρ' => forD f xs ρ'
    | .ct ρ' => forD f xs ρ'
    | .bk ρ' => some (.nx ρ')
    | .rt d => some (.rt d)
def whN (c : List D → Option Bool) (b : List D → Option Out) : Nat → List D → Option Out
  | 0, _ => none
  | n + 1, ρ => (c ρ).bind fun t => if t then (b ρ).bind fun o => match o with
    | .nx ρ' => whN c b n ρ'
    | .ct ρ' => whN c b n ρ'
    | .bk ρ' => some (.nx ρ')
    | .rt d => some (.rt d)
    else some (.nx ρ)
def whD (c : List D → Option Bool) (b : List D → Option Out) (ρ : List D) : Option Out :=
  match c ρ with
  | none => none
  | some false => some (.nx ρ)
  | some true => match b ρ with
    | none => none
    | some (.nx ρ') => whD c b ρ'
    | some (.ct ρ') => whD c b ρ'
    | some (.bk ρ') => some (.nx ρ')
    | some (.rt d) => some (.rt d)
partial_fixpoint
theorem whD_N (c : List D → Option Bool) (b : List D → Option Out) : ∀ ρ o, whD c b ρ = some o → ∃ n, whN c b n ρ = some o := by
  refine whD.partial_correctness c b (motive := fun ρ o => ∃ n, whN c b n ρ = some o) ?_
  intro w ih ρ o h
  cases hc : c ρ with
  | none => rw [hc] at h; cases h
  | some t =>
    rw [hc] at h
    cases t with
    | false => exact ⟨1, by rw [whN, hc]; exact h⟩
    | true =>
      dsimp only at h
      cases hb : b ρ with
      | none => rw [hb] at h; cases h
      | some o1 =>
        rw [hb] at h
        cases o1 with
        | nx ρ' =>
          obtain ⟨n, hn⟩ := ih _ _ h
          exact ⟨n + 1, by rw [whN, hc]; simp only [Option.bind_some, if_true, hb]; exact hn⟩
        | ct ρ' =>
          obtain ⟨n, hn⟩ := ih _ _ h
          exact ⟨n + 1, by rw [whN, hc]; simp only [Option.bind_some, if_true, hb]; exact hn⟩
        | bk ρ' => exact ⟨1, by rw [whN, hc]; simp only [Option.bind_some, if_true, hb]; exact h⟩
        | rt d => exact ⟨1, by rw [whN, hc]; simp only [Option.bind_some, if_true, hb]; exact h⟩
mutual
def evS (Φ : Fns) : CS → List D → Option Out
  | .set i _ e, ρ => (evE Φ e ρ).map fun d => .nx (ρ.set i d)
  | .asg p e, ρ => (evE Φ e ρ).bind fun d => (asgP Φ p d ρ).map .nx
  | .par2 i j _ _ a b, ρ => (evE Φ a ρ).bind fun x => (evE Φ b ρ).map fun y => .nx ((ρ.set i x).set j y)
  | .par3 i j l _ _ _ a b c, ρ => (evE Φ a ρ).bind fun x => (evE Φ b ρ).bind fun y => (evE Φ c ρ).map fun z => .nx (((ρ.set i x).set j y).set l z)
  | .par4 i j l m _ _ _ _ a b c d, ρ => (evE Φ a ρ).bind fun x => (evE Φ b ρ).bind fun y => (evE Φ c ρ).bind fun z => (evE Φ d ρ).map fun w => .nx ((((ρ.set i x).set j y).set l z).set m w)
  | .ins i j e, ρ => (getV ρ i).bind fun x => (evE Φ j ρ).bind fun n => (evE Φ e ρ).bind fun y => (insD x n y).map fun z => .nx (ρ.set i z)
  | .popa i p, ρ => (getV ρ i).bind fun x => (popD x).bind fun q => (asgP Φ p q.2 (ρ.set i q.1)).map .nx
  | .aug i sb e, ρ => (getV ρ i).bind fun x => (evE Φ e ρ).bind fun y => (augD sb x y).map fun z => .nx (ρ.set i z)
  | .app i _ e, ρ => (getV ρ i).bind fun x => (evE Φ e ρ).bind fun y => (appD x y).map fun z => .nx (ρ.set i z)
  | .ext i _ e, ρ => (getV ρ i).bind fun x => (evE Φ e ρ).bind fun y => (extD x y).map fun z => .nx (ρ.set i z)
  | .app1 i _ j e, ρ => (getV ρ i).bind fun x => (evE Φ j ρ).bind fun n => (evE Φ e ρ).bind fun y => (inD (fun d => appD d y) x n).map fun z => .nx (ρ.set i z)
  | .sto i _ j e, ρ => (evE Φ e ρ).bind fun y => (getV ρ i).bind fun x => (evE Φ j ρ).bind fun n => (stoD x n y).map fun z => .nx (ρ.set i z)
  | .sto1 i _ j l e, ρ => (evE Φ e ρ).bind fun y => (getV ρ i).bind fun x => (evE Φ j ρ).bind fun n => (evE Φ l ρ).bind fun m => (inD (fun d => stoD d m y) x n).map fun z => .nx (ρ.set i z)
  | .augs i sb j e, ρ => (getV ρ i).bind fun x => (evE Φ j ρ).bind fun n => (evE Φ e ρ).bind fun y => (inD (fun d => augD sb d y) x n).map fun z => .nx (ρ.set i z)
  | .ife c a b, ρ => (evT Φ c ρ).bind fun t => if t then evSs Φ a ρ else evSs Φ b ρ
  | .for_ tg it b, ρ => (evI Φ it ρ).bind fun xs => forD (fun x ρ => (asgD tg x ρ).bind fun ρ' => evSs Φ b ρ') xs ρ
  | .whl c b, ρ => whD (evT Φ c) (evSs Φ b) ρ
  | .ret e, ρ => (evE Φ e ρ).map .rt
  | .retN, _ => some (.rt .non)
  | .brk, ρ => some (.bk ρ)
  | .cnt, ρ => some (.ct ρ)
  | .pas, ρ => some (.nx ρ)
  | .doc, ρ => some (.nx ρ)
  | .frz _, ρ => some (.nx ρ)
termination_by structural c => c
def evSs (Φ : Fns) : CSs → List D → Option Out
  | .nil, ρ => some (.nx ρ)
  | .cons s ss, ρ => (evS Φ s ρ).bind fun o => match o with
    | .nx ρ' => evSs Φ ss ρ'
    | o => some o
termination_by structural c => c
end

/-! ### the flags -/
def flP (φ : List Nat) : PL → List Nat
  | .nm i => φ.set i 0
  | .sub _ _ => φ
  | .two a b => flP (flP φ a) b
  | .three a b c => flP (flP (flP φ a) b) c
  | .thrl a b c => flP (flP (flP φ a) b) c
  | .four a b c d => flP (flP (flP (flP φ a) b) c) d
def chP (fr : List Nat) (φ : List Nat) : PL → Bool
  | .nm i => decide (i < φ.length)
  | .sub i j => (φ[i]? == some 1) && leR .bor (best fr φ j)
  | .two a b => chP fr φ a && chP fr (flP φ a) b
  | .three a b c => chP fr φ a && chP fr (flP φ a) b && chP fr (flP (flP φ a) b) c
  | .thrl a b c => chP fr φ a && chP fr (flP φ a) b && chP fr (flP (flP φ a) b) c
  | .four a b c d => chP fr φ a && chP fr (flP φ a) b && chP fr (flP (flP φ a) b) c && chP fr (flP (flP (flP φ a) b) c) d
def okTo (c : Bool) (φ : List Nat) : Option (Option (List Nat)) := if c then some (some φ) else none
def joinF : Option (Option (List Nat)) → Option (Option (List Nat)) → Option (Option (List Nat))
  | some none, r => r
  | r, some none => r
  | some (some x), some (some y) => if x = y then some (some x) else none
  | _, _ => none
def endsAt (φ : List Nat) : Option (Option (List Nat)) → Bool
  | some none => true
  | some (some x) => decide (x = φ)
  | none => false
/-- a slot that owns its list gives it up -/
def retO (rk : Nat) (φ : List Nat) : CE → Bool
  | .var i => φ[i]? == some rk
  | _ => false
mutual
def chS (fr : List Nat) (rk : Nat) (lp : Option (List Nat)) (φ : List Nat) : CS → Option (Option (List Nat))
  | .set i k e => okTo (leR (.own k) (best fr φ e) && decide (i < φ.length)) (φ.set i k)
  | .asg p e => okTo (leR (.own 0) (best fr φ e) && chP fr φ p) (flP φ p)
  | .par2 i j ki kj a b => okTo (leR (.own ki) (best fr φ a) && leR (.own kj) (best fr φ b) && decide (i < φ.length) && decide (j < φ.length)) ((φ.set i ki).set j kj)
  | .par3 i j l ki kj kl a b c => okTo (leR (.own ki) (best fr φ a) && leR (.own kj) (best fr φ b) && leR (.own kl) (best fr φ c) && decide (i < φ.length) && decide (j < φ.length) && decide (l < φ.length)) (((φ.set i ki).set j kj).set l kl)
  | .par4 i j l m ki kj kl km a b c d => okTo (leR (.own ki) (best fr φ a) && leR (.own kj) (best fr φ b) && leR (.own kl) (best fr φ c) && leR (.own km) (best fr φ d) && decide (i < φ.length) && decide (j < φ.length) && decide (l < φ.length) && decide (m < φ.length)) ((((φ.set i ki).set j kj).set l kl).set m km)
  | .ins i j e => okTo (leR .bor (best fr φ j) && leR (.own 0) (best fr φ e) && (φ[i]? == some 1)) φ
  | .popa i p => okTo ((φ[i]? == some 1) && chP fr φ p) (flP φ p)
  | .aug i _ e => okTo (leR .bor (best fr φ e) && (φ[i]? == some 0)) φ
  | .app i k e => okTo (leR (.own k) (best fr φ e) && (φ[i]? == some (k + 1))) φ
  | .ext i k e => okTo (leR (.own (k + 1)) (best fr φ e) && (φ[i]? == some (k + 1))) φ
  | .app1 i k j e => okTo (leR .bor (best fr φ j) && leR (.own k) (best fr φ e) && (φ[i]? == some (k + 2))) φ
  | .sto i k j e => okTo (leR (.own k) (best fr φ e) && leR .bor (best fr φ j) && (φ[i]? == some (k + 1))) φ
  | .sto1 i k j l e => okTo (leR (.own k) (best fr φ e) && leR .bor (best fr φ j) && leR .bor (best fr φ l) && (φ[i]? == some (k + 2))) φ
  | .augs i _ j e => okTo (leR .bor (best fr φ j) && leR .bor (best fr φ e) && (φ[i]? == some 1)) φ
  | .ife c a b => if bestT fr φ c then joinF (chSs fr rk lp φ a) (chSs fr rk lp φ b) else none
  | .for_ tg it b => okTo (bestJ fr φ it && decide (flT φ tg = φ) && (tIx tg).all (fun i => decide (i < φ.length)) && endsAt φ (chSs fr rk (some φ) φ b)) φ
  | .whl c b => okTo (bestT fr φ c && endsAt φ (chSs fr rk (some φ) φ b)) φ
  | .ret e => if leR (.own rk) (best fr φ e) || retO rk φ e then some none else none
  | .retN => if rk == 0 then some none else none
  | .brk => if lp = some φ then some none else none
  | .cnt => if lp = some φ then some none else none
  | .pas => some (some φ)
  | .doc => some (some φ)
  | .frz is => okTo (is.all fun i => decide (i < φ.length)) (φ0 φ is)
termination_by structural c => c
def chSs (fr : List Nat) (rk : Nat) (lp : Option (List Nat)) (φ : List Nat) : CSs → Option (Option (List Nat))
  | .nil => some (some φ)
  | .cons s ss => match chS fr rk lp φ s with
    | some none => some none
    | some (some φ') => chSs fr rk lp φ' ss
    | none => none
termination_by structural c => c
end

/-! ### the written statements -/
def isLc : Expr → Bool
  | .ListComp .. => true
  | _ => false
def isTupT : Expr → Bool
  | .Tuple .. => true
  | _ => false
/-- a comprehension that is stored by its own block -/
def swB (sc : Scope) (x : Str) (px : Pos) (v : Expr) : Bool := match v with
  | .ListComp _ _ s p => decide (sc.names.lookup x = some .local) && (px.line == p.line) && !(s.names.any fun (n, k) => n == x && (k == .local || k == .cell))
  | _ => false
def sameLine (l : Nat) : List Expr → Bool
  | [] => true
  | .Name _ p :: es => p.line == l && sameLine l es
  | _ => false
def namesOf : List Expr → List Str
  | .Name x _ :: es => x :: namesOf es
  | _ => []
def nmB (c : AC) (i : Nat) (e : Expr) : Bool := match e with
  | .Name x _ => decide (c.N[i]? = some x) && visB c x && okN x
  | _ => false
def agP : PL → AC → Expr → Bool
  | .nm i, c, e => match e with
    | .Name x _ => decide (c.N[i]? = some x) && locB c x
    | _ => false
  | .sub i j, c, e => match e with
    | .Subscript o s _ => nmB c i o && agE j c s
    | _ => false
  | .two a b, c, e => match e with
    | .Tuple [x, y] _ _ => agP a c x && agP b c y
    | _ => false
  | .three a b d, c, e => match e with
    | .Tuple [x, y, z] _ _ => agP a c x && agP b c y && agP d c z
    | _ => false
  | .thrl a b d, c, e => match e with
    | .Tuple [x, y, z] _ _ => agP a c x && agP b c y && agP d c z
    | _ => false
  | .four a b d f, c, e => match e with
    | .Tuple [x, y, z, w] _ _ => agP a c x && agP b c y && agP d c z && agP f c w
    | _ => false
/-- the stores are not exchanged -/
def noSw (c : AC) (t v : Expr) : Bool := match t, v with
  | .Tuple ts _ _, .Tuple vs _ _ => vs.all (foldedForSure 8) || !(ts.all fun e => match e with
    | .Name x _ => decide (c.sc.names.lookup x = some .local)
    | _ => false) || (ts.length != vs.length) || !(ts.length == 2 || ts.length == 3)
  | .Tuple _ _ _, _ => true
  | .Name _ _, _ => true
  | .Subscript _ _ _, _ => true
  | _, _ => false
def yesSw (c : AC) (ts : List Expr) (vs : List Expr) : Bool :=
  sameLine ((ts.head?.map (·.pos.line)).getD 0) ts && !(vs.all (foldedForSure 8)) && !(vs.all (constantsAlone 8)) && decide (namesOf ts).Nodup && (namesOf ts).all (fun x => decide (c.sc.names.lookup x = some .local))
def augM (sb : Bool) (o : Operator) : Bool := match o with
  | .Add => !sb
  | .Sub => sb
  | _ => false
mutual
def agS : CS → AC → Stmt → Bool
  | .set i _ e, c, s => match s with
    | .Assign [.Name x _] v _ => decide (c.N[i]? = some x) && locB c x && agE e c v
    | _ => false
  | .asg p e, c, s => match s with
    | .Assign [t] v _ => agP p c t && agE e c v && noSw c t v && !(isLc v && !isTupT t)
    | _ => false
  | .par2 i j _ _ p q, c, s => match s with
    | .Assign [.Tuple [.Name x px, .Name y py] kt pt] (.Tuple [a, b] k2 p2) _ => decide (c.N[i]? = some x) && decide (c.N[j]? = some y) && decide (i ≠ j) && agE p c a && agE q c b && ((locB c x && locB c y && noSw c (.Tuple [.Name x px, .Name y py] kt pt) (.Tuple [a, b] k2 p2)) || yesSw c [.Name x px, .Name y py] [a, b])
    | _ => false
  | .par3 i j l _ _ _ p q r, c, s => match s with
    | .Assign [.Tuple [.Name x px, .Name y py, .Name z pz] kt pt] (.Tuple [a, b, d] k2 p2) _ => decide (c.N[i]? = some x) && decide (c.N[j]? = some y) && decide (c.N[l]? = some z) && decide (i ≠ j) && decide (i ≠ l) && decide (j ≠ l) && agE p c a && agE q c b && agE r c d && ((locB c x && locB c y && locB c z && noSw c (.Tuple [.Name x px, .Name y py, .Name z pz] kt pt) (.Tuple [a, b, d] k2 p2)) || yesSw c [.Name x px, .Name y py, .Name z pz] [a, b, d])
    | _ => false
  | .par4 i j l m _ _ _ _ p q r t, c, s => match s with
    | .Assign [.Tuple [.Name x px, .Name y py, .Name z pz, .Name w pw] kt pt] (.Tuple [a, b, d, f] k2 p2) _ => decide (c.N[i]? = some x) && decide (c.N[j]? = some y) && decide (c.N[l]? = some z) && decide (c.N[m]? = some w) && agE p c a && agE q c b && agE r c d && agE t c f && locB c x && locB c y && locB c z && locB c w && noSw c (.Tuple [.Name x px, .Name y py, .Name z pz, .Name w pw] kt pt) (.Tuple [a, b, d, f] k2 p2)
    | _ => false
  | .ins i j e, c, s => match s with
    | .Expr (.Call (.Attribute o nm ap) [u, v] [] cp) _ => decide (nm = ("insert" : Str)) && (ap.endLine == cp.line) && nmB c i o && agE j c u && agE e c v
    | _ => false
  | .popa i p, c, s => match s with
    | .Assign [t] (.Call (.Attribute o nm ap) [] [] cp) q => decide (nm = ("pop" : Str)) && (ap.endLine == cp.line) && nmB c i o && agP p c t && noSw c t (.Call (.Attribute o nm ap) [] [] cp)
    | _ => false
  | .aug i sb e, c, s => match s with
    | .AugAssign (.Name x _) o v _ => decide (c.N[i]? = some x) && locB c x && augM sb o && agE e c v
    | _ => false
  | .app i _ e, c, s => match s with
    | .Expr (.Call (.Attribute o nm ap) [v] [] cp) _ => decide (nm = ("append" : Str)) && (ap.endLine == cp.line) && nmB c i o && agE e c v
    | _ => false
  | .ext i _ e, c, s => match s with
    | .Expr (.Call (.Attribute o nm ap) [v] [] cp) _ => decide (nm = ("extend" : Str)) && (ap.endLine == cp.line) && nmB c i o && agE e c v
    | _ => false
  | .app1 i _ j e, c, s => match s with
    | .Expr (.Call (.Attribute (.Subscript o t _) nm ap) [v] [] cp) _ => decide (nm = ("append" : Str)) && (ap.endLine == cp.line) && nmB c i o && agE j c t && agE e c v
    | _ => false
  | .sto i _ j e, c, s => match s with
    | .Assign [.Subscript o t _] v _ => nmB c i o && agE j c t && agE e c v
    | _ => false
  | .sto1 i _ j l e, c, s => match s with
    | .Assign [.Subscript (.Subscript o t _) u _] v _ => nmB c i o && agE j c t && agE l c u && agE e c v
    | _ => false
  | .augs i sb j e, c, s => match s with
    | .AugAssign (.Subscript o t _) op v _ => nmB c i o && agE j c t && augM sb op && agE e c v
    | _ => false
  | .ife t a b, c, s => match s with
    | .If w x y _ => agE t c w && agSs a c x && agSs b c y
    | _ => false
  | .for_ tg it b, c, s => match s with
    | .For g i x [] _ => agG tg c g && agI it c g i && agSs b c x
    | _ => false
  | .whl t b, c, s => match s with
    | .While w x [] _ => agE t c w && agSs b c x
    | _ => false
  | .ret e, c, s => match s with
    | .Return (some v) _ => agE e c v
    | _ => false
  | .retN, _, s => match s with
    | .Return none _ => true
    | _ => false
  | .brk, _, s => match s with
    | .Break _ => true
    | _ => false
  | .cnt, _, s => match s with
    | .Continue _ => true
    | _ => false
  | .pas, _, s => match s with
    | .Pass _ => true
    | _ => false
  | .doc, _, s => match s with
    | .Expr (.Constant (.str _) _ _) _ => true
    | _ => false
  | .frz _, _, _ => false
termination_by structural c => c
def agSs : CSs → AC → List Stmt → Bool
  | .nil, _, ss => match ss with
    | [] => true
    | _ => false
  | .cons s ss, c, xs => match s with
    | .frz _ => agSs ss c xs
    | _ => match xs with
      | x :: r => agS s c x && agSs ss c r
      | [] => false
termination_by structural c => c
end
end Ev

/-! Statements: what they do over data. -/
namespace Ev
open PySem PySem.Spec PyProof.Rows L2

/-! ### a base: what stood at the def's entry -/
structure Bs (F0 : Pa) (H0 : Hp) (F : Pa) (H : Hp) (S : List Addr) : Prop where
  ext : Ext F0 H0 F H
  new : ∀ a ∈ S, H0 a = none
section
variable {K : PySem.W.Frag} {F0 F F' : Pa} {H0 H H' : Hp} {φ φ' : List Nat} {ρ : List D} {σ : L2.St} {S S' : List Addr}
theorem Bs.on (b : Bs F0 H0 F H S) (e : Ext F H F' H') : Bs F0 H0 F' H' S := ⟨b.ext.trans e, b.new⟩
theorem Bs.sub (b : Bs F0 H0 F H S) (h : ∀ a ∈ S', a ∈ S ∨ H0 a = none) : Bs F0 H0 F H S' := ⟨b.ext, fun a ha => (h a ha).elim (b.new a) id⟩
theorem Bs.upd {p : Addr} {o : HO} (b : Bs F0 H0 F H S) (nf : ∀ a ∈ S, ¬ F a) (hp : p ∈ S) : Bs F0 H0 F (upd H p o) S :=
  ⟨⟨fun a u q => by
      rw [upd_ne (show a ≠ p from fun e => by rw [e, b.new p hp] at q; cases q)]
      exact b.ext.same _ _ q, b.ext.up, b.ext.new, fun a ha => by
      rw [upd_ne (show a ≠ p from fun e => nf p hp (e ▸ ha))]
      exact b.ext.fo a ha⟩, b.new⟩
/-- a nearer base -/
theorem Bs.re (b : Bs F0 H0 F H S) (nf : ∀ a ∈ S, ¬ F a) : ∃ H1, Bs F H1 F H S ∧ ∀ F' H' S', Bs F H1 F' H' S' → Bs F0 H0 F' H' S' ∧ Kept F F' H H' := by
  classical
  have hH : ∀ a, (F a ∨ (H0 a).isSome = true) → (if F a ∨ (H0 a).isSome = true then H a else none) = H a := fun a h => if_pos h
  refine ⟨fun a => if F a ∨ (H0 a).isSome = true then H a else none, ⟨⟨fun a o h => ?_, fun _ h => h, fun _ h => .inl h, b.ext.fo⟩, fun a ha => ?_⟩, fun F' H' S' b' => ⟨⟨⟨fun a o h => ?_, fun a h => b'.ext.up a (b.ext.up a h), fun a h => ?_, b'.ext.fo⟩, fun a ha => ?_⟩, ⟨fun a ha o h => ?_, b'.ext.up⟩⟩⟩
  · split at h
    · exact h
    · cases h
  · show (if F a ∨ (H0 a).isSome = true then H a else none) = none
    rw [if_neg]
    rintro (h | h)
    · exact nf a ha h
    · rw [b.new a ha] at h; cases h
  · refine b'.ext.same a o ?_
    rw [hH a (.inr (by rw [h]; rfl))]
    exact b.ext.same _ _ h
  · rcases b'.ext.new a h with h | h
    · exact b.ext.new a h
    · refine .inr ?_
      cases q : H0 a with
      | none => rfl
      | some o =>
        rw [hH a (.inr (by rw [q]; rfl)), b.ext.same _ _ q] at h
        cases h
  · have h := b'.new a ha
    cases q : H0 a with
    | none => rfl
    | some o =>
      rw [hH a (.inr (by rw [q]; rfl)), b.ext.same _ _ q] at h
      cases h
  · refine b'.ext.same a o ?_
    rw [hH a (.inl ha)]
    exact h
/-- a slot takes what an expression gave -/
theorem fin_set {i k : Nat} {d : D} {v : V} (st : Sta K φ ρ σ H F S) (b : Bs F0 H0 F H S) (e : Ext F H F' H') (ok : (Res.own k).ok K H F' H' d v) (hi : i < φ.length) :
    ∃ S', Sta K (φ.set i k) (ρ.set i d) (σ.set i (some v)) H' F' S' ∧ Bs F0 H0 F' H' S' := by
  obtain ⟨Sn, ho, nd, hS⟩ := ok
  obtain ⟨S', s', hs⟩ := (st.ext e).set hi ho nd fun a ha => ⟨fun z => some_none (st.sl.there a z) (hS a ha).1, (hS a ha).2⟩
  exact ⟨S', s', (b.on e).sub fun a ha => (hs a ha).imp id fun h => b.ext.same.free (hS a h).1⟩
end

def Fin (K : PySem.W.Frag) (rk : Nat) (φ' φl : List Nat) (F0 : Pa) (H0 : Hp) (D : Ends) : Out → Prop
  | .nx ρ' => ∀ σ' H' F' S', Sta K φ' ρ' σ' H' F' S' → Bs F0 H0 F' H' S' → D.nx σ' H'
  | .rt d => ∀ v H' F', Ext F0 H0 F' H' → (Res.own rk).ok K H0 F' H' d v → D.rt v H'
  | .bk ρ' => ∀ σ' H' F' S', Sta K φl ρ' σ' H' F' S' → Bs F0 H0 F' H' S' → D.bk σ' H'
  | .ct ρ' => ∀ σ' H' F' S', Sta K φl ρ' σ' H' F' S' → Bs F0 H0 F' H' S' → D.ct σ' H'
def RdS (K : PySem.W.Frag) (φ : List Nat) (rk : Nat) (φ' φl : List Nat) (f : List D → Option Out) : TS := fun D σ H =>
  ∃ H0 F0 ρ F S, Sta K φ ρ σ H F S ∧ Bs F0 H0 F H S ∧ ∃ o, f ρ = some o ∧ Fin K rk φ' φl F0 H0 D o
def RdG (K : PySem.W.Frag) (φ φ' : List Nat) (f : D → List D → Option (List D)) : TG := fun v σ H Q =>
  ∃ H0 F0 ρ F S, Sta K φ ρ σ H F S ∧ Bs F0 H0 F H S ∧ ∃ d, Rep K F H d v ∧ ∃ ρ', f d ρ = some ρ' ∧ ∀ σ' H' F' S', Sta K φ' ρ' σ' H' F' S' → Bs F0 H0 F' H' S' → Q σ' H'
structure GS (X : Cx) (c : AC) (fr : List Nat) (Φ : Fns) (k : Nat) : Prop extends GX X c fr Φ k where
  nox : X.xe = fun _ _ => False
  kind : c.sc.kind = .function
theorem psI {X : Cx} {st : Stmt} {t t' : TS} (h : PS X st t) (f : ∀ D σ H, t' D σ H → t D σ H) : PS X st t' := ⟨fun pins s σ H D I hw => h.run pins s σ H D I (f D σ H hw)⟩
theorem pssI {X : Cx} {st : List Stmt} {t t' : TS} (h : PSs X st t) (f : ∀ D σ H, t' D σ H → t D σ H) : PSs X st t' := ⟨fun pins s σ H D I hw => h.run pins s σ H D I (f D σ H hw)⟩
theorem pgI {X : Cx} {e : Expr} {t t' : TG} (h : PG X e t) (f : ∀ v σ H Q, t' v σ H Q → t v σ H Q) : PG X e t' := ⟨fun pins s σ H v u Q I r hw => h.run pins s σ H v u Q I r (f v σ H Q hw)⟩

/-! ### the written forms -/
theorem blk_fn {env : Env} (h : env.scope.kind = .function) : env.blockKind = .function := by
  unfold Env.blockKind
  rw [h]
  rfl
theorem sw_no {ca : CE} {ac : AC} {v : Expr} {t : Expr} {l : Nat} {env : Env} (hp : agE ca ac v = true) (hl : isLc v = false) : swapsWith v (some t) l env = pure false := by
  cases v <;> first
    | rfl
    | (simp [isLc] at hl; done)
    | (exfalso; cases ca <;> simp [agE] at hp)
theorem sw_no2 {ca : CE} {ac : AC} {v : Expr} {t : Expr} {l : Nat} {env : Env} (hp : agE ca ac v = true) (hl : (isLc v && !isTupT t) = false) : swapsWith v (some t) l env = pure false := by
  cases h : isLc v with
  | false => exact sw_no hp h
  | true =>
    rw [h] at hl
    cases t <;> first
      | (simp [isTupT] at hl; done)
      | (cases v <;> first
          | rfl
          | (simp [isLc] at h; done))
theorem sw_sub {v : Expr} {o i : Expr} {p : Pos} {l : Nat} {env : Env} : swapsWith v (some (.Subscript o i p)) l env = pure false := by
  cases v <;> rfl
theorem sw_name {ca : CE} {ac : AC} {v : Expr} {x : Str} {px : Pos} {l : Nat} {env : Env} (hp : agE ca ac v = true) (hl : swB env.scope x px v = false) : swapsWith v (some (.Name x px)) l env = pure false := by
  cases v <;> first
    | rfl
    | (exfalso; cases ca <;> simp [agE] at hp; done)
    | skip
  rename_i elt gs sc p
  unfold swB at hl
  unfold swapsWith
  dsimp only at hl ⊢
  show (pure _ : Sem Bool) = pure false
  congr 1
  show (env.blockKind == .function && env.kindOf x == some .local && px.line == p.line && !(sc.names.any fun (n, k) => n == x && (k == .local || k == .cell))) = false
  rw [Bool.and_eq_false_iff] at hl
  rcases hl with hl | hl
  · rw [Bool.and_eq_false_iff] at hl
    rcases hl with hl | hl
    · have : (env.kindOf x == some .local) = false := by
        have := of_decide_eq_false hl
        unfold Env.kindOf
        simpa using this
      rw [this]
      simp
    · rw [hl]
      simp
  · rw [hl]
    simp
theorem fm_all {α β : Type} {f : α → Option β} : ∀ {l : List α}, (l.filterMap f).length = l.length → ∀ x ∈ l, (f x).isSome = true
  | [], _, _, h => nomatch h
  | a :: l, h, x, hx => by
    have hle := List.length_filterMap_le f l
    cases q : f a with
    | none =>
      rw [List.filterMap_cons_none q, List.length_cons] at h
      omega
    | some b =>
      rw [List.filterMap_cons_some q, List.length_cons, List.length_cons] at h
      rcases List.mem_cons.mp hx with rfl | hx
      · rw [q]; rfl
      · exact fm_all (by omega) x hx
theorem sw_noSw {c : AC} {t v : Expr} {env : Env} (he : env.scope = c.sc) (h : noSw c t v = true) : swappedStores [t] v env = pure none := by
  cases t <;> first
    | (simp [noSw] at h; done)
    | rfl
    | skip
  cases v <;> first
    | rfl
    | skip
  rename_i ts k1 p1 vs k2 p2
  unfold noSw at h
  unfold swappedStores
  simp only [Bool.or_eq_true] at h
  dsimp only
  split
  · rfl
  · rename_i h1
    split
    · rfl
    · split
      · rfl
      · rename_i h3
        split
        · rfl
        · rename_i h4
          exfalso
          simp only [Bool.or_eq_true, not_or, bne_iff_ne, ne_eq, Decidable.not_not] at h1 h3
          rcases h with ((h | h) | h) | h
          · exact h4 h
          · rw [Bool.not_eq_true', List.all_eq_false] at h
            obtain ⟨e, he', hn⟩ := h
            have := fm_all h3.1 e he'
            cases e <;> first
              | (simp at this; done)
              | skip
            rename_i x p
            dsimp only at this hn
            apply hn
            rw [decide_eq_true_eq]
            split at this
            · rename_i q
              rw [Bool.and_eq_true] at q
              have q := q.1
              unfold Env.kindOf at q
              rw [he] at q
              simpa using q
            · cases this
          · have := h1.1.2
            rw [bne_iff_ne] at h
            exact h this.symm
          · exact h1.1.1 h
theorem sl_name {l : Nat} {x : Str} {p : Pos} {es : List Expr} (h : sameLine l (.Name x p :: es) = true) : (p.line == l) = true ∧ sameLine l es = true := by
  unfold sameLine at h
  rwa [Bool.and_eq_true] at h
theorem starless {es : List Expr} (h : ∀ e ∈ es, plainE e = true) : (es.any fun | .Starred .. => true | _ => false) = false := by
  rw [List.any_eq_false]
  intro e he
  have := h e he
  cases e <;> simp [plainE] at this <;> simp

theorem yes2 {c : AC} {env : Env} {x y : Str} {px py pt p2 : Pos} {kt k2 : Nat} {a b : Expr} (he : env.scope = c.sc) (hk : c.sc.kind = .function) (hp : ∀ e ∈ [a, b], plainE e = true) (h : yesSw c [.Name x px, .Name y py] [a, b] = true) :
    swappedStores [.Tuple [.Name x px, .Name y py] kt pt] (.Tuple [a, b] k2 p2) env = pure (some [x, y]) ∧ env.scope.names.lookup x = some .local ∧ env.scope.names.lookup y = some .local := by
  unfold yesSw at h
  simp only [Bool.and_eq_true] at h
  obtain ⟨⟨⟨⟨h1, h2⟩, h3⟩, h4⟩, h5⟩ := h
  rw [decide_eq_true_eq] at h4
  obtain ⟨l1, h1⟩ := sl_name h1
  obtain ⟨l2, h1⟩ := sl_name h1
  simp only [namesOf, List.all_cons, List.all_nil, Bool.and_true, Bool.and_eq_true, decide_eq_true_eq] at h5
  rw [he]
  refine ⟨?_, h5.1, h5.2⟩
  have hb : env.blockKind = .function := blk_fn (by rw [he]; exact hk)
  have k1 : env.kindOf x = some .local := by unfold Env.kindOf; rw [he]; exact h5.1
  have k2' : env.kindOf y = some .local := by unfold Env.kindOf; rw [he]; exact h5.2
  unfold swappedStores
  dsimp only
  rw [if_neg (by rw [hb]; simp)]
  rw [if_neg (fun hx => by
    obtain ⟨e, hm, hq⟩ := List.any_eq_true.mp hx
    have := hp e hm
    cases e <;> simp [plainE] at this hq)]
  simp only [Bool.not_eq_true'] at h2 h3
  simp only [namesOf, List.nodup_cons, List.mem_cons, List.not_mem_nil, or_false, not_false_eq_true, List.nodup_nil, and_true] at h4
  simp only [List.filterMap_cons, List.filterMap_nil, k1, k2', l1, l2, h2, h3]
  have e1 : ([x, y] : List Str).eraseDups.length = 2 := by
    simp [List.eraseDups_cons, Ne.symm h4]
  simp [e1]
theorem yes3 {c : AC} {env : Env} {x y z : Str} {px py pz pt p2 : Pos} {kt k2 : Nat} {a b d : Expr} (he : env.scope = c.sc) (hk : c.sc.kind = .function) (hp : ∀ e ∈ [a, b, d], plainE e = true) (h : yesSw c [.Name x px, .Name y py, .Name z pz] [a, b, d] = true) :
    swappedStores [.Tuple [.Name x px, .Name y py, .Name z pz] kt pt] (.Tuple [a, b, d] k2 p2) env = pure (some [x, y, z]) ∧ env.scope.names.lookup x = some .local ∧ env.scope.names.lookup y = some .local ∧ env.scope.names.lookup z = some .local := by
  unfold yesSw at h
  simp only [Bool.and_eq_true] at h
  obtain ⟨⟨⟨⟨h1, h2⟩, h3⟩, h4⟩, h5⟩ := h
  rw [decide_eq_true_eq] at h4
  obtain ⟨l1, h1⟩ := sl_name h1
  obtain ⟨l2, h1⟩ := sl_name h1
  obtain ⟨l3, h1⟩ := sl_name h1
  simp only [namesOf, List.all_cons, List.all_nil, Bool.and_true, Bool.and_eq_true, decide_eq_true_eq] at h5
  rw [he]
  refine ⟨?_, h5.1, h5.2.1, h5.2.2⟩
  have hb : env.blockKind = .function := blk_fn (by rw [he]; exact hk)
  have k1 : env.kindOf x = some .local := by unfold Env.kindOf; rw [he]; exact h5.1
  have k2' : env.kindOf y = some .local := by unfold Env.kindOf; rw [he]; exact h5.2.1
  have k3' : env.kindOf z = some .local := by unfold Env.kindOf; rw [he]; exact h5.2.2
  unfold swappedStores
  dsimp only
  rw [if_neg (by rw [hb]; simp)]
  rw [if_neg (fun hx => by
    obtain ⟨e, hm, hq⟩ := List.any_eq_true.mp hx
    have := hp e hm
    cases e <;> simp [plainE] at this hq)]
  simp only [Bool.not_eq_true'] at h2 h3
  simp only [namesOf, List.nodup_cons, List.mem_cons, List.not_mem_nil, or_false, not_false_eq_true, List.nodup_nil, and_true, not_or] at h4
  simp only [List.filterMap_cons, List.filterMap_nil, k1, k2', k3', l1, l2, l3, h2, h3]
  have e1 : ([x, y, z] : List Str).eraseDups.length = 3 := by
    simp [List.eraseDups_cons, Ne.symm h4.1.1, Ne.symm h4.1.2, Ne.symm h4.2]
  simp [e1]

section
variable {X : Cx} {c : AC} {fr : List Nat} {Φ : Fns} {k : Nat} {φ : List Nat} {rk : Nat} {φl : List Nat}
theorem loc_of (g : GX X c fr Φ k) {x : Str} (h : locB c x = true) : L2.Loc X.env.scope x ∧ (X.fn x = true ∨ X.env.scope.names.lookup x = some .local) := by
  unfold locB at h
  unfold L2.Loc
  rw [g.sc, g.fn]
  split at h
  · rename_i q; exact ⟨.inl q, .inr q⟩
  · rename_i q; exact ⟨.inr q, .inl h⟩
  · cases h
theorem nm_of (g : GX X c fr Φ k) {i : Nat} {e : Expr} (h : nmB c i e = true) : PE X e (tVar i) := by
  unfold nmB at h
  split at h
  · rename_i x pos
    simp only [Bool.and_eq_true, decide_eq_true_eq] at h
    obtain ⟨⟨h1, h2⟩, h3⟩ := h
    unfold okN at h3
    simp only [Bool.and_eq_true, Bool.not_eq_true'] at h3
    have hv : Vis X.env.scope x := by
      unfold visB at h2
      unfold Vis
      rw [g.sc]
      split at h2
      · rename_i q; exact .inl q
      · rename_i q; exact .inr (.inl q)
      · rename_i q; exact .inr (.inr q)
      · cases h2
    exact pe_var (by rw [g.N]; exact h1) hv h3.1 h3.2
  · cases h
theorem nm_base {c : AC} {i : Nat} {e : Expr} (h : nmB c i e = true) (a : Str) (env : Env) (w : Sem Value) : attributeBase e a env w = w ∧ plainE e = true := by
  cases e <;> first
    | (simp [nmB] at h; done)
    | exact ⟨rfl, rfl⟩
theorem getV_of {ρ : List D} {i : Nat} {d : D} (h : getV ρ i = some d) : ρ[i]? = some d ∧ d ≠ .bad := by
  unfold getV at h
  rw [List.getD_eq_getElem?_getD] at h
  cases q : ρ[i]? with
  | none => rw [q] at h; cases h
  | some x =>
    rw [q] at h
    cases x <;> simp only [Option.getD_some, D.ok, Option.some.injEq, reduceCtorEq] at h <;> subst h <;> exact ⟨rfl, fun h => nomatch h⟩
/-- name = e -/
theorem s_set {x : Str} {px pos : Pos} {v : Expr} {i j : Nat} {f : Sem1} (g : GS X c fr Φ k) (hx : c.N[i]? = some x) (hl : locB c x = true) (hi : i < φ.length) (he : PE X v (RdE X.K φ (.own j) f)) (hs : swapsWith v (some (.Name x px)) pos.line X.env = pure false) :
    PS X (.Assign [.Name x px] v pos) (RdS X.K φ rk (φ.set i j) φl fun ρ => (f ρ).map fun d => .nx (ρ.set i d)) := by
  obtain ⟨l1, l2⟩ := loc_of g.toGX hl
  refine psI (ps_set g.nd (by rw [g.N]; exact hx) l1 he hs l2) fun D σ H ⟨H0, F0, ρ, F, S, st, b, o, e, q⟩ => ?_
  obtain ⟨d, ed, rfl⟩ := map_some' e
  refine ⟨ρ, F, S, st, d, ed, fun v H' F' e1 r1 => ?_⟩
  obtain ⟨S', s1, s2⟩ := fin_set st b e1 r1 hi
  exact q _ _ _ _ s1 s2
theorem s_ret {v : Expr} {pos : Pos} {f : Sem1} {φ' : List Nat} (he : PE X v (RdE X.K φ (.own rk) f)) : PS X (.Return (some v) pos) (RdS X.K φ rk φ' φl fun ρ => (f ρ).map .rt) := by
  refine psI (ps_ret he) fun D σ H ⟨H0, F0, ρ, F, S, st, b, o, e, q⟩ => ?_
  obtain ⟨d, ed, rfl⟩ := map_some' e
  exact ⟨ρ, F, S, st, d, ed, fun v H' F' e1 r1 => q v H' F' (b.ext.trans e1) (Res.lift r1 b.ext.same)⟩
theorem s_retV {v : Expr} {pos : Pos} {i : Nat} {φ' : List Nat} (g : GX X c fr Φ k) (hv : nmB c i v = true) (hk : φ[i]? = some rk) : PS X (.Return (some v) pos) (RdS X.K φ rk φ' φl fun ρ => (getV ρ i).map .rt) := by
  refine psI (ps_ret (nm_of g hv)) fun D σ H ⟨H0, F0, ρ, F, S, st, b, o, e, q⟩ => ?_
  obtain ⟨d, ed, rfl⟩ := map_some' e
  obtain ⟨ed, hb⟩ := getV_of ed
  obtain ⟨d', o, Sa, Sb, Sc, g1, g2, g3, g4, _⟩ := st.sl.split hk
  rw [ed] at g1
  cases g1
  rcases g4 with ⟨e, _⟩ | ⟨w, e, h⟩
  · exact absurd e hb
  · subst e
    have nd := st.nd
    rw [g3, List.nodup_append] at nd
    have nd2 := nd.2.1
    rw [List.nodup_append] at nd2
    exact ⟨w, g2, q w H F b.ext ⟨Sb, h, nd2.1, fun a ha => ⟨b.new a (by rw [g3]; simp [ha]), st.nf a (by rw [g3]; simp [ha])⟩⟩⟩
theorem s_retN {pos : Pos} {φ' : List Nat} : PS X (.Return none pos) (RdS X.K φ 0 φ' φl fun ρ => some (.rt .non)) := by
  refine psI ps_retN fun D σ H ⟨H0, F0, ρ, F, S, st, b, o, e, q⟩ => ?_
  cases e
  exact q _ _ _ b.ext (own0 (sv_rep rfl))
theorem s_if {w : Expr} {x y : List Stmt} {pos : Pos} {t : List D → Option Bool} {f1 f2 : List D → Option Out} {φ' : List Nat} (h : PT X w (RdT X.K φ t)) (h1 : PSs X x (RdS X.K φ rk φ' φl f1)) (h2 : PSs X y (RdS X.K φ rk φ' φl f2)) :
    PS X (.If w x y pos) (RdS X.K φ rk φ' φl fun ρ => (t ρ).bind fun t => if t then f1 ρ else f2 ρ) := by
  refine psI (ps_if h h1 h2) fun D σ H ⟨H0, F0, ρ, F, S, st, b, o, e, q⟩ => ?_
  obtain ⟨r, er, e⟩ := bind_some e
  refine ⟨ρ, F, S, st, r, er, fun H' F' e1 => ?_⟩
  cases r with
  | true => exact ⟨H0, F0, ρ, F', S, st.ext e1, b.on e1, o, e, q⟩
  | false => exact ⟨H0, F0, ρ, F', S, st.ext e1, b.on e1, o, e, q⟩
theorem s_seq {x : Stmt} {y : List Stmt} {f1 f2 : List D → Option Out} {φ1 φ' : List Nat} (h1 : PS X x (RdS X.K φ rk φ1 φl f1)) (h2 : PSs X y (RdS X.K φ1 rk φ' φl f2)) :
    PSs X (x :: y) (RdS X.K φ rk φ' φl fun ρ => (f1 ρ).bind fun o => match o with
      | .nx ρ' => f2 ρ'
      | o => some o) := by
  refine pssI (pss_cons h1 h2) fun D σ H ⟨H0, F0, ρ, F, S, st, b, o, e, q⟩ => ?_
  obtain ⟨r, er, e⟩ := bind_some e
  refine ⟨H0, F0, ρ, F, S, st, b, r, er, ?_⟩
  cases r with
  | nx ρ' => exact fun σ' H' F' S' s1 b1 => ⟨H0, F0, ρ', F', S', s1, b1, o, e, q⟩
  | rt d => cases e; exact q
  | bk d => cases e; exact q
  | ct d => cases e; exact q
/-- .. that ends here -/
theorem s_dead {x : Stmt} {y : List Stmt} {f1 f2 : List D → Option Out} {φ' : List Nat} (h1 : ∀ φ1, PS X x (RdS X.K φ rk φ1 φl f1)) (hn : ∀ ρ ρ', f1 ρ ≠ some (.nx ρ')) :
    PSs X (x :: y) (RdS X.K φ rk φ' φl fun ρ => (f1 ρ).bind fun o => match o with
      | .nx ρ' => f2 ρ'
      | o => some o) := by
  refine pssI (pss_cons (h1 []) (pss_never (sts := y))) fun D σ H ⟨H0, F0, ρ, F, S, st, b, o, e, q⟩ => ?_
  obtain ⟨r, er, e⟩ := bind_some e
  refine ⟨H0, F0, ρ, F, S, st, b, r, er, ?_⟩
  cases r with
  | nx ρ' => exact absurd er (hn _ _)
  | rt d => cases e; exact q
  | bk d => cases e; exact q
  | ct d => cases e; exact q
theorem s_frz {y : List Stmt} {f : List D → Option Out} {φ' : List Nat} : ∀ (is : List Nat), (∀ i ∈ is, i < φ.length) → PSs X y (RdS X.K (φ0 φ is) rk φ' φl f) → PSs X y (RdS X.K φ rk φ' φl f) := by
  intro is hi h
  refine pssI h fun D σ H ⟨H0, F0, ρ, F, S, st, b, o, e, q⟩ => ?_
  have go : ∀ is : List Nat, (∀ i ∈ is, i < φ.length) → ∃ F' S', Sta X.K (φ0 φ is) ρ σ H F' S' ∧ Bs F0 H0 F' H S' := by
    intro is
    induction is with
    | nil => exact fun _ => ⟨F, S, st, b⟩
    | cons v vs ih =>
      intro hi
      obtain ⟨F1, S1, s1, b1⟩ := ih fun i h => hi i (.tail _ h)
      obtain ⟨F2, S2, s2, u1, u2, u3⟩ := s1.freeze (i := v) (by rw [φ0_len]; exact hi v (.head _))
      refine ⟨F2, S2, s2, ⟨b1.ext.same, fun a h => u1 a (b1.ext.up a h), fun a h => ?_, s2.fo⟩, fun a h => b1.new a (u3 a h)⟩
      rcases u2 a h with h | h
      · exact b1.ext.new a h
      · exact .inr (b1.new a h)
  obtain ⟨F', S', s', b'⟩ := go is hi
  exact ⟨H0, F0, ρ, F', S', s', b', o, e, q⟩
theorem s_while {w : Expr} {y : List Stmt} {pos : Pos} {t : List D → Option Bool} {f : List D → Option Out} (g : GS X c fr Φ k) (h : PT X w (RdT X.K φ t)) (h1 : PSs X y (RdS X.K φ rk φ φ f)) : PS X (.While w y [] pos) (RdS X.K φ rk φ φl (whD t f)) := by
  refine psI (ps_while (by rw [g.nox]; exact PassesOwn.never) h h1) fun D σ H ⟨H0, F0, ρ, F, S, st, b, o, e, q⟩ => ?_
  obtain ⟨n, hn⟩ := whD_N t f _ _ e
  refine ⟨fun n σ H => ∃ ρ F S, Sta X.K φ ρ σ H F S ∧ Bs F0 H0 F H S ∧ whN t f n ρ = some o, ⟨n, ρ, F, S, st, b, hn⟩, ?_⟩
  rintro m σ H ⟨ρ, F, S, st, b, hn⟩
  cases m with
  | zero => cases hn
  | succ m =>
    rw [whN] at hn
    obtain ⟨r, er, hn⟩ := bind_some hn
    refine ⟨ρ, F, S, st, r, er, fun H' F' e1 => ?_⟩
    cases r with
    | false =>
      rw [if_neg Bool.false_ne_true] at hn ⊢
      cases hn
      exact q _ _ _ _ (st.ext e1) (b.on e1)
    | true =>
      rw [if_pos rfl] at hn ⊢
      obtain ⟨o1, e2, hn⟩ := bind_some hn
      refine ⟨_, fun σ' H' hw => ⟨m, Nat.lt_succ_self m, hw⟩, H0, F0, ρ, F', S, st.ext e1, b.on e1, o1, e2, ?_⟩
      cases o1 with
      | nx ρ' => exact fun σ' H' F' S' s1 b1 => ⟨ρ', F', S', s1, b1, hn⟩
      | ct ρ' => exact fun σ' H' F' S' s1 b1 => ⟨ρ', F', S', s1, b1, hn⟩
      | bk ρ' => cases hn; exact q
      | rt d => cases hn; exact q
theorem s_for {tg i : Expr} {y : List Stmt} {pos : Pos} {t : Tgt} {w : List D → Option (List D)} {f : List D → Option Out} (g : GS X c fr Φ k) (ht : agG t c tg = true) (hp : plainE i = true) (h : PI X tg i (RdI X.K φ true w)) (hf : flT φ t = φ) (hi : ∀ i ∈ tIx t, i < φ.length)
    (h1 : PSs X y (RdS X.K φ rk φ φ f)) : PS X (.For tg i y [] pos) (RdS X.K φ rk φ φl fun ρ => (w ρ).bind fun xs => forD (fun x ρ => (asgD t x ρ).bind f) xs ρ) := by
  refine psI (ps_for (by rw [g.nox]; exact PassesOwn.never) g.calm h (g_ok g.toGX t tg ht) h1 (fun x => plain_fold hp _ _)) fun D σ H ⟨H0, F0, ρ, F, S, st, b, o, e, q⟩ => ?_
  obtain ⟨ds, eds, e⟩ := bind_some e
  refine ⟨ρ, F, S, st, ds, eds, fun J G H1 F1 e1 wk => ?_⟩
  have st1 := st.ext e1
  have b1 := b.on e1
  obtain ⟨Hb, bb, back⟩ := b1.re st1.nf
  refine for_it wk.walk (fun i σ H => ∃ ρ F S, Sta X.K φ ρ σ H F S ∧ Bs F1 Hb F H S ∧ forD (fun x ρ => (asgD t x ρ).bind f) (ds.drop i) ρ = some o) ⟨ρ, F1, S, st1, bb, by simpa using e⟩ ?_ ?_ ?_
  · rintro i σ H _ ⟨ρ, F, S, st, b, _⟩
    exact wk.stay H F (back _ _ _ b).2 (.inl rfl)
  · rintro i x σ H H' hi' ⟨ρ, F, S, st, b, e⟩ y
    obtain ⟨F2, d, hd, e2, r2⟩ := wk.item i H x H' hi' (wk.stay H F (back _ _ _ b).2 (.inl rfl)) y F (back _ _ _ b).2 st.fo
    rw [List.drop_eq_getElem_cons hi'] at e
    have hd' : ds[i] = d := by
      rw [List.getElem?_eq_getElem hi'] at hd
      exact Option.some.inj hd
    rw [hd'] at e
    unfold forD at e
    obtain ⟨o1, eo, e⟩ := bind_some e
    obtain ⟨ρ1, ea, eo⟩ := bind_some eo
    refine g_data t ea hi (st.ext e2) r2 fun σ' S' s' hs' _ => ?_
    rw [hf] at s'
    refine ⟨Hb, F1, ρ1, F2, S', s', (b.on e2).sub fun a ha => .inl (hs' a ha), o1, eo, ?_⟩
    cases o1 with
    | nx ρ' => exact fun σ' H' F' S' s1 b1 => ⟨ρ', F', S', s1, b1, e⟩
    | ct ρ' => exact fun σ' H' F' S' s1 b1 => ⟨ρ', F', S', s1, b1, e⟩
    | bk ρ' => cases e; exact fun σ' H' F' S' s1 b1 => q _ _ _ _ s1 (back _ _ _ b1).1
    | rt d =>
      cases e
      intro v H' F' e3 r3
      have z := back F' H' [] ⟨e3, fun _ h => nomatch h⟩
      refine q v H' F' z.1.ext ?_
      obtain ⟨S3, o3, n3, h3⟩ := r3
      refine ⟨S3, o3, n3, fun a ha => ⟨?_, (h3 a ha).2⟩⟩
      have := back F' H' S3 ⟨e3, fun a ha => (h3 a ha).1⟩
      exact this.1.new a ha
  · rintro σ H ⟨ρ, F, S, st, b, e⟩
    rw [List.drop_length] at e
    cases e
    exact q _ _ _ _ st (back _ _ _ b).1
end
end Ev

namespace Ev
open PySem PySem.Spec PyProof.Rows L2

section
variable {X : Cx} {c : AC} {fr : List Nat} {Φ : Fns} {k : Nat} {φ : List Nat} {rk : Nat} {φl : List Nat}
theorem res_new {K : PySem.W.Frag} {F1 F2 : Pa} {H0 H1 H2 : Hp} {kk : Nat} {d : Ev.D} {v : V} {S : List Addr} (r : (Res.own kk).ok K H0 F1 H1 d v) (e : Ext F1 H1 F2 H2) (hs : ∀ a ∈ S, (H0 a).isSome = true) :
    ∃ Sn, Own K F2 H2 kk d v Sn ∧ Sn.Nodup ∧ ∀ a ∈ Sn, (a ∉ S ∧ ¬ F2 a) ∧ H0 a = none ∧ (H1 a).isSome = true := by
  obtain ⟨Sn, o, n, h⟩ := r
  exact ⟨Sn, o.mono e.same e.up, n, fun a ha => ⟨⟨fun z => some_none (hs a z) (h a ha).1, not_new e (o.there a ha) (h a ha).2⟩, (h a ha).1, o.there a ha⟩⟩
theorem s_par2 {x y : Str} {px py pt p2 pos : Pos} {kt k2 : Nat} {a b : Expr} {i j ki kj : Nat} {f1 f2 : Sem1} (g : GS X c fr Φ k) (hx : c.N[i]? = some x) (hy : c.N[j]? = some y) (hij : i ≠ j) (hp1 : plainE a = true) (hp2 : plainE b = true)
    (hs : yesSw c [.Name x px, .Name y py] [a, b] = true) (hi : i < φ.length) (hj : j < φ.length) (ha : PE X a (RdE X.K φ (.own ki) f1)) (hb : PE X b (RdE X.K φ (.own kj) f2)) :
    PS X (.Assign [.Tuple [.Name x px, .Name y py] kt pt] (.Tuple [a, b] k2 p2) pos) (RdS X.K φ rk ((φ.set i ki).set j kj) φl fun ρ => (f1 ρ).bind fun x => (f2 ρ).map fun y => .nx ((ρ.set i x).set j y)) := by
  have hp : ∀ e ∈ [a, b], plainE e = true := fun e he => by
    simp only [List.mem_cons, List.not_mem_nil, or_false] at he
    rcases he with rfl | rfl
    · exact hp1
    · exact hp2
  obtain ⟨h1, h2, h3⟩ := yes2 (kt := kt) (k2 := k2) (pt := pt) (p2 := p2) g.sc g.kind hp hs
  refine psI (ps_par g.calm g.nd (by rw [g.N]; exact hx) (by rw [g.N]; exact hy) hij h2 h3 (pa_cons ha (pa_cons hb pa_nil (plain_star hp2 _ _)) (plain_star hp1 _ _)) h1) fun D σ H ⟨H0, F0, ρ, F, S, st, b, o, e, q⟩ => ?_
  obtain ⟨x, ex, e⟩ := bind_some e
  obtain ⟨y, ey, rfl⟩ := map_some' e
  refine ⟨ρ, F, S, st, x, ex, fun v H1 F1 e1 r1 => ⟨ρ, F1, S, st.ext e1, y, ey, fun w H2 F2 e2 r2 => ⟨v, w, rfl, ?_⟩⟩⟩
  obtain ⟨S1, o1, n1, m1⟩ := res_new (S := S) r1 e2 st.sl.there
  obtain ⟨S3, o2, n2, m2⟩ := res_new (S := S ++ S1) r2 (.refl e2.fo) (fun a ha => by
    rcases List.mem_append.mp ha with ha | ha
    · exact (st.ext e1).sl.there a ha
    · exact (m1 a ha).2.2)
  obtain ⟨S', s1, hs1⟩ := ((st.ext e1).ext e2).set hi o1 n1 fun a ha => (m1 a ha).1
  obtain ⟨S'', s2, hs2⟩ := s1.set (i := j) (by simpa using hj) o2 n2 fun a ha => ⟨fun z => (m2 a ha).1.1 (by
    rcases hs1 a z with z | z <;> simp [z]), (m2 a ha).1.2⟩
  refine q _ _ _ _ s2 (((b.on e1).on e2).sub fun a ha => ?_)
  rcases hs2 a ha with z | z
  · rcases hs1 a z with z | z
    · exact .inl z
    · exact .inr (b.ext.same.free (m1 a z).2.1)
  · exact .inr ((b.on e1).ext.same.free (m2 a z).2.1)
theorem s_par3 {x y z : Str} {px py pz pt p2 pos : Pos} {kt k2 : Nat} {a b d : Expr} {i j l ki kj kl : Nat} {f1 f2 f3 : Sem1} (g : GS X c fr Φ k) (hx : c.N[i]? = some x) (hy : c.N[j]? = some y) (hz : c.N[l]? = some z) (hij : i ≠ j) (hil : i ≠ l) (hjl : j ≠ l) (hp1 : plainE a = true) (hp2 : plainE b = true) (hp3 : plainE d = true)
    (hs : yesSw c [.Name x px, .Name y py, .Name z pz] [a, b, d] = true) (hi : i < φ.length) (hj : j < φ.length) (hl : l < φ.length) (ha : PE X a (RdE X.K φ (.own ki) f1)) (hb : PE X b (RdE X.K φ (.own kj) f2)) (hd : PE X d (RdE X.K φ (.own kl) f3)) :
    PS X (.Assign [.Tuple [.Name x px, .Name y py, .Name z pz] kt pt] (.Tuple [a, b, d] k2 p2) pos) (RdS X.K φ rk (((φ.set i ki).set j kj).set l kl) φl fun ρ => (f1 ρ).bind fun x => (f2 ρ).bind fun y => (f3 ρ).map fun z => .nx (((ρ.set i x).set j y).set l z)) := by
  have hp : ∀ e ∈ [a, b, d], plainE e = true := fun e he => by
    simp only [List.mem_cons, List.not_mem_nil, or_false] at he
    rcases he with rfl | rfl | rfl
    · exact hp1
    · exact hp2
    · exact hp3
  obtain ⟨h1, h2, h3, h3'⟩ := yes3 (kt := kt) (k2 := k2) (pt := pt) (p2 := p2) g.sc g.kind hp hs
  refine psI (ps_par3 g.calm g.nd (by rw [g.N]; exact hx) (by rw [g.N]; exact hy) (by rw [g.N]; exact hz) hij hil hjl h2 h3 h3' (pa_cons ha (pa_cons hb (pa_cons hd pa_nil (plain_star hp3 _ _)) (plain_star hp2 _ _)) (plain_star hp1 _ _)) h1) fun D σ H ⟨H0, F0, ρ, F, S, st, b, o, e, q⟩ => ?_
  obtain ⟨x, ex, e⟩ := bind_some e
  obtain ⟨y, ey, e⟩ := bind_some e
  obtain ⟨z, ez, rfl⟩ := map_some' e
  refine ⟨ρ, F, S, st, x, ex, fun v H1 F1 e1 r1 => ⟨ρ, F1, S, st.ext e1, y, ey, fun w H2 F2 e2 r2 => ⟨ρ, F2, S, (st.ext e1).ext e2, z, ez, fun w' H3 F3 e3 r3 => ⟨v, w, w', rfl, ?_⟩⟩⟩⟩
  have st2 := (st.ext e1).ext e2
  obtain ⟨S1, o1, n1, m1⟩ := res_new (S := S) r1 (e2.trans e3) st.sl.there
  obtain ⟨S3, o2, n2, m2⟩ := res_new (S := S ++ S1) r2 e3 (fun a ha => by
    rcases List.mem_append.mp ha with ha | ha
    · exact (st.ext e1).sl.there a ha
    · exact (m1 a ha).2.2)
  obtain ⟨S5, o3, n3, m3⟩ := res_new (S := (S ++ S1) ++ S3) r3 (.refl e3.fo) (fun a ha => by
    rcases List.mem_append.mp ha with ha | ha
    · rcases List.mem_append.mp ha with ha | ha
      · exact st2.sl.there a ha
      · have := (m1 a ha).2.2
        cases q : H1 a with
        | none => rw [q] at this; cases this
        | some o => rw [e2.same _ _ q]; rfl
    · exact (m2 a ha).2.2)
  obtain ⟨S', s1, hs1⟩ := (st2.ext e3).set hi o1 n1 fun a ha => (m1 a ha).1
  obtain ⟨S'', s2, hs2⟩ := s1.set (i := j) (by simpa using hj) o2 n2 fun a ha => ⟨fun z => (m2 a ha).1.1 (by
    rcases hs1 a z with z | z <;> simp [z]), (m2 a ha).1.2⟩
  obtain ⟨S3', s3, hs3⟩ := s2.set (i := l) (by simpa using hl) o3 n3 fun a ha => ⟨fun z => (m3 a ha).1.1 (by
    rcases hs2 a z with z | z
    · rcases hs1 a z with z | z <;> simp [z]
    · simp [z]), (m3 a ha).1.2⟩
  refine q _ _ _ _ s3 ((((b.on e1).on e2).on e3).sub fun a ha => ?_)
  rcases hs3 a ha with z | z
  · rcases hs2 a z with z | z
    · rcases hs1 a z with z | z
      · exact .inl z
      · exact .inr (b.ext.same.free (m1 a z).2.1)
    · exact .inr ((b.on e1).ext.same.free (m2 a z).2.1)
  · exact .inr (((b.on e1).on e2).ext.same.free (m3 a z).2.1)
/-- .. stored in the written order -/
theorem s_parc2 {x y : Str} {px py pt p2 pos : Pos} {kt k2 : Nat} {a b : Expr} {i j ki kj : Nat} {f1 f2 : Sem1} (g : GS X c fr Φ k) (hx : c.N[i]? = some x) (hy : c.N[j]? = some y) (hp1 : plainE a = true) (hp2 : plainE b = true)
    (l1 : locB c x = true) (l2 : locB c y = true) (hs : noSw c (.Tuple [.Name x px, .Name y py] kt pt) (.Tuple [a, b] k2 p2) = true) (hi : i < φ.length) (hj : j < φ.length) (ha : PE X a (RdE X.K φ (.own ki) f1)) (hb : PE X b (RdE X.K φ (.own kj) f2)) :
    PS X (.Assign [.Tuple [.Name x px, .Name y py] kt pt] (.Tuple [a, b] k2 p2) pos) (RdS X.K φ rk ((φ.set i ki).set j kj) φl fun ρ => (f1 ρ).bind fun x => (f2 ρ).map fun y => .nx ((ρ.set i x).set j y)) := by
  have L1 := loc_of g.toGX l1
  have L2 := loc_of g.toGX l2
  refine psI (ps_asg (pe_tup (pa_cons ha (pa_cons hb pa_nil (plain_star hp2 _ _)) (plain_star hp1 _ _))) (pg_tup g.calm (pgs_cons (pg_name g.nd (by rw [g.N]; exact hx) L1.1 L1.2) (pgs_cons (pg_name g.nd (by rw [g.N]; exact hy) L2.1 L2.2) pgs_nil))) rfl (sw_noSw g.sc hs) rfl) fun D σ H ⟨H0, F0, ρ, F, S, st, b, o, e, q⟩ => ?_
  obtain ⟨x, ex, e⟩ := bind_some e
  obtain ⟨y, ey, rfl⟩ := map_some' e
  refine ⟨ρ, F, S, st, x, ex, fun v H1 F1 e1 r1 => ⟨ρ, F1, S, st.ext e1, y, ey, fun w H2 F2 e2 r2 => ⟨by show 2 ≤ sizeLine; decide, fun p hp => ?_⟩⟩⟩
  have e3 : Ext F2 H2 F2 (upd H2 p (.tup [v, w])) := Ext.laid e2.fo hp
  refine ⟨p, [v, w], rfl, .inl (.inl upd_same), rfl, v, [w], rfl, w, [], rfl, rfl, ?_⟩
  obtain ⟨S1, o1, n1, m1⟩ := res_new (S := S) r1 (e2.trans e3) st.sl.there
  obtain ⟨S3, o2, n2, m2⟩ := res_new (S := S ++ S1) r2 e3 (fun a ha => by
    rcases List.mem_append.mp ha with ha | ha
    · exact (st.ext e1).sl.there a ha
    · exact (m1 a ha).2.2)
  obtain ⟨S', s1, hs1⟩ := (((st.ext e1).ext e2).ext e3).set hi o1 n1 fun a ha => (m1 a ha).1
  obtain ⟨S'', s2, hs2⟩ := s1.set (i := j) (by simpa using hj) o2 n2 fun a ha => ⟨fun z => (m2 a ha).1.1 (by
    rcases hs1 a z with z | z <;> simp [z]), (m2 a ha).1.2⟩
  refine q _ _ _ _ s2 ((((b.on e1).on e2).on e3).sub fun a ha => ?_)
  rcases hs2 a ha with z | z
  · rcases hs1 a z with z | z
    · exact .inl z
    · exact .inr (b.ext.same.free (m1 a z).2.1)
  · exact .inr ((b.on e1).ext.same.free (m2 a z).2.1)
theorem s_parc3 {x y z : Str} {px py pz pt p2 pos : Pos} {kt k2 : Nat} {a b d : Expr} {i j l ki kj kl : Nat} {f1 f2 f3 : Sem1} (g : GS X c fr Φ k) (hx : c.N[i]? = some x) (hy : c.N[j]? = some y) (hz : c.N[l]? = some z) (hp1 : plainE a = true) (hp2 : plainE b = true) (hp3 : plainE d = true)
    (l1 : locB c x = true) (l2 : locB c y = true) (l3 : locB c z = true) (hs : noSw c (.Tuple [.Name x px, .Name y py, .Name z pz] kt pt) (.Tuple [a, b, d] k2 p2) = true) (hi : i < φ.length) (hj : j < φ.length) (hl : l < φ.length) (ha : PE X a (RdE X.K φ (.own ki) f1)) (hb : PE X b (RdE X.K φ (.own kj) f2)) (hd : PE X d (RdE X.K φ (.own kl) f3)) :
    PS X (.Assign [.Tuple [.Name x px, .Name y py, .Name z pz] kt pt] (.Tuple [a, b, d] k2 p2) pos) (RdS X.K φ rk (((φ.set i ki).set j kj).set l kl) φl fun ρ => (f1 ρ).bind fun x => (f2 ρ).bind fun y => (f3 ρ).map fun z => .nx (((ρ.set i x).set j y).set l z)) := by
  have L1 := loc_of g.toGX l1
  have L2 := loc_of g.toGX l2
  have L3 := loc_of g.toGX l3
  refine psI (ps_asg (pe_tup (pa_cons ha (pa_cons hb (pa_cons hd pa_nil (plain_star hp3 _ _)) (plain_star hp2 _ _)) (plain_star hp1 _ _))) (pg_tup g.calm (pgs_cons (pg_name g.nd (by rw [g.N]; exact hx) L1.1 L1.2) (pgs_cons (pg_name g.nd (by rw [g.N]; exact hy) L2.1 L2.2) (pgs_cons (pg_name g.nd (by rw [g.N]; exact hz) L3.1 L3.2) pgs_nil)))) rfl (sw_noSw g.sc hs) rfl) fun D σ H ⟨H0, F0, ρ, F, S, st, b, o, e, q⟩ => ?_
  obtain ⟨x, ex, e⟩ := bind_some e
  obtain ⟨y, ey, e⟩ := bind_some e
  obtain ⟨z, ez, rfl⟩ := map_some' e
  refine ⟨ρ, F, S, st, x, ex, fun v H1 F1 e1 r1 => ⟨ρ, F1, S, st.ext e1, y, ey, fun w H2 F2 e2 r2 => ⟨ρ, F2, S, (st.ext e1).ext e2, z, ez, fun w' H3 F3 e3 r3 => ⟨by show 3 ≤ sizeLine; decide, fun p hp => ?_⟩⟩⟩⟩
  have e4 : Ext F3 H3 F3 (upd H3 p (.tup [v, w, w'])) := Ext.laid e3.fo hp
  refine ⟨p, [v, w, w'], rfl, .inl (.inl upd_same), rfl, v, [w, w'], rfl, w, [w'], rfl, w', [], rfl, rfl, ?_⟩
  have st2 := (st.ext e1).ext e2
  obtain ⟨S1, o1, n1, m1⟩ := res_new (S := S) r1 ((e2.trans e3).trans e4) st.sl.there
  obtain ⟨S3, o2, n2, m2⟩ := res_new (S := S ++ S1) r2 (e3.trans e4) (fun a ha => by
    rcases List.mem_append.mp ha with ha | ha
    · exact (st.ext e1).sl.there a ha
    · exact (m1 a ha).2.2)
  obtain ⟨S5, o3, n3, m3⟩ := res_new (S := (S ++ S1) ++ S3) r3 e4 (fun a ha => by
    rcases List.mem_append.mp ha with ha | ha
    · rcases List.mem_append.mp ha with ha | ha
      · exact st2.sl.there a ha
      · have := (m1 a ha).2.2
        cases q : H1 a with
        | none => rw [q] at this; cases this
        | some o => rw [e2.same _ _ q]; rfl
    · exact (m2 a ha).2.2)
  obtain ⟨S', s1, hs1⟩ := ((st2.ext e3).ext e4).set hi o1 n1 fun a ha => (m1 a ha).1
  obtain ⟨S'', s2, hs2⟩ := s1.set (i := j) (by simpa using hj) o2 n2 fun a ha => ⟨fun z => (m2 a ha).1.1 (by
    rcases hs1 a z with z | z <;> simp [z]), (m2 a ha).1.2⟩
  obtain ⟨S3', s3, hs3⟩ := s2.set (i := l) (by simpa using hl) o3 n3 fun a ha => ⟨fun z => (m3 a ha).1.1 (by
    rcases hs2 a z with z | z
    · rcases hs1 a z with z | z <;> simp [z]
    · simp [z]), (m3 a ha).1.2⟩
  refine q _ _ _ _ s3 (((((b.on e1).on e2).on e3).on e4).sub fun a ha => ?_)
  rcases hs3 a ha with z | z
  · rcases hs2 a z with z | z
    · rcases hs1 a z with z | z
      · exact .inl z
      · exact .inr (b.ext.same.free (m1 a z).2.1)
    · exact .inr ((b.on e1).ext.same.free (m2 a z).2.1)
  · exact .inr (((b.on e1).on e2).ext.same.free (m3 a z).2.1)
theorem s_aug {x : Str} {px pos : Pos} {v : Expr} {op : Operator} {i : Nat} {sb : Bool} {f : Sem1} (g : GS X c fr Φ k) (hx : c.N[i]? = some x) (hl : locB c x = true) (hk : φ[i]? = some 0) (ho : augM sb op = true) (he : PE X v (RdE X.K φ .bor f)) :
    PS X (.AugAssign (.Name x px) op v pos) (RdS X.K φ rk φ φl fun ρ => (getV ρ i).bind fun x => (f ρ).bind fun y => (augD sb x y).map fun z => .nx (ρ.set i z)) := by
  obtain ⟨l1, l2⟩ := loc_of g.toGX hl
  have ip : PIp X op (ipI fun a b => if sb then a - b else a + b) := by
    cases op <;> simp only [augM, Bool.false_eq_true, Bool.not_eq_true'] at ho <;> subst ho
    · exact ip_add
    · exact ip_sub
  refine psI (ps_aug g.nd (by rw [g.N]; exact hx) l1 he ip l2) fun D σ H ⟨H0, F0, ρ, F, S, st, b, o, e, q⟩ => ?_
  obtain ⟨d, ed, e⟩ := bind_some e
  obtain ⟨y, ey, e⟩ := bind_some e
  obtain ⟨z, ez, rfl⟩ := map_some' e
  obtain ⟨hd, hb⟩ := getV_of ed
  obtain ⟨w, S1, hw, ho', _⟩ := st.get hk hd hb
  cases d <;> cases y <;> simp only [augD, reduceCtorEq, Option.some.injEq] at ez
  subst ez
  refine ⟨w, hw, ρ, F, S, st, _, ey, fun u H' F' e1 r1 => ⟨_, _, rep_int ho'.2, rep_int (bor_of r1), ?_⟩⟩
  have hi : i < φ.length := (List.getElem?_eq_some_iff.mp hk).1
  obtain ⟨S', s1, s2⟩ := fin_set (k := 0) st b e1 (own0 (show Rep X.K F' H' (.int _) (.int _) from sv_rep rfl)) hi
  rw [set_same hk] at s1
  exact q _ _ _ _ s1 s2
theorem plain_few {v : Expr} (hp : plainE v = true) (env : Env) (cpos : Pos) : ((backTo cpos (starEach [v] env)).all (fun x => !x.1) && (backToKw cpos (keywordEach [] env)).all (fun x => x.1.isSome)
      && decide (([v] : List Expr).length + ([] : List Keyword).length + (if ([] : List Keyword).isEmpty then 0 else 1) < 30)) = true := by
  rw [plain_star hp]
  rfl
theorem pe_app {o v : Expr} {ap cp : Pos} {to tv : TE} (hb : attributeBase o ("append" : Str) X.env (eval o X.env) = eval o X.env) (hl : (ap.endLine == cp.line) = true) (hp : plainE v = true) (ho : PE X o to) (hv : PE X v tv) :
    PE X (.Call (.Attribute o ("append" : Str) ap) [v] [] cp) (tBM X.K "list" rAppend to (tCons tv tNil)) :=
  pe_bm PySem.F.plainAttrs_list PySem.F.slot_list_append PySem.F.type_list_append mt_append ho (pa_cons hv pa_nil (plain_star hp _ _)) hb (plain_few hp _ _) hl (plain_star hp _ _) rfl
theorem own_new {K : PySem.W.Frag} {F' : Pa} {H : Hp} {S Sn : List Addr} {F : Pa} {ρ : List D} {σ : L2.St} (st : Sta K φ ρ σ H F S) (hS : ∀ a ∈ Sn, H a = none ∧ ¬ F' a) : ∀ a ∈ Sn, a ∉ S ∧ ¬ F' a := fun a ha => ⟨fun z => some_none (st.sl.there a z) (hS a ha).1, (hS a ha).2⟩
/-- a change at a slot -/
theorem mut_slot {K : PySem.W.Frag} {F0 F : Pa} {H0 H : Hp} {S Sn : List Addr} {ρ : List D} {σ : L2.St} {i kd : Nat} {d d' : Ev.D} {p : Addr} {o : HO} (st : Sta K φ ρ σ H F S) (b : Bs F0 H0 F H S) (hk : φ[i]? = some kd) (hd : ρ[i]? = some d) (hb : d ≠ .bad) (hS : ∀ a ∈ Sn, (a ∉ S ∧ ¬ F a) ∧ H0 a = none)
    (h : ∀ v Sb, σ[i]? = some (some v) → Own K F H kd d v Sb → Sb.Nodup → (∀ a ∈ Sb, a ∈ S) → p ∈ Sb ∧ (Kept F F H (upd H p o) → ∃ Sb', Sb'.Nodup ∧ (∀ a ∈ Sb', a ∈ Sb ∨ a ∈ Sn) ∧ Own K F (upd H p o) kd d' v Sb')) :
    ∃ S', Sta K φ (ρ.set i d') σ (upd H p o) F S' ∧ Bs F0 H0 F (upd H p o) S' := by
  obtain ⟨hp, S', s', hs⟩ := st.upd hk hd hb (fun a ha => (hS a ha).1) h
  exact ⟨S', s', (b.upd st.nf hp).sub fun a ha => (hs a ha).imp id fun h => (hS a h).2⟩
theorem lst_at {K : PySem.W.Frag} {F : Pa} {H : Hp} {j : Nat} {ds : List Ev.D} {v : V} {S : List Addr} (h : Own K F H (j + 1) (.lst ds) v S) : ∃ p vs, v = .ref p ∧ H p = some (.lst vs) ∧ vs.length = ds.length := by
  obtain ⟨p, vs, S', e, h, r, _⟩ := h
  exact ⟨p, vs, e, h, r.len⟩
theorem appD_of {d y z : Ev.D} (h : appD d y = some z) : ∃ ds, d = .lst ds ∧ ds.length < SL ∧ z = .lst (ds ++ [y]) := by
  cases d
  case lst ds =>
    replace h : (if ds.length < SL then some (Ev.D.lst (ds ++ [y])) else none) = some z := h
    rcases ite_some h with ⟨hlen, h⟩ | ⟨_, h⟩
    · cases h
      exact ⟨ds, rfl, hlen, rfl⟩
    · cases h
  all_goals cases h
theorem stoD_of {d i y z : Ev.D} (h : stoD d i y = some z) : ∃ ds n j, d = .lst ds ∧ i = .int n ∧ ixN ds.length n = some j ∧ j < ds.length ∧ z = .lst (ds.set j y) := by
  cases d
  case lst ds =>
    cases i
    case int n =>
      obtain ⟨j, hj, rfl⟩ := map_some' (show (ixN ds.length n).map (fun j => Ev.D.lst (ds.set j y)) = some z from h)
      exact ⟨ds, n, j, rfl, rfl, hj, (ixN_seq hj).2.1, rfl⟩
    all_goals cases h
  all_goals cases h
theorem inD_of {f : Ev.D → Option Ev.D} {d i z : Ev.D} (h : inD f d i = some z) : ∃ ds n j x x', d = .lst ds ∧ i = .int n ∧ ixN ds.length n = some j ∧ j < ds.length ∧ ds[j]? = some x ∧ f x = some x' ∧ z = .lst (ds.set j x') := by
  cases d
  case lst ds =>
    cases i
    case int n =>
      obtain ⟨j, hj, h⟩ := bind_some (show ((ixN ds.length n).bind fun j => (ds[j]?).bind fun x => (f x).map fun x' => Ev.D.lst (ds.set j x')) = some z from h)
      obtain ⟨x, hx, h⟩ := bind_some h
      obtain ⟨x', hx', rfl⟩ := map_some' h
      exact ⟨ds, n, j, x, x', rfl, rfl, hj, (ixN_seq hj).2.1, hx, hx', rfl⟩
    all_goals cases h
  all_goals cases h
theorem s_app {o v : Expr} {ap cp pos : Pos} {i kk : Nat} {f : Sem1} (g : GS X c fr Φ k) (hn : nmB c i o = true) (hl : (ap.endLine == cp.line) = true) (hk : φ[i]? = some (kk + 1)) (hp : plainE v = true) (he : PE X v (RdE X.K φ (.own kk) f)) :
    PS X (.Expr (.Call (.Attribute o ("append" : Str) ap) [v] [] cp) pos) (RdS X.K φ rk φ φl fun ρ => (getV ρ i).bind fun x => (f ρ).bind fun y => (appD x y).map fun z => .nx (ρ.set i z)) := by
  refine psI (ps_expr (pe_app (nm_base hn _ _ _).1 hl hp (nm_of g.toGX hn) he)) fun D σ H ⟨H0, F0, ρ, F, S, st, b, out, e, q⟩ => ?_
  obtain ⟨d, ed, e⟩ := bind_some e
  obtain ⟨y, ey, e⟩ := bind_some e
  obtain ⟨z, ez, rfl⟩ := map_some' e
  obtain ⟨hd, hb⟩ := getV_of ed
  obtain ⟨ds, rfl, hlen, rfl⟩ := appD_of ez
  obtain ⟨w, S1, hw, ho, _⟩ := st.get hk hd hb
  obtain ⟨p, vs, rfl, hpv, hlv⟩ := lst_at ho
  refine ⟨.ref p, hw, .inl ⟨rfl, vs, SqL.of hpv⟩, ρ, F, S, st, y, ey, fun u H' F' e1 ⟨Sn, o1, n1, hS⟩ => ?_⟩
  have hpv' := e1.same _ _ hpv
  refine ⟨p, vs, u, rfl, rfl, hpv', by rw [hlv]; exact hlen, ?_⟩
  have dj := own_new st hS
  obtain ⟨S2, s2, b2⟩ := mut_slot (d' := .lst (ds ++ [y])) (p := p) (o := .lst (vs ++ [u])) (Sn := Sn) (st.ext e1) (b.on e1) hk hd hb (fun a ha => ⟨dj a ha, b.ext.same.free (hS a ha).1⟩) fun v' Sb hv' ho' nd' hsub => by
    rw [hw] at hv'
    cases hv'
    obtain ⟨p', vs', e', h', _, hm, app⟩ := own_app ho' nd'
    cases e'
    rw [hpv'] at h'
    cases h'
    exact ⟨hm, fun kp => app o1 n1 (fun a ha z => (dj a ha).1 (hsub a z)) kp⟩
  exact q _ _ _ _ s2 b2
theorem plain_asg {i o : Expr} {env : Env} {pos : Pos} (hp : plainE i = true) : ∀ v, assign (.Subscript o i pos) env v = (do
      let ov ← holding [v] (eval o env)
      let iv ← holding [v, ov] (eval i env)
      standAt pos
      holding [v, ov, iv] (setItem ov iv v)
      release [v, ov, iv] []) := by
  intro v
  cases i <;> first | rfl | (simp [plainE] at hp)
theorem s_sto {o t v : Expr} {tp pos : Pos} {i kk : Nat} {f fj : Sem1} (g : GS X c fr Φ k) (hn : nmB c i o = true) (hk : φ[i]? = some (kk + 1)) (hp : plainE t = true) (he : PE X v (RdE X.K φ (.own kk) f)) (hj : PE X t (RdE X.K φ .bor fj)) :
    PS X (.Assign [.Subscript o t tp] v pos) (RdS X.K φ rk φ φl fun ρ => (f ρ).bind fun y => (getV ρ i).bind fun x => (fj ρ).bind fun n => (stoD x n y).map fun z => .nx (ρ.set i z)) := by
  refine psI (ps_asg he (pg_sub (nm_of g.toGX hn) hj set_list (plain_asg hp)) (show swapsWith v (some (.Subscript o t tp)) pos.line X.env = pure false from sw_sub) (by cases v <;> rfl) rfl) fun D σ H ⟨H0, F0, ρ, F, S, st, b, out, e, q⟩ => ?_
  obtain ⟨y, ey, e⟩ := bind_some e
  obtain ⟨d, ed, e⟩ := bind_some e
  obtain ⟨n, en, e⟩ := bind_some e
  obtain ⟨z, ez, rfl⟩ := map_some' e
  obtain ⟨hd, hb⟩ := getV_of ed
  obtain ⟨ds, n, j, rfl, rfl, hj1, hj2, rfl⟩ := stoD_of ez
  obtain ⟨w, S1, hw, ho, _⟩ := st.get hk hd hb
  obtain ⟨p, vs, rfl, hpv, hlv⟩ := lst_at ho
  refine ⟨ρ, F, S, st, y, ey, fun u H' F' e1 ⟨Sn, o1, n1, hS⟩ => ⟨.ref p, hw, ρ, F', S, st.ext e1, _, en, fun u2 H2 F2 e2 r2 => ?_⟩⟩
  have hpv' := e2.same _ _ (e1.same _ _ hpv)
  refine ⟨p, vs, n, j, rfl, rep_int (bor_of r2), hpv', by rw [hlv]; exact hj1, ?_⟩
  have dj := own_new st hS
  have nF2 : ∀ a ∈ Sn, ¬ F2 a := fun a ha => not_new e2 (o1.there a ha) (hS a ha).2
  obtain ⟨S2, s2, b2⟩ := mut_slot (d' := .lst (ds.set j y)) (p := p) (o := .lst (vs.set j u)) (Sn := Sn) ((st.ext e1).ext e2) ((b.on e1).on e2) hk hd hb (fun a ha => ⟨⟨(dj a ha).1, nF2 a ha⟩, b.ext.same.free (hS a ha).1⟩) fun v' Sb hv' ho' nd' hsub => by
    rw [hw] at hv'
    cases hv'
    obtain ⟨p', vs', e', h', _, hm, sto⟩ := own_sto ho' nd'
    cases e'
    rw [hpv'] at h'
    cases h'
    exact ⟨hm, fun kp => sto hj2 (o1.mono e2.same e2.up) n1 (fun a ha z => (dj a ha).1 (hsub a z)) kp⟩
  exact q _ _ _ _ s2 b2
/-- x[j], its own address -/
theorem s_app1 {o t v : Expr} {tp ap cp pos : Pos} {i kk : Nat} {f fj : Sem1} (g : GS X c fr Φ k) (hn : nmB c i o = true) (hl : (ap.endLine == cp.line) = true) (hk : φ[i]? = some (kk + 2)) (hp : plainE v = true) (hpt : plainE t = true) (he : PE X v (RdE X.K φ (.own kk) f)) (hj : PE X t (RdE X.K φ .bor fj)) :
    PS X (.Expr (.Call (.Attribute (.Subscript o t tp) ("append" : Str) ap) [v] [] cp) pos) (RdS X.K φ rk φ φl fun ρ => (getV ρ i).bind fun x => (fj ρ).bind fun n => (f ρ).bind fun y => (inD (fun d => appD d y) x n).map fun z => .nx (ρ.set i z)) := by
  refine psI (ps_expr (pe_app rfl hl hp (pe_ix ix_seq (nm_of g.toGX hn) hj (plain_ix hpt)) he)) fun D σ H ⟨H0, F0, ρ, F, S, st, b, out, e, q⟩ => ?_
  obtain ⟨d, ed, e⟩ := bind_some e
  obtain ⟨n, en, e⟩ := bind_some e
  obtain ⟨y, ey, e⟩ := bind_some e
  obtain ⟨z, ez, rfl⟩ := map_some' e
  obtain ⟨hd, hb⟩ := getV_of ed
  obtain ⟨ds, n, j, x, x', rfl, rfl, hj1, hj2, hjx, hx', rfl⟩ := inD_of ez
  obtain ⟨es, rfl, hlen, rfl⟩ := appD_of hx'
  obtain ⟨w, S1, hw, ho, _⟩ := st.get hk hd hb
  obtain ⟨p, vs, rfl, hpv, hlv⟩ := lst_at ho
  refine ⟨.ref p, hw, ρ, F, S, st, _, en, fun u2 H2 F2 e2 r2 => ?_⟩
  obtain ⟨d0, o0, Sa, Sb, Sc, g1, g2, g3, g4, g5⟩ := (st.ext e2).sl.split hk
  rw [hd] at g1
  cases g1
  rw [hw] at g2
  cases g2
  rcases g4 with ⟨g4, _⟩ | ⟨w', g2, g4⟩
  · cases g4
  cases g2
  have ndb : Sb.Nodup := by
    have := st.nd
    rw [g3, List.nodup_append] at this
    have := this.2.1
    rw [List.nodup_append] at this
    exact this.1
  obtain ⟨p', vs', wi, Si, e', hpi, hli, hwi, hoi, ndi, hsi, _⟩ := own_in g4 ndb hjx
  cases e'
  obtain ⟨pi, vi, rfl, hpvi, hlvi⟩ := lst_at hoi
  refine .inl ⟨p, vs', n, .ref pi, rfl, rep_int (bor_of r2), SqL.of hpi, by unfold atI; rw [hli, hj1]; exact hwi, ?_⟩
  refine ⟨.inl ⟨rfl, vi, SqL.of hpvi⟩, ρ, F2, S, st.ext e2, y, ey, fun u H' F' e1 ⟨Sn, o1, n1, hS⟩ => ?_⟩
  have hpvi' := e1.same _ _ hpvi
  refine ⟨pi, vi, u, rfl, rfl, hpvi', by rw [hlvi]; exact hlen, ?_⟩
  have dj := own_new (st.ext e2) hS
  obtain ⟨S2, s2, b2⟩ := mut_slot (d' := .lst (ds.set j (.lst (es ++ [y])))) (p := pi) (o := .lst (vi ++ [u])) (Sn := Sn) ((st.ext e2).ext e1) ((b.on e2).on e1) hk hd hb (fun a ha => ⟨dj a ha, (b.on e2).ext.same.free (hS a ha).1⟩) fun v' Sb' hv' ho' nd' hsub => by
    rw [hw] at hv'
    cases hv'
    obtain ⟨p'', vs'', wi', Si', e', hpi', hli', hwi', hoi', ndi', hsi', back⟩ := own_in ho' nd' hjx
    cases e'
    rw [e1.same _ _ hpi] at hpi'
    cases hpi'
    rw [hwi] at hwi'
    cases hwi'
    obtain ⟨p3, vs3, e3, h3, _, hm, app⟩ := own_app hoi' ndi'
    cases e3
    rw [hpvi'] at h3
    cases h3
    refine ⟨hsi' _ hm, fun kp => ?_⟩
    obtain ⟨Sb2, q1, q2, q3⟩ := app o1 n1 (fun a ha z => (dj a ha).1 (hsub a (hsi' a z))) kp
    exact back hm kp (fun a ha z => (dj a ha).1 (hsub a z)) q3 q1 q2
  exact q _ _ _ _ s2 b2
theorem extD_of {d y z : Ev.D} (h : extD d y = some z) : ∃ ds ys, d = .lst ds ∧ y = .lst ys ∧ ds.length + ys.length ≤ SL ∧ z = .lst (ds ++ ys) := by
  cases d
  case lst ds =>
    cases y
    case lst ys =>
      replace h : (if ds.length + ys.length ≤ SL then some (Ev.D.lst (ds ++ ys)) else none) = some z := h
      rcases ite_some h with ⟨hlen, h⟩ | ⟨_, h⟩
      · cases h
        exact ⟨ds, ys, rfl, rfl, hlen, rfl⟩
      · cases h
    all_goals cases h
  all_goals cases h
theorem pe_ext {o v : Expr} {ap cp : Pos} {to tv : TE} (hb : attributeBase o ("extend" : Str) X.env (eval o X.env) = eval o X.env) (hl : (ap.endLine == cp.line) = true) (hp : plainE v = true) (ho : PE X o to) (hv : PE X v tv) :
    PE X (.Call (.Attribute o ("extend" : Str) ap) [v] [] cp) (tBM X.K "list" rExtend to (tCons tv tNil)) :=
  pe_bm PySem.F.plainAttrs_list PySem.F.slot_list_extend PySem.F.type_list_extend mt_extend ho (pa_cons hv pa_nil (plain_star hp _ _)) hb (plain_few hp _ _) hl (plain_star hp _ _) rfl
theorem s_ext {o v : Expr} {ap cp pos : Pos} {i kk : Nat} {f : Sem1} (g : GS X c fr Φ k) (hn : nmB c i o = true) (hl : (ap.endLine == cp.line) = true) (hk : φ[i]? = some (kk + 1)) (hp : plainE v = true) (he : PE X v (RdE X.K φ (.own (kk + 1)) f)) :
    PS X (.Expr (.Call (.Attribute o ("extend" : Str) ap) [v] [] cp) pos) (RdS X.K φ rk φ φl fun ρ => (getV ρ i).bind fun x => (f ρ).bind fun y => (extD x y).map fun z => .nx (ρ.set i z)) := by
  refine psI (ps_expr (pe_ext (nm_base hn _ _ _).1 hl hp (nm_of g.toGX hn) he)) fun D σ H ⟨H0, F0, ρ, F, S, st, b, out, e, q⟩ => ?_
  obtain ⟨d, ed, e⟩ := bind_some e
  obtain ⟨y, ey, e⟩ := bind_some e
  obtain ⟨z, ez, rfl⟩ := map_some' e
  obtain ⟨hd, hb⟩ := getV_of ed
  obtain ⟨ds, ys, rfl, rfl, hlen, rfl⟩ := extD_of ez
  obtain ⟨w, S1, hw, ho, _⟩ := st.get hk hd hb
  obtain ⟨p, vs, rfl, hpv, hlv⟩ := lst_at ho
  refine ⟨.ref p, hw, .inl ⟨rfl, vs, SqL.of hpv⟩, ρ, F, S, st, _, ey, fun u H' F' e1 ⟨Sn, o1, n1, hS⟩ => ?_⟩
  have hpv' := e1.same _ _ hpv
  obtain ⟨p2, vs2, S2', rfl, hp2, r2, rfl⟩ := id o1
  have hlv2 : vs2.length = ys.length := r2.len
  refine ⟨p, p2, vs, vs2, rfl, rfl, hpv', hp2, by rw [hlv, hlv2]; exact hlen, ?_⟩
  have dj := own_new st hS
  rw [List.nodup_cons] at n1
  obtain ⟨S2, s2, b2⟩ := mut_slot (d' := .lst (ds ++ ys)) (p := p) (o := .lst (vs ++ vs2)) (Sn := S2') (st.ext e1) (b.on e1) hk hd hb (fun a ha => ⟨dj a (.tail _ ha), b.ext.same.free (hS a (.tail _ ha)).1⟩) fun v' Sb hv' ho' nd' hsub => by
    rw [hw] at hv'
    cases hv'
    obtain ⟨p', vs', S', e', h', r', rfl⟩ := ho'
    cases e'
    rw [hpv'] at h'
    cases h'
    rw [List.nodup_cons] at nd'
    refine ⟨.head _, fun kp => ⟨p :: (S' ++ S2'), ?_, fun a ha => ?_, p, vs ++ vs2, S' ++ S2', rfl, upd_same, ?_, rfl⟩⟩
    · rw [List.nodup_cons, List.nodup_append]
      refine ⟨fun z => ?_, nd'.2, n1.2, fun a ha c hc e => (dj c (.tail _ hc)).1 (hsub c (.tail _ (e ▸ ha)))⟩
      rcases List.mem_append.mp z with z | z
      · exact nd'.1 z
      · exact (dj p (.tail _ z)).1 (hsub p (.head _))
    · rcases List.mem_cons.mp ha with rfl | ha
      · exact .inl (.head _)
      · rcases List.mem_append.mp ha with ha | ha
        · exact .inl (.tail _ ha)
        · exact .inr ha
    · refine AllO.app (r'.imp fun d v S'' hs h => own_kept1 kp nd'.1 hs h) (r2.imp fun d v S'' hs h => own_kept1 kp (Sr := S2') (fun z => (dj p (.tail _ z)).1 (hsub p (.head _))) hs h)
  exact q _ _ _ _ s2 b2
end
end Ev

namespace Ev
open PySem PySem.Spec PyProof.Rows L2

section
variable {X : Cx} {c : AC} {fr : List Nat} {Φ : Fns} {k : Nat} {φ : List Nat} {rk : Nat} {φl : List Nat}
theorem s_sto1 {o t u v : Expr} {tp up pos : Pos} {i kk : Nat} {f fj fl : Sem1} (g : GS X c fr Φ k) (hn : nmB c i o = true) (hk : φ[i]? = some (kk + 2)) (hp : plainE t = true) (hpu : plainE u = true) (he : PE X v (RdE X.K φ (.own kk) f)) (hj : PE X t (RdE X.K φ .bor fj)) (hl : PE X u (RdE X.K φ .bor fl)) :
    PS X (.Assign [.Subscript (.Subscript o t tp) u up] v pos) (RdS X.K φ rk φ φl fun ρ => (f ρ).bind fun y => (getV ρ i).bind fun x => (fj ρ).bind fun n => (fl ρ).bind fun m => (inD (fun d => stoD d m y) x n).map fun z => .nx (ρ.set i z)) := by
  refine psI (ps_asg he (pg_sub (pe_ix ix_seq (nm_of g.toGX hn) hj (plain_ix hp)) hl set_list (plain_asg hpu)) (show swapsWith v (some (.Subscript (.Subscript o t tp) u up)) pos.line X.env = pure false from sw_sub) (by cases v <;> rfl) rfl) fun D σ H ⟨H0, F0, ρ, F, S, st, b, out, e, q⟩ => ?_
  obtain ⟨y, ey, e⟩ := bind_some e
  obtain ⟨d, ed, e⟩ := bind_some e
  obtain ⟨n, en, e⟩ := bind_some e
  obtain ⟨m, em, e⟩ := bind_some e
  obtain ⟨z, ez, rfl⟩ := map_some' e
  obtain ⟨hd, hb⟩ := getV_of ed
  obtain ⟨ds, n, j, x, x', rfl, rfl, hj1, hj2, hjx, hx', rfl⟩ := inD_of ez
  obtain ⟨es, m, j', rfl, rfl, hl1, hl2, rfl⟩ := stoD_of hx'
  obtain ⟨w, S1, hw, ho, _⟩ := st.get hk hd hb
  obtain ⟨p, vs, rfl, hpv, hlv⟩ := lst_at ho
  refine ⟨ρ, F, S, st, y, ey, fun u H1 F1 e1 ⟨Sn, o1, n1, hS⟩ => ⟨.ref p, hw, ρ, F1, S, st.ext e1, _, en, fun u2 H2 F2 e2 r2 => ?_⟩⟩
  obtain ⟨d0, o0, Sa, Sb, Sc, g1, g2, g3, g4, g5⟩ := ((st.ext e1).ext e2).sl.split hk
  rw [hd] at g1
  cases g1
  rw [hw] at g2
  cases g2
  rcases g4 with ⟨g4, _⟩ | ⟨w', g2, g4⟩
  · cases g4
  cases g2
  have ndb : Sb.Nodup := by
    have := st.nd
    rw [g3, List.nodup_append] at this
    have := this.2.1
    rw [List.nodup_append] at this
    exact this.1
  obtain ⟨p', vs', wi, Si, e', hpi, hli, hwi, hoi, ndi, hsi, _⟩ := own_in g4 ndb hjx
  cases e'
  obtain ⟨pi, vi, rfl, hpvi, hlvi⟩ := lst_at hoi
  refine .inl ⟨p, vs', n, .ref pi, rfl, rep_int (bor_of r2), SqL.of hpi, by unfold atI; rw [hli, hj1]; exact hwi, ?_⟩
  refine ⟨ρ, F2, S, (st.ext e1).ext e2, _, em, fun u3 H3 F3 e3 r3 => ?_⟩
  have hpvi' := e3.same _ _ hpvi
  refine ⟨pi, vi, m, j', rfl, rep_int (bor_of r3), hpvi', by rw [hlvi]; exact hl1, ?_⟩
  have dj := own_new st hS
  have o3 := (o1.mono e2.same e2.up).mono e3.same e3.up
  have nF3 : ∀ a ∈ Sn, ¬ F3 a := fun a ha => not_new (e2.trans e3) (o1.there a ha) (hS a ha).2
  obtain ⟨S2, s2, b2⟩ := mut_slot (d' := .lst (ds.set j (.lst (es.set j' y)))) (p := pi) (o := .lst (vi.set j' u)) (Sn := Sn) (((st.ext e1).ext e2).ext e3) (((b.on e1).on e2).on e3) hk hd hb (fun a ha => ⟨⟨(dj a ha).1, nF3 a ha⟩, b.ext.same.free (hS a ha).1⟩) fun v' Sb' hv' ho' nd' hsub => by
    rw [hw] at hv'
    cases hv'
    obtain ⟨p'', vs'', wi', Si', e', hpi', hli', hwi', hoi', ndi', hsi', back⟩ := own_in ho' nd' hjx
    cases e'
    rw [e3.same _ _ hpi] at hpi'
    cases hpi'
    rw [hwi] at hwi'
    cases hwi'
    obtain ⟨p3, vs3, e4, h3, _, hm, sto⟩ := own_sto hoi' ndi'
    cases e4
    rw [hpvi'] at h3
    cases h3
    refine ⟨hsi' _ hm, fun kp => ?_⟩
    obtain ⟨Sb2, q1, q2, q3⟩ := sto hl2 o3 n1 (fun a ha z => (dj a ha).1 (hsub a (hsi' a z))) kp
    exact back hm kp (fun a ha z => (dj a ha).1 (hsub a z)) q3 q1 q2
  exact q _ _ _ _ s2 b2
def rGetL (K : PySem.W.Frag) : V → V → Hp → VK → Prop := fun o i H Q => ∃ p xs n z, o = .ref p ∧ i = .int n ∧ SqL K H p xs ∧ atI xs n = some z ∧ Q z H
theorem get_list : PGet X (rGetL X.K) := by
  intro pins s σ H o i ov iv Q I ro ri h
  obtain ⟨p, xs, i, z, rfl, rfl, hq, he, q⟩ := h
  cases ro
  obtain ⟨t, rfl⟩ := ri
  obtain ⟨its, r, pl, hz⟩ := I.list hq
  obtain ⟨j, h1, h2, h3, h4, h5⟩ := atI_get he
  obtain ⟨w, ew, rw'⟩ := r.get h2
  have hl := r.length
  have hn := line63
  have fin : EP X pins σ Q w s := ⟨z, H, I, rw', q⟩
  by_cases h0 : 0 ≤ i
  · have hj : i.toNat = j := by
      rw [seqIndex_of h0 h5] at h1
      exact Option.some.inj h1
    exact wpAny_getItem_list pl.isList h0 (by omega) (by rw [hj]; simpa using ew) fin
  · have hj : (i + (its.toArray.size : Int)).toNat = j := by
      rw [seqIndex_neg (by omega) h4] at h1
      rw [List.size_toArray, ← hl]
      exact Option.some.inj h1
    exact wpAny_getItem_list_neg pl.isList (by omega) (by rw [List.size_toArray] <;> omega) (by omega) (by rw [hj]; simpa using ew) fin
theorem plain_aug {i : Expr} (hp : plainE i = true) : ∀ ov iv new, augStore i ov iv new = (do holding [new, ov, iv] (setItem ov iv new); release [new, ov, iv] []; pure .next) := by
  intro ov iv new
  cases i <;> first | rfl | (simp [plainE] at hp)
theorem ip_of {op : Operator} {sb : Bool} (ho : augM sb op = true) : PIp X op (ipI fun a b => if sb then a - b else a + b) := by
  cases op <;> simp only [augM, Bool.false_eq_true, Bool.not_eq_true'] at ho <;> subst ho
  · exact ip_add
  · exact ip_sub
theorem s_augs {o t v : Expr} {tp pos : Pos} {op : Operator} {i : Nat} {sb : Bool} {f fj : Sem1} (g : GS X c fr Φ k) (hn : nmB c i o = true) (hk : φ[i]? = some 1) (ho : augM sb op = true) (hp : plainE t = true) (hj : PE X t (RdE X.K φ .bor fj)) (he : PE X v (RdE X.K φ .bor f)) :
    PS X (.AugAssign (.Subscript o t tp) op v pos) (RdS X.K φ rk φ φl fun ρ => (getV ρ i).bind fun x => (fj ρ).bind fun n => (f ρ).bind fun y => (inD (fun d => augD sb d y) x n).map fun z => .nx (ρ.set i z)) := by
  refine psI (ps_augS (nm_of g.toGX hn) hj get_list he (ip_of ho) set_list (plain_aug hp)) fun D σ H ⟨H0, F0, ρ, F, S, st, b, out, e, q⟩ => ?_
  obtain ⟨d, ed, e⟩ := bind_some e
  obtain ⟨n, en, e⟩ := bind_some e
  obtain ⟨y, ey, e⟩ := bind_some e
  obtain ⟨z, ez, rfl⟩ := map_some' e
  obtain ⟨hd, hb⟩ := getV_of ed
  obtain ⟨ds, n, j, x, x', rfl, rfl, hj1, hj2, hjx, hx', rfl⟩ := inD_of ez
  obtain ⟨a0, b0, rfl, rfl, rfl⟩ : ∃ a b, x = .int a ∧ y = .int b ∧ x' = .int (if sb then a - b else a + b) := by
    cases x <;> cases y <;> simp only [augD, reduceCtorEq, Option.some.injEq] at hx'
    exact ⟨_, _, rfl, rfl, hx'.symm⟩
  obtain ⟨w, S1, hw, ho', _⟩ := st.get hk hd hb
  obtain ⟨p, vs, rfl, hpv, hlv⟩ := lst_at ho'
  have hint : atI vs n = some (.int a0) := by
    obtain ⟨p', vs', S', e', h', r, _⟩ := ho'
    cases e'
    rw [hpv] at h'
    cases h'
    obtain ⟨v, Sa, Sb, Sc, g1, g2, g3, _⟩ := r.split hjx
    unfold atI
    rw [hlv, hj1]
    rw [rep_int g3.2] at g1
    exact g1
  refine ⟨.ref p, hw, ρ, F, S, st, _, en, fun u1 H1 F1 e1 r1 => ?_⟩
  refine ⟨p, vs, n, .int a0, rfl, rep_int (bor_of r1), SqL.of (e1.same _ _ hpv), hint, ρ, F1, S, st.ext e1, _, ey, fun u2 H2 F2 e2 r2 => ?_⟩
  refine ⟨a0, b0, rfl, rep_int (bor_of r2), ?_⟩
  have hpv' := e2.same _ _ (e1.same _ _ hpv)
  refine ⟨p, vs, n, j, rfl, rep_int (bor_of r1), hpv', by rw [hlv]; exact hj1, ?_⟩
  obtain ⟨S2, s2, b2⟩ := mut_slot (d' := .lst (ds.set j (.int (if sb then a0 - b0 else a0 + b0)))) (p := p) (o := .lst (vs.set j (.int (if sb then a0 - b0 else a0 + b0)))) (Sn := []) ((st.ext e1).ext e2) ((b.on e1).on e2) hk hd hb (fun a ha => nomatch ha) fun v' Sb hv' ho' nd' hsub => by
    rw [hw] at hv'
    cases hv'
    obtain ⟨p', vs', e', h', _, hm, sto⟩ := own_sto ho' nd'
    cases e'
    rw [hpv'] at h'
    cases h'
    exact ⟨hm, fun kp => sto hj2 (show Own X.K F2 H2 0 _ _ [] from ⟨rfl, sv_rep rfl⟩) List.nodup_nil (fun a ha => nomatch ha) kp⟩
  exact q _ _ _ _ s2 b2

/-! ### places -/
theorem agP_ns {t : PL} {c : AC} {e : Expr} (h : agP t c e = true) : ∀ (es : List Expr) (env : Env), assignEach (e :: es) env = (false, assign e env) :: assignEach es env := by
  intro es env
  cases e <;> first
    | rfl
    | (exfalso; cases t <;> simp [agP] at h)
theorem flP_len (φ : List Nat) (p : PL) : (flP φ p).length = φ.length := by
  induction p generalizing φ with
  | nm i => simp [flP]
  | sub i j => rfl
  | two a b ha hb => simp only [flP, ha, hb]
  | three a b c ha hb hc => simp only [flP, ha, hb, hc]
  | thrl a b c ha hb hc => simp only [flP, ha, hb, hc]
  | four a b c d ha hb hc hd => simp only [flP, ha, hb, hc, hd]
theorem gtup2 {φ φ1 φ2 : List Nat} {fa fb : Ev.D → List Ev.D → Option (List Ev.D)} {v : V} {σ : L2.St} {H : Hp} {Q : L2.St → Hp → Prop}
    (h : RdG X.K φ φ2 (fun d ρ => (D.t2 d).bind fun p => (fa p.1 ρ).bind (fb p.2)) v σ H Q) : gTup X.K 2 (gCons (RdG X.K φ φ1 fa) (gCons (RdG X.K φ1 φ2 fb) gNil)) v σ H Q := by
  obtain ⟨H0, F0, ρ, F, S, st, b, d, r, ρ', e, q⟩ := h
  obtain ⟨p, hp, e⟩ := bind_some e
  obtain ⟨ρ1, h1, h2⟩ := bind_some e
  obtain ⟨x, y⟩ := p
  have hd := t2_of hp
  subst hd
  obtain ⟨l, vs, rfl, ta, u, vs1, rfl, r1, w, vs2, rfl, r2, r3⟩ := rep_tup r
  have r3 : vs2 = [] := r3
  subst r3
  obtain ⟨Hb, bb, back⟩ := b.re st.nf
  refine ⟨l, _, rfl, ta.sq, rfl, u, _, rfl, Hb, F, ρ, F, S, st, bb, x, r1, ρ1, h1, fun σ1 H1 F1 S1 s1 b1 => ?_⟩
  obtain ⟨b1', k1⟩ := back _ _ _ b1
  exact ⟨w, _, rfl, H0, F0, ρ1, F1, S1, s1, b1', y, Rep.kept k1 _ _ r2, ρ', h2, fun σ2 H2 F2 S2 s2 b2 => ⟨rfl, q _ _ _ _ s2 b2⟩⟩
theorem gtup3 {φ φ1 φ2 φ3 : List Nat} {fa fb fd : Ev.D → List Ev.D → Option (List Ev.D)} {v : V} {σ : L2.St} {H : Hp} {Q : L2.St → Hp → Prop}
    (h : RdG X.K φ φ3 (fun d ρ => (D.t3 d).bind fun p => (fa p.1 ρ).bind fun ρ => (fb p.2.1 ρ).bind (fd p.2.2)) v σ H Q) : gTup X.K 3 (gCons (RdG X.K φ φ1 fa) (gCons (RdG X.K φ1 φ2 fb) (gCons (RdG X.K φ2 φ3 fd) gNil))) v σ H Q := by
  obtain ⟨H0, F0, ρ, F, S, st, b, d, r, ρ', e, q⟩ := h
  obtain ⟨p, hp, e⟩ := bind_some e
  obtain ⟨ρ1, h1, e⟩ := bind_some e
  obtain ⟨ρ2, h2, h3⟩ := bind_some e
  obtain ⟨x, y, z⟩ := p
  have hd := t3_of hp
  subst hd
  obtain ⟨l, vs, rfl, ta, u, vs1, rfl, r1, w, vs2, rfl, r2, w3, vs3, rfl, r3, r4⟩ := rep_tup r
  have r4 : vs3 = [] := r4
  subst r4
  obtain ⟨Hb, bb, back⟩ := b.re st.nf
  refine ⟨l, _, rfl, ta.sq, rfl, u, _, rfl, Hb, F, ρ, F, S, st, bb, x, r1, ρ1, h1, fun σ1 H1 F1 S1 s1 b1 => ?_⟩
  obtain ⟨b1', k1⟩ := back _ _ _ b1
  obtain ⟨Hb2, bb2, back2⟩ := b1'.re s1.nf
  refine ⟨w, _, rfl, Hb2, F1, ρ1, F1, S1, s1, bb2, y, Rep.kept k1 _ _ r2, ρ2, h2, fun σ2 H2 F2 S2 s2 b2 => ?_⟩
  obtain ⟨b2', k2⟩ := back2 _ _ _ b2
  exact ⟨w3, _, rfl, H0, F0, ρ2, F2, S2, s2, b2', z, Rep.kept k2 _ _ (Rep.kept k1 _ _ r3), ρ', h3, fun σ3 H3 F3 S3 s3 b3 => ⟨rfl, q _ _ _ _ s3 b3⟩⟩
theorem l3_of {d : Ev.D} {p : Ev.D × Ev.D × Ev.D} (h : l3D d = some p) : d = .lst [p.1, p.2.1, p.2.2] := by
  unfold l3D at h
  split at h
  · cases h; rfl
  · cases h
theorem glst3 {φ φ1 φ2 φ3 : List Nat} {fa fb fd : Ev.D → List Ev.D → Option (List Ev.D)} {v : V} {σ : L2.St} {H : Hp} {Q : L2.St → Hp → Prop}
    (h : RdG X.K φ φ3 (fun d ρ => (l3D d).bind fun p => (fa p.1 ρ).bind fun ρ => (fb p.2.1 ρ).bind (fd p.2.2)) v σ H Q) : gUnl X.K 3 (gCons (RdG X.K φ φ1 fa) (gCons (RdG X.K φ1 φ2 fb) (gCons (RdG X.K φ2 φ3 fd) gNil))) v σ H Q := by
  obtain ⟨H0, F0, ρ, F, S, st, b, d, r, ρ', e, q⟩ := h
  obtain ⟨p, hp, e⟩ := bind_some e
  obtain ⟨ρ1, h1, e⟩ := bind_some e
  obtain ⟨ρ2, h2, h3⟩ := bind_some e
  obtain ⟨x, y, z⟩ := p
  have hd := l3_of hp
  subst hd
  obtain ⟨l, vs, rfl, ta, u, vs1, rfl, r1, w, vs2, rfl, r2, w3, vs3, rfl, r3, r4⟩ := rep_lst r
  have r4 : vs3 = [] := r4
  subst r4
  obtain ⟨Hb, bb, back⟩ := b.re st.nf
  refine ⟨l, _, rfl, ta.sq, rfl, u, _, rfl, Hb, F, ρ, F, S, st, bb, x, r1, ρ1, h1, fun σ1 H1 F1 S1 s1 b1 => ?_⟩
  obtain ⟨b1', k1⟩ := back _ _ _ b1
  obtain ⟨Hb2, bb2, back2⟩ := b1'.re s1.nf
  refine ⟨w, _, rfl, Hb2, F1, ρ1, F1, S1, s1, bb2, y, Rep.kept k1 _ _ r2, ρ2, h2, fun σ2 H2 F2 S2 s2 b2 => ?_⟩
  obtain ⟨b2', k2⟩ := back2 _ _ _ b2
  exact ⟨w3, _, rfl, H0, F0, ρ2, F2, S2, s2, b2', z, Rep.kept k2 _ _ (Rep.kept k1 _ _ r3), ρ', h3, fun σ3 H3 F3 S3 s3 b3 => ⟨rfl, q _ _ _ _ s3 b3⟩⟩
theorem gtup4 {φ φ1 φ2 φ3 φ4 : List Nat} {fa fb fd ff : Ev.D → List Ev.D → Option (List Ev.D)} {v : V} {σ : L2.St} {H : Hp} {Q : L2.St → Hp → Prop}
    (h : RdG X.K φ φ4 (fun d ρ => (D.t4 d).bind fun p => (fa p.1 ρ).bind fun ρ => (fb p.2.1 ρ).bind fun ρ => (fd p.2.2.1 ρ).bind (ff p.2.2.2)) v σ H Q) : gTup X.K 4 (gCons (RdG X.K φ φ1 fa) (gCons (RdG X.K φ1 φ2 fb) (gCons (RdG X.K φ2 φ3 fd) (gCons (RdG X.K φ3 φ4 ff) gNil)))) v σ H Q := by
  obtain ⟨H0, F0, ρ, F, S, st, b, d, r, ρ', e, q⟩ := h
  obtain ⟨p, hp, e⟩ := bind_some e
  obtain ⟨ρ1, h1, e⟩ := bind_some e
  obtain ⟨ρ2, h2, e⟩ := bind_some e
  obtain ⟨ρ3, h3, h4⟩ := bind_some e
  obtain ⟨x, y, z, z'⟩ := p
  have hd := t4_of hp
  subst hd
  obtain ⟨l, vs, rfl, ta, u, vs1, rfl, r1, w, vs2, rfl, r2, w3, vs3, rfl, r3, w4, vs4, rfl, r4, r5⟩ := rep_tup r
  have r5 : vs4 = [] := r5
  subst r5
  obtain ⟨Hb, bb, back⟩ := b.re st.nf
  refine ⟨l, _, rfl, ta.sq, rfl, u, _, rfl, Hb, F, ρ, F, S, st, bb, x, r1, ρ1, h1, fun σ1 H1 F1 S1 s1 b1 => ?_⟩
  obtain ⟨b1', k1⟩ := back _ _ _ b1
  obtain ⟨Hb2, bb2, back2⟩ := b1'.re s1.nf
  refine ⟨w, _, rfl, Hb2, F1, ρ1, F1, S1, s1, bb2, y, Rep.kept k1 _ _ r2, ρ2, h2, fun σ2 H2 F2 S2 s2 b2 => ?_⟩
  obtain ⟨b2', k2⟩ := back2 _ _ _ b2
  obtain ⟨Hb3, bb3, back3⟩ := b2'.re s2.nf
  refine ⟨w3, _, rfl, Hb3, F2, ρ2, F2, S2, s2, bb3, z, Rep.kept k2 _ _ (Rep.kept k1 _ _ r3), ρ3, h3, fun σ3 H3 F3 S3 s3 b3 => ?_⟩
  obtain ⟨b3', k3⟩ := back3 _ _ _ b3
  exact ⟨w4, _, rfl, H0, F0, ρ3, F3, S3, s3, b3', z', Rep.kept k3 _ _ (Rep.kept k2 _ _ (Rep.kept k1 _ _ r4)), ρ', h4, fun σ4 H4 F4 S4 s4 b4 => ⟨rfl, q _ _ _ _ s4 b4⟩⟩
theorem p_ok (g : GS X c fr Φ k) : ∀ (p : PL) (e : Expr) {φ : List Nat}, agP p c e = true → chP fr φ p = true → PG X e (RdG X.K φ (flP φ p) (asgP Φ p))
  | .nm i, e, φ, h, hc => by
    unfold agP at h
    split at h
    · rw [Bool.and_eq_true, decide_eq_true_eq] at h
      obtain ⟨l1, l2⟩ := loc_of g.toGX h.2
      refine pgI (pg_name g.nd (by rw [g.N]; exact h.1) l1 l2) fun v σ H Q ⟨H0, F0, ρ, F, S, st, b, d, r, ρ', e, q⟩ => ?_
      unfold asgP at e
      rcases ite_some e with ⟨_, e⟩ | ⟨_, e⟩
      · cases e
      · cases e
        obtain ⟨S', s1, s2⟩ := fin_set (k := 0) st b (.refl st.fo) (own0 r) (of_decide_eq_true hc)
        exact q _ _ _ _ s1 s2
    · cases h
  | .sub i j, e, φ, h, hc => by
    unfold agP at h
    split at h
    · rw [Bool.and_eq_true] at h
      unfold chP at hc
      rw [Bool.and_eq_true, beq_iff_eq] at hc
      refine pgI (pg_sub (nm_of g.toGX h.1) (leR_pe (fun r' h' => sE j g.toGX h.2 h') hc.2) set_list (plain_asg (agE_plain h.2))) fun v σ H Q ⟨H0, F0, ρ, F, S, st, b, d, r, ρ', e, q⟩ => ?_
      obtain ⟨x, ex, e⟩ := bind_some e
      obtain ⟨n, en, e⟩ := bind_some e
      obtain ⟨z, ez, rfl⟩ := map_some' e
      obtain ⟨hd, hb⟩ := getV_of ex
      obtain ⟨ds, n, j', rfl, rfl, hj1, hj2, rfl⟩ := stoD_of ez
      obtain ⟨w, S1, hw, ho', _⟩ := st.get hc.1 hd hb
      obtain ⟨p, vs, rfl, hpv, hlv⟩ := lst_at ho'
      refine ⟨.ref p, hw, ρ, F, S, st, _, en, fun u1 H1 F1 e1 r1 => ?_⟩
      have hpv' := e1.same _ _ hpv
      refine ⟨p, vs, n, j', rfl, rep_int (bor_of r1), hpv', by rw [hlv]; exact hj1, ?_⟩
      obtain ⟨S2, s2, b2⟩ := mut_slot (d' := .lst (ds.set j' d)) (p := p) (o := .lst (vs.set j' v)) (Sn := []) (st.ext e1) (b.on e1) hc.1 hd hb (fun a ha => nomatch ha) fun v' Sb hv' ho' nd' hsub => by
        rw [hw] at hv'
        cases hv'
        obtain ⟨p', vs', e', h', _, hm, sto⟩ := own_sto ho' nd'
        cases e'
        rw [hpv'] at h'
        cases h'
        exact ⟨hm, fun kp => sto hj2 (show Own X.K F1 H1 0 _ _ [] from ⟨rfl, r.mono e1.same e1.up⟩) List.nodup_nil (fun a ha => nomatch ha) kp⟩
      exact q _ _ _ _ s2 b2
    · cases h
  | .two a b, e, φ, h, hc => by
    unfold agP at h
    split at h
    · rw [Bool.and_eq_true] at h
      unfold chP at hc
      rw [Bool.and_eq_true] at hc
      refine pgI (pg_tup g.calm (pgs_cons (p_ok g a _ h.1 hc.1) (pgs_cons (p_ok g b _ h.2 hc.2) pgs_nil ?_) ?_) ?_ ?_) fun v σ H Q h => gtup2 h
      · rw [agP_ns h.2]; rfl
      · rw [agP_ns h.1]; rfl
      · rw [agP_ns h.1, agP_ns h.2]; rfl
      · rw [agP_ns h.1, agP_ns h.2]; rfl
    · cases h
  | .three a b d, e, φ, h, hc => by
    unfold agP at h
    split at h
    · simp only [Bool.and_eq_true] at h
      obtain ⟨⟨h1, h2⟩, h3⟩ := h
      unfold chP at hc
      simp only [Bool.and_eq_true] at hc
      refine pgI (pg_tup g.calm (pgs_cons (p_ok g a _ h1 hc.1.1) (pgs_cons (p_ok g b _ h2 hc.1.2) (pgs_cons (p_ok g d _ h3 hc.2) pgs_nil ?_) ?_) ?_) ?_ ?_) fun v σ H Q h => gtup3 h
      · rw [agP_ns h3]; rfl
      · rw [agP_ns h2]; rfl
      · rw [agP_ns h1]; rfl
      · rw [agP_ns h1, agP_ns h2, agP_ns h3]; rfl
      · rw [agP_ns h1, agP_ns h2, agP_ns h3]; rfl
    · cases h
  | .thrl a b d, e, φ, h, hc => by
    unfold agP at h
    split at h
    · simp only [Bool.and_eq_true] at h
      obtain ⟨⟨h1, h2⟩, h3⟩ := h
      unfold chP at hc
      simp only [Bool.and_eq_true] at hc
      refine pgI (pg_unl g.calm (pgs_cons (p_ok g a _ h1 hc.1.1) (pgs_cons (p_ok g b _ h2 hc.1.2) (pgs_cons (p_ok g d _ h3 hc.2) pgs_nil ?_) ?_) ?_) ?_ ?_) fun v σ H Q h => glst3 h
      · rw [agP_ns h3]; rfl
      · rw [agP_ns h2]; rfl
      · rw [agP_ns h1]; rfl
      · rw [agP_ns h1, agP_ns h2, agP_ns h3]; rfl
      · rw [agP_ns h1, agP_ns h2, agP_ns h3]; rfl
    · cases h
  | .four a b d f, e, φ, h, hc => by
    unfold agP at h
    split at h
    · simp only [Bool.and_eq_true] at h
      obtain ⟨⟨⟨h1, h2⟩, h3⟩, h4⟩ := h
      unfold chP at hc
      simp only [Bool.and_eq_true] at hc
      refine pgI (pg_tup g.calm (pgs_cons (p_ok g a _ h1 hc.1.1.1) (pgs_cons (p_ok g b _ h2 hc.1.1.2) (pgs_cons (p_ok g d _ h3 hc.1.2) (pgs_cons (p_ok g f _ h4 hc.2) pgs_nil ?_) ?_) ?_) ?_) ?_ ?_) fun v σ H Q h => gtup4 h
      · rw [agP_ns h4]; rfl
      · rw [agP_ns h3]; rfl
      · rw [agP_ns h2]; rfl
      · rw [agP_ns h1]; rfl
      · rw [agP_ns h1, agP_ns h2, agP_ns h3, agP_ns h4]; rfl
      · rw [agP_ns h1, agP_ns h2, agP_ns h3, agP_ns h4]; rfl
    · cases h
theorem s_asg {t v : Expr} {pos : Pos} {p : PL} {f : Sem1} (g : GS X c fr Φ k) (ha : agP p c t = true) (hc : chP fr φ p = true) (he : PE X v (RdE X.K φ (.own 0) f)) (hs : swapsWith v (some t) pos.line X.env = pure false) (hw : swappedStores [t] v X.env = pure none) :
    PS X (.Assign [t] v pos) (RdS X.K φ rk (flP φ p) φl fun ρ => (f ρ).bind fun d => (asgP Φ p d ρ).map .nx) := by
  refine psI (ps_asg he (p_ok g p t ha hc) hs hw (by rw [agP_ns ha]; rfl)) fun D σ H ⟨H0, F0, ρ, F, S, st, b, out, e, q⟩ => ?_
  obtain ⟨d, ed, e⟩ := bind_some e
  obtain ⟨ρ', ea, rfl⟩ := map_some' e
  refine ⟨ρ, F, S, st, d, ed, fun v H' F' e1 r1 => ⟨H0, F0, ρ, F', S, st.ext e1, b.on e1, d, of0 r1, ρ', ea, q⟩⟩
/-! four at once; insert; pop -/
theorem AllO0 {K : PySem.W.Frag} {F : Pa} {H : Hp} : ∀ {ds : List Ev.D} {vs : List V} {S : List Addr}, AllO (Own K F H 0) ds vs S → S = [] ∧ AllR (Rep K F H) ds vs
  | [], vs, S, h => ⟨h.2, h.1⟩
  | d :: ds, vs, S, ⟨v, r, S1, S2, e1, e2, h1, h2⟩ => by
    obtain ⟨q1, q2⟩ := AllO0 h2
    obtain ⟨q3, q4⟩ := h1
    subst q1 q3
    exact ⟨e2, v, r, e1, q4, q2⟩
theorem own1_of {K : PySem.W.Frag} {F : Pa} {H : Hp} {ds : List Ev.D} {v : V} {Sb : List Addr} (h : Own K F H 1 (.lst ds) v Sb) : ∃ p vs, v = .ref p ∧ H p = some (.lst vs) ∧ AllR (Rep K F H) ds vs ∧ Sb = [p] := by
  obtain ⟨p, vs, S', e, hp, r, rfl⟩ := h
  obtain ⟨e0, r2⟩ := AllO0 r
  subst e0
  exact ⟨p, vs, e, hp, r2, rfl⟩
theorem own1_mk {K : PySem.W.Frag} {F : Pa} {H : Hp} {ds : List Ev.D} {vs : List V} {p : Addr} (hp : H p = some (.lst vs)) (r : AllR (Rep K F H) ds vs) : Own K F H 1 (.lst ds) (.ref p) [p] := ⟨p, vs, [], rfl, hp, AllO.of0 r fun _ _ h => ⟨rfl, h⟩, rfl⟩
theorem s_parc4 {x y z w : Str} {px py pz pw pt p2 pos : Pos} {kt k2 : Nat} {a b d f : Expr} {i j l m ki kj kl km : Nat} {f1 f2 f3 f4 : Sem1} (g : GS X c fr Φ k) (hx : c.N[i]? = some x) (hy : c.N[j]? = some y) (hz : c.N[l]? = some z) (hw : c.N[m]? = some w) (hp1 : plainE a = true) (hp2 : plainE b = true) (hp3 : plainE d = true) (hp4 : plainE f = true)
    (l1 : locB c x = true) (l2 : locB c y = true) (l3 : locB c z = true) (l4 : locB c w = true) (hs : noSw c (.Tuple [.Name x px, .Name y py, .Name z pz, .Name w pw] kt pt) (.Tuple [a, b, d, f] k2 p2) = true) (hi : i < φ.length) (hj : j < φ.length) (hl : l < φ.length) (hm : m < φ.length)
    (ha : PE X a (RdE X.K φ (.own ki) f1)) (hb : PE X b (RdE X.K φ (.own kj) f2)) (hd : PE X d (RdE X.K φ (.own kl) f3)) (hf : PE X f (RdE X.K φ (.own km) f4)) :
    PS X (.Assign [.Tuple [.Name x px, .Name y py, .Name z pz, .Name w pw] kt pt] (.Tuple [a, b, d, f] k2 p2) pos) (RdS X.K φ rk ((((φ.set i ki).set j kj).set l kl).set m km) φl fun ρ => (f1 ρ).bind fun x => (f2 ρ).bind fun y => (f3 ρ).bind fun z => (f4 ρ).map fun w => .nx ((((ρ.set i x).set j y).set l z).set m w)) := by
  have L1 := loc_of g.toGX l1
  have L2 := loc_of g.toGX l2
  have L3 := loc_of g.toGX l3
  have L4 := loc_of g.toGX l4
  refine psI (ps_asg (pe_tup (pa_cons ha (pa_cons hb (pa_cons hd (pa_cons hf pa_nil (plain_star hp4 _ _)) (plain_star hp3 _ _)) (plain_star hp2 _ _)) (plain_star hp1 _ _))) (pg_tup g.calm (pgs_cons (pg_name g.nd (by rw [g.N]; exact hx) L1.1 L1.2) (pgs_cons (pg_name g.nd (by rw [g.N]; exact hy) L2.1 L2.2) (pgs_cons (pg_name g.nd (by rw [g.N]; exact hz) L3.1 L3.2) (pgs_cons (pg_name g.nd (by rw [g.N]; exact hw) L4.1 L4.2) pgs_nil))))) rfl (sw_noSw g.sc hs) rfl) fun D σ H ⟨H0, F0, ρ, F, S, st, b, o, e, q⟩ => ?_
  obtain ⟨x, ex, e⟩ := bind_some e
  obtain ⟨y, ey, e⟩ := bind_some e
  obtain ⟨z, ez, e⟩ := bind_some e
  obtain ⟨w, ew, rfl⟩ := map_some' e
  refine ⟨ρ, F, S, st, x, ex, fun v H1 F1 e1 r1 => ⟨ρ, F1, S, st.ext e1, y, ey, fun v2 H2 F2 e2 r2 => ⟨ρ, F2, S, (st.ext e1).ext e2, z, ez, fun v3 H3 F3 e3 r3 => ⟨ρ, F3, S, ((st.ext e1).ext e2).ext e3, w, ew, fun v4 H4 F4 e4 r4 => ⟨by show 4 ≤ sizeLine; decide, fun p hp => ?_⟩⟩⟩⟩⟩
  have e5 : Ext F4 H4 F4 (upd H4 p (.tup [v, v2, v3, v4])) := Ext.laid e4.fo hp
  refine ⟨p, [v, v2, v3, v4], rfl, .inl (.inl upd_same), rfl, v, [v2, v3, v4], rfl, v2, [v3, v4], rfl, v3, [v4], rfl, v4, [], rfl, rfl, ?_⟩
  have st2 := (st.ext e1).ext e2
  have st3 := st2.ext e3
  obtain ⟨S1, o1, n1, m1⟩ := res_new (S := S) r1 (((e2.trans e3).trans e4).trans e5) st.sl.there
  obtain ⟨S3, o2, n2, m2⟩ := res_new (S := S ++ S1) r2 ((e3.trans e4).trans e5) (fun a ha => by
    rcases List.mem_append.mp ha with ha | ha
    · exact (st.ext e1).sl.there a ha
    · exact (m1 a ha).2.2)
  obtain ⟨S5, o3, n3, m3⟩ := res_new (S := (S ++ S1) ++ S3) r3 (e4.trans e5) (fun a ha => by
    rcases List.mem_append.mp ha with ha | ha
    · rcases List.mem_append.mp ha with ha | ha
      · exact st2.sl.there a ha
      · have := (m1 a ha).2.2
        cases q : H1 a with
        | none => rw [q] at this; cases this
        | some o => rw [e2.same _ _ q]; rfl
    · exact (m2 a ha).2.2)
  obtain ⟨S7, o4, n4, m4⟩ := res_new (S := ((S ++ S1) ++ S3) ++ S5) r4 e5 (fun a ha => by
    rcases List.mem_append.mp ha with ha | ha
    · rcases List.mem_append.mp ha with ha | ha
      · rcases List.mem_append.mp ha with ha | ha
        · exact st3.sl.there a ha
        · have := (m1 a ha).2.2
          cases q : H1 a with
          | none => rw [q] at this; cases this
          | some o => rw [(e2.trans e3).same _ _ q]; rfl
      · have := (m2 a ha).2.2
        cases q : H2 a with
        | none => rw [q] at this; cases this
        | some o => rw [e3.same _ _ q]; rfl
    · exact (m3 a ha).2.2)
  obtain ⟨S', s1, hs1⟩ := ((st3.ext e4).ext e5).set hi o1 n1 fun a ha => (m1 a ha).1
  obtain ⟨S'', s2, hs2⟩ := s1.set (i := j) (by simpa using hj) o2 n2 fun a ha => ⟨fun z => (m2 a ha).1.1 (by
    rcases hs1 a z with z | z <;> simp [z]), (m2 a ha).1.2⟩
  obtain ⟨S3', s3, hs3⟩ := s2.set (i := l) (by simpa using hl) o3 n3 fun a ha => ⟨fun z => (m3 a ha).1.1 (by
    rcases hs2 a z with z | z
    · rcases hs1 a z with z | z <;> simp [z]
    · simp [z]), (m3 a ha).1.2⟩
  obtain ⟨S4', s4, hs4⟩ := s3.set (i := m) (by simpa using hm) o4 n4 fun a ha => ⟨fun z => (m4 a ha).1.1 (by
    rcases hs3 a z with z | z
    · rcases hs2 a z with z | z
      · rcases hs1 a z with z | z <;> simp [z]
      · simp [z]
    · simp [z]), (m4 a ha).1.2⟩
  refine q _ _ _ _ s4 ((((((b.on e1).on e2).on e3).on e4).on e5).sub fun a ha => ?_)
  rcases hs4 a ha with z | z
  · rcases hs3 a z with z | z
    · rcases hs2 a z with z | z
      · rcases hs1 a z with z | z
        · exact .inl z
        · exact .inr (b.ext.same.free (m1 a z).2.1)
      · exact .inr ((b.on e1).ext.same.free (m2 a z).2.1)
    · exact .inr (((b.on e1).on e2).ext.same.free (m3 a z).2.1)
  · exact .inr ((((b.on e1).on e2).on e3).ext.same.free (m4 a z).2.1)
theorem plain_few2 {u v : Expr} (hp : plainE u = true) (hp2 : plainE v = true) (env : Env) (cpos : Pos) : ((backTo cpos (starEach [u, v] env)).all (fun x => !x.1) && (backToKw cpos (keywordEach [] env)).all (fun x => x.1.isSome)
      && decide (([u, v] : List Expr).length + ([] : List Keyword).length + (if ([] : List Keyword).isEmpty then 0 else 1) < 30)) = true := by
  rw [plain_star hp, plain_star hp2]
  rfl
def rIns : V → List V → Hp → VK → Prop := fun x vs H Q => ∃ (l : Addr) (xs : List V) (i : Int) (y : V), x = .ref l ∧ vs = [.int i, y] ∧ H l = some (.lst xs) ∧ xs.length < sizeLine ∧ 0 ≤ i ∧ i < 2 ^ 63 ∧
    Q .non (upd H l (.lst (xs.take i.toNat ++ [y] ++ xs.drop i.toNat)))
theorem insD_of {x n y z : D} (h : insD x n y = some z) : ∃ ds m, x = .lst ds ∧ n = .int m ∧ (ds.length < sizeLine ∧ 0 ≤ m ∧ m < 2 ^ 63) ∧ z = .lst (ds.take m.toNat ++ [y] ++ ds.drop m.toNat) := by
  unfold insD at h
  split at h
  · split at h
    · rename_i hq
      cases h
      exact ⟨_, _, rfl, rfl, hq, rfl⟩
    · cases h
  · cases h
theorem s_ins {o u v : Expr} {ap cp pos : Pos} {i : Nat} {f1 f2 : Sem1} (g : GS X c fr Φ k) (hn : nmB c i o = true) (hl : (ap.endLine == cp.line) = true) (hk : φ[i]? = some 1) (hp : plainE u = true) (hp2 : plainE v = true) (hu : PE X u (RdE X.K φ .bor f1)) (he : PE X v (RdE X.K φ (.own 0) f2)) :
    PS X (.Expr (.Call (.Attribute o ("insert" : Str) ap) [u, v] [] cp) pos) (RdS X.K φ rk φ φl fun ρ => (getV ρ i).bind fun x => (f1 ρ).bind fun n => (f2 ρ).bind fun y => (insD x n y).map fun z => .nx (ρ.set i z)) := by
  have P : PE X (.Call (.Attribute o ("insert" : Str) ap) [u, v] [] cp) (tBM X.K "list" rIns (tVar i) (tCons (RdE X.K φ .bor f1) (tCons (RdE X.K φ (.own 0) f2) tNil))) :=
    pe_bm PySem.F.plainAttrs_list PySem.F.slot_list_insert PySem.F.type_list_insert mt_insert (nm_of g.toGX hn) (pa_cons hu (pa_cons he pa_nil (plain_star hp2 _ _)) (plain_star hp _ _)) (nm_base hn _ _ _).1 (plain_few2 hp hp2 _ _) hl (plain_star hp _ _) (by rw [plain_star hp2]; rfl)
  refine psI (ps_expr P) fun D σ H ⟨H0, F0, ρ, F, S, st, b, out, e, q⟩ => ?_
  obtain ⟨d, ed, e⟩ := bind_some e
  obtain ⟨n, en, e⟩ := bind_some e
  obtain ⟨y, ey, e⟩ := bind_some e
  obtain ⟨z, ez, rfl⟩ := map_some' e
  obtain ⟨hd, hb⟩ := getV_of ed
  obtain ⟨ds, m, rfl, rfl, hq, rfl⟩ := insD_of ez
  · have hn := ()
    obtain ⟨w, S1, hw, ho, _⟩ := st.get hk hd hb
    obtain ⟨p, vs, rfl, hpv, hlv⟩ := lst_at ho
    refine ⟨.ref p, hw, .inl ⟨rfl, vs, SqL.of hpv⟩, ρ, F, S, st, _, en, fun un H1 F1 e1 r1 => ⟨ρ, F1, S, st.ext e1, y, ey, fun uv H2 F2 e2 r2 => ?_⟩⟩
    have hn := rep_int (bor_of r1)
    subst hn
    have e12 := e1.trans e2
    have hpv' := e12.same _ _ hpv
    refine ⟨p, vs, m, uv, rfl, rfl, hpv', by rw [hlv]; exact hq.1, hq.2.1, hq.2.2, ?_⟩
    obtain ⟨S2, s2, b2⟩ := mut_slot (d' := .lst (ds.take m.toNat ++ [y] ++ ds.drop m.toNat)) (p := p) (o := .lst (vs.take m.toNat ++ [uv] ++ vs.drop m.toNat)) (Sn := []) (st.ext e12) (b.on e12) hk hd hb (fun a ha => nomatch ha) fun v' Sb hv' ho' nd' hsub => by
      rw [hw] at hv'
      cases hv'
      obtain ⟨p', vs', e', h', r', rfl⟩ := own1_of ho'
      cases e'
      rw [hpv'] at h'
      cases h'
      refine ⟨.head _, fun kp => ⟨[p], by simp, fun a ha => .inl ha, own1_mk upd_same ?_⟩⟩
      have r2' : Rep X.K F2 H2 y uv := of0 r2
      have ra := r'.imp fun d v _ h => Rep.kept kp d v h
      exact ((ra.take _).snoc (Rep.kept kp _ _ r2')).app (ra.drop _)
    exact q _ _ _ _ s2 b2
theorem s_popa {o t : Expr} {ap cp pos : Pos} {i : Nat} {p : PL} (g : GS X c fr Φ k) (hn : nmB c i o = true) (hl : (ap.endLine == cp.line) = true) (hk : φ[i]? = some 1) (ha : agP p c t = true) (hc : chP fr φ p = true) (hw : swappedStores [t] (.Call (.Attribute o ("pop" : Str) ap) [] [] cp) X.env = pure none) :
    PS X (.Assign [t] (.Call (.Attribute o ("pop" : Str) ap) [] [] cp) pos) (RdS X.K φ rk (flP φ p) φl fun ρ => (getV ρ i).bind fun x => (popD x).bind fun q => (asgP Φ p q.2 (ρ.set i q.1)).map .nx) := by
  have P : PE X (.Call (.Attribute o ("pop" : Str) ap) [] [] cp) (tBM0 X.K "list" rPop (tVar i)) :=
    pe_bm0 PySem.F.plainAttrs_list PySem.F.slot_list_pop PySem.F.type_list_pop mt_pop (nm_of g.toGX hn) (nm_base hn _ _ _).1 hl
  refine psI (ps_asg P (p_ok g p t ha hc) rfl hw (by rw [agP_ns ha]; rfl)) fun D σ H ⟨H0, F0, ρ, F, S, st, b, out, e, q⟩ => ?_
  obtain ⟨d, ed, e⟩ := bind_some e
  obtain ⟨pq, ep, e⟩ := bind_some e
  obtain ⟨ρ', ea, rfl⟩ := map_some' e
  obtain ⟨hd, hb⟩ := getV_of ed
  cases d <;> simp only [popD, reduceCtorEq] at ep
  rename_i ds
  obtain ⟨y, ey, rfl⟩ := map_some' ep
  obtain ⟨w, S1, hw', ho, _⟩ := st.get hk hd hb
  obtain ⟨p0, vs, rfl, hpv, r0, _⟩ := own1_of ho
  have hlv := r0.len
  obtain ⟨yv, eyv, ryv⟩ := r0.get ey
  rw [← hlv] at eyv
  refine ⟨.ref p0, hw', .inl ⟨rfl, vs, SqL.of hpv⟩, p0, vs, yv, rfl, rfl, hpv, eyv, ?_⟩
  have nfp : ¬ F p0 := by
    obtain ⟨d0, o0, Sa, Sb, Sc, g1, g2, g3, g4, _⟩ := st.sl.split hk
    rw [hd] at g1
    cases g1
    rcases g4 with ⟨e0, _⟩ | ⟨v0, e0, h0⟩
    · cases e0
    · rw [g2] at hw'
      subst e0
      cases hw'
      obtain ⟨p1, _, e1, _, _, rfl⟩ := own1_of h0
      cases e1
      exact st.nf p0 (by rw [g3]; simp)
  have kp0 : Kept F F H (upd H p0 (.lst vs.dropLast)) := ⟨fun a ha u q => by rw [upd_ne (show a ≠ p0 from fun e => nfp (by rw [← e]; exact ha))]; exact q, fun _ h => h⟩
  obtain ⟨S2, s2, b2⟩ := mut_slot (d' := .lst ds.dropLast) (p := p0) (o := .lst vs.dropLast) (Sn := []) st b hk hd hb (fun a ha => nomatch ha) fun v' Sb hv' ho' nd' hsub => by
    rw [hw'] at hv'
    cases hv'
    obtain ⟨p', vs', e', h', r', rfl⟩ := own1_of ho'
    cases e'
    rw [hpv] at h'
    cases h'
    refine ⟨.head _, fun kp => ⟨[p0], by simp, fun a ha => .inl ha, own1_mk upd_same ?_⟩⟩
    have ra := r'.imp fun d v _ h => Rep.kept kp d v h
    have := ra.take (ds.length - 1)
    have z1 : vs.dropLast = vs.take (ds.length - 1) := by rw [List.dropLast_eq_take, hlv]
    have z2 : ds.dropLast = ds.take (ds.length - 1) := by rw [List.dropLast_eq_take]
    rw [← z1, ← z2] at this
    exact this
  exact ⟨H0, F0, _, F, S2, s2, b2, y, Rep.kept kp0 _ _ ryv, ρ', ea, q⟩
end
end Ev

namespace Ev
open PySem PySem.Spec PyProof.Rows L2

section
variable {fr : List Nat} {Φ : Fns} {k : Nat}
theorem leR_some {r : Res} {o : Option Res} (h : leR r o = true) : ∃ r', o = some r' ∧ r'.le r = true := by
  cases o with
  | none => cases h
  | some r' => exact ⟨r', rfl, h⟩
theorem okTo_some {b : Bool} {φ : List Nat} {r : Option (List Nat)} (h : okTo b φ = some r) : b = true ∧ r = some φ := by
  unfold okTo at h
  rcases ite_some h with ⟨h1, h2⟩ | ⟨_, h2⟩
  · exact ⟨h1, by cases h2; rfl⟩
  · cases h2
/-- x = [..], stored by the block itself -/
theorem s_setLc {j : Nat} {elt : CE} {own : List (Str × Nat)} {tg : Tgt} {it : CI} {t : CO} {c : AC} {X : Cx} {v : Expr} {φ : List Nat} {rk : Nat} {φl : List Nat} {x : Str} {px pos : Pos} {i m : Nat} (g : GS X c fr Φ k) (hx : c.N[i]? = some x) (hl : locB c x = true) (hi : i < φ.length)
    (ha : agE (.lc j elt own tg it t) c v = true) (hb : leR (.own m) (best fr φ (.lc j elt own tg it t)) = true) (hs : swB X.env.scope x px v = true) :
    PS X (.Assign [.Name x px] v pos) (RdS X.K φ rk (φ.set i m) φl fun ρ => (evE Φ (.lc j elt own tg it t) ρ).map fun d => .nx (ρ.set i d)) := by
  unfold agE at ha
  split at ha
  · rename_i xe gt ie ifs a scope lpos
    simp only [Bool.and_eq_true, decide_eq_true_eq] at ha
    obtain ⟨⟨⟨⟨⟨h1, h2⟩, h3⟩, h4⟩, h5⟩, h6⟩ := ha
    subst h1
    obtain ⟨r', hr, hb⟩ := leR_some hb
    unfold best at hr
    · rcases ite_some hr with ⟨hm, hr⟩ | ⟨_, hr⟩
      · cases hr
        simp only [Bool.and_eq_true] at hm
        obtain ⟨⟨⟨⟨m1, m2⟩, m3⟩, m4⟩, m5⟩ := hm
        rw [List.all_eq_true] at m4 m5
        have I := sI it (tg := gt) g.toGX h3 m1
        have hfold : ∀ y, foldedSetIterable ie X.env y = pure y := fun y => by
          have : plainE ie = true := by
            cases it
            · unfold agI at h3; exact agE_plain h3
            all_goals (cases ie <;> first | rfl | (exfalso; cases gt <;> simp [agI] at h3))
          exact plain_fold this _ _
        unfold swB at hs
        simp only [Bool.and_eq_true, decide_eq_true_eq, Bool.not_eq_true'] at hs
        have hsw : swapsWith (.ListComp xe [⟨gt, ie, ifs, 0⟩] scope lpos) (some (.Name x px)) pos.line X.env = pure true := sw_true (by rw [g.sc]; exact g.kind) hs.1.1 hs.1.2 hs.2
        refine psI (ps_setLc (g := gOf X.K tg) (tt := RdT X.K (flT (φ0 φ (own.map (·.2))) tg) (evC Φ t)) (te := RdE X.K (flT (φ0 φ (own.map (·.2))) tg) (.own j) (evE Φ elt)) g.calm g.nd (by rw [g.N]; exact hx) hs.1.1 hsw I (blkOk_by (by rw [g.N, g.sc]; exact h2)) (fun s H C cl fp => g_ok (g.toGX.blk s H scope C cl fp) tg gt h4) (fun s H C cl fp => sC t (g.toGX.blk s H scope C cl fp) h5 m2)
          (fun s H C cl fp => leR_pe (fun r' h' => sE elt (g.toGX.blk s H scope C cl fp) h6 h') m3) hfold) fun D σ H ⟨H0, F0, ρ, F, S, st, b, o, e, q⟩ => ?_
        obtain ⟨d, e2, rfl⟩ := map_some' e
        clear e
        unfold evE at e2
        obtain ⟨ds, eds, e2⟩ := bind_some e2
        obtain ⟨res, er, e2⟩ := bind_some e2
        rcases ite_some e2 with ⟨hl, e2⟩ | ⟨_, e2⟩
        · cases e2
          refine ⟨ρ, F, S, st, ds, eds, fun J G H1 F1 e1 w A hA => lc_turns (k := j) (Q := fun x H1 => gName i x σ H1 D.nx) st (fun i hi => of_decide_eq_true (m5 i hi)) (fun i hi => by simpa using m4 i hi) e1 w hA er hl fun v H' F' e1 r1 => ?_⟩
          obtain ⟨F2, e2, _, r2⟩ := Res.weak hb e1 r1
          obtain ⟨S', s1, s2⟩ := fin_set st b e2 r2 hi
          exact q _ _ _ _ s1 s2
        · cases e2
      · cases hr
  · cases ha
theorem s_setLc2 {j : Nat} {elt : CE} {own : List (Str × Nat)} {tg tg1 : Tgt} {it it1 : CI} {t t1 : CO} {c : AC} {X : Cx} {v : Expr} {φ : List Nat} {rk : Nat} {φl : List Nat} {x : Str} {px pos : Pos} {i m : Nat} (g : GS X c fr Φ k) (hx : c.N[i]? = some x) (hl : locB c x = true) (hi : i < φ.length)
    (ha : agE (.lc2 j elt own tg it t tg1 it1 t1) c v = true) (hb : leR (.own m) (best fr φ (.lc2 j elt own tg it t tg1 it1 t1)) = true) (hs : swB X.env.scope x px v = true) :
    PS X (.Assign [.Name x px] v pos) (RdS X.K φ rk (φ.set i m) φl fun ρ => (evE Φ (.lc2 j elt own tg it t tg1 it1 t1) ρ).map fun d => .nx (ρ.set i d)) := by
  unfold agE at ha
  split at ha
  · rename_i xe gt ie ifs a gt1 i1 ifs1 a1 scope lpos
    simp only [Bool.and_eq_true, decide_eq_true_eq] at ha
    obtain ⟨⟨⟨⟨⟨⟨⟨⟨⟨h1, h1'⟩, h2⟩, h3⟩, h4⟩, h5⟩, h6⟩, h7⟩, h8⟩, h9⟩ := ha
    subst h1
    subst h1'
    obtain ⟨r', hr, hb⟩ := leR_some hb
    unfold best at hr
    · rcases ite_some hr with ⟨hm, hr⟩ | ⟨_, hr⟩
      · cases hr
        simp only [Bool.and_eq_true] at hm
        obtain ⟨⟨⟨⟨⟨⟨⟨m1, m2⟩, m3⟩, m4⟩, m5⟩, m6⟩, m7⟩, m8⟩ := hm
        rw [List.all_eq_true] at m6 m7 m8
        have I := sI it (tg := gt) g.toGX h3 m1
        unfold swB at hs
        simp only [Bool.and_eq_true, decide_eq_true_eq, Bool.not_eq_true'] at hs
        have hsw : swapsWith (.ListComp xe [⟨gt, ie, ifs, 0⟩, ⟨gt1, i1, ifs1, 0⟩] scope lpos) (some (.Name x px)) pos.line X.env = pure true := sw_true (by rw [g.sc]; exact g.kind) hs.1.1 hs.1.2 hs.2
        refine psI (ps_setLc2 (g := gOf X.K tg) (g1 := gOf X.K tg1) (vs1 := tIx tg1) (tt := RdT X.K (flT (φ0 φ (own.map (·.2))) tg) (evC Φ t)) (tt1 := RdT X.K (flT (φ0 (flT (φ0 φ (own.map (·.2))) tg) (tIx tg1)) tg1) (evC Φ t1)) (wi1 := RdI X.K (flT (φ0 φ (own.map (·.2))) tg) true (evI Φ it1))
          (te := RdE X.K (flT (φ0 (flT (φ0 φ (own.map (·.2))) tg) (tIx tg1)) tg1) (.own j) (evE Φ elt)) g.calm g.nd (by rw [g.N]; exact hx) hs.1.1 hsw I (blkOk_by (by rw [g.N, g.sc]; exact h2)) (fun i hi => by simpa using m7 i hi) (fun s H C cl fp => g_ok (g.toGX.blk s H scope C cl fp) tg gt h4) (fun s H C cl fp => sC t (g.toGX.blk s H scope C cl fp) h5 m2)
          (fun s H C cl fp => sJ it1 (g.toGX.blk s H scope C cl fp) h6 m3) (fun s H C cl fp => g_ok (g.toGX.blk s H scope C cl fp) tg1 gt1 h7) (fun s H C cl fp => sC t1 (g.toGX.blk s H scope C cl fp) h8 m4)
          (fun s H C cl fp => leR_pe (fun r' h' => sE elt (g.toGX.blk s H scope C cl fp) h9 h') m5) (fun y => plain_fold (agI_plain h3) _ _) (fun env y => plain_fold (agI_plain h6) _ _)) fun D σ H ⟨H0, F0, ρ, F, S, st, b, o, e, q⟩ => ?_
        obtain ⟨d, e2, rfl⟩ := map_some' e
        clear e
        unfold evE at e2
        obtain ⟨ds, eds, e2⟩ := bind_some e2
        obtain ⟨res, er, e2⟩ := bind_some e2
        rcases ite_some e2 with ⟨hl, e2⟩ | ⟨_, e2⟩
        · cases e2
          refine ⟨ρ, F, S, st, ds, eds, fun J G H1 F1 e1 w A hA => lc2_turns (k := j) (Q := fun x H1 => gName i x σ H1 D.nx) st (fun i hi => of_decide_eq_true (m8 i hi)) (fun i hi => by simpa using m6 i hi) (fun i hi => by simpa using m7 i hi) e1 w hA er hl fun v H' F' e1 r1 => ?_⟩
          obtain ⟨F2, e2, _, r2⟩ := Res.weak hb e1 r1
          obtain ⟨S', s1, s2⟩ := fin_set st b e2 r2 hi
          exact q _ _ _ _ s1 s2
        · cases e2
      · cases hr
  · cases ha
/-- never goes on -/
theorem dead_whD {t : List D → Option Bool} {f : List D → Option Out} : True := trivial
mutual
theorem dS : ∀ (s : CS) {rk : Nat} {lp : Option (List Nat)} {φ : List Nat}, chS fr rk lp φ s = some none → ∀ ρ ρ', evS Φ s ρ ≠ some (.nx ρ')
  | .set i k e, rk, lp, φ, h, ρ, ρ', e' => by unfold chS at h; have := (okTo_some h).2; cases this
  | .asg _ _, rk, lp, φ, h, ρ, ρ', e' => by unfold chS at h; have := (okTo_some h).2; cases this
  | .par2 _ _ _ _ _ _, rk, lp, φ, h, ρ, ρ', e' => by unfold chS at h; have := (okTo_some h).2; cases this
  | .par3 _ _ _ _ _ _ _ _ _, rk, lp, φ, h, ρ, ρ', e' => by unfold chS at h; have := (okTo_some h).2; cases this
  | .par4 _ _ _ _ _ _ _ _ _ _ _ _, rk, lp, φ, h, ρ, ρ', e' => by unfold chS at h; have := (okTo_some h).2; cases this
  | .ins _ _ _, rk, lp, φ, h, ρ, ρ', e' => by unfold chS at h; have := (okTo_some h).2; cases this
  | .popa _ _, rk, lp, φ, h, ρ, ρ', e' => by unfold chS at h; have := (okTo_some h).2; cases this
  | .aug _ _ _, rk, lp, φ, h, ρ, ρ', e' => by unfold chS at h; have := (okTo_some h).2; cases this
  | .app _ _ _, rk, lp, φ, h, ρ, ρ', e' => by unfold chS at h; have := (okTo_some h).2; cases this
  | .ext _ _ _, rk, lp, φ, h, ρ, ρ', e' => by unfold chS at h; have := (okTo_some h).2; cases this
  | .app1 _ _ _ _, rk, lp, φ, h, ρ, ρ', e' => by unfold chS at h; have := (okTo_some h).2; cases this
  | .sto _ _ _ _, rk, lp, φ, h, ρ, ρ', e' => by unfold chS at h; have := (okTo_some h).2; cases this
  | .sto1 _ _ _ _ _, rk, lp, φ, h, ρ, ρ', e' => by unfold chS at h; have := (okTo_some h).2; cases this
  | .augs _ _ _ _, rk, lp, φ, h, ρ, ρ', e' => by unfold chS at h; have := (okTo_some h).2; cases this
  | .for_ _ _ _, rk, lp, φ, h, ρ, ρ', e' => by unfold chS at h; have := (okTo_some h).2; cases this
  | .whl _ _, rk, lp, φ, h, ρ, ρ', e' => by unfold chS at h; have := (okTo_some h).2; cases this
  | .frz _, rk, lp, φ, h, ρ, ρ', e' => by unfold chS at h; have := (okTo_some h).2; cases this
  | .pas, rk, lp, φ, h, ρ, ρ', e' => by unfold chS at h; cases h
  | .doc, rk, lp, φ, h, ρ, ρ', e' => by unfold chS at h; cases h
  | .ret e, rk, lp, φ, h, ρ, ρ', e' => by unfold evS at e'; obtain ⟨x, _, e'⟩ := map_some' e'; cases e'
  | .retN, rk, lp, φ, h, ρ, ρ', e' => by unfold evS at e'; cases e'
  | .brk, rk, lp, φ, h, ρ, ρ', e' => by unfold evS at e'; cases e'
  | .cnt, rk, lp, φ, h, ρ, ρ', e' => by unfold evS at e'; cases e'
  | .ife t a b, rk, lp, φ, h, ρ, ρ', e' => by
    unfold chS at h
    rcases ite_some h with ⟨_, h⟩ | ⟨_, h⟩
    · have hj : chSs fr rk lp φ a = some none ∧ chSs fr rk lp φ b = some none := by
        revert h
        generalize chSs fr rk lp φ a = x
        generalize chSs fr rk lp φ b = y
        intro h
        rcases x with _ | _ | x <;> rcases y with _ | _ | y <;> simp only [joinF, reduceCtorEq, Option.some.injEq] at h <;> try exact ⟨rfl, rfl⟩
        exfalso
        split at h <;> cases h
      unfold evS at e'
      obtain ⟨r, _, e'⟩ := bind_some e'
      cases r with
      | true => exact dSs a hj.1 ρ ρ' e'
      | false => exact dSs b hj.2 ρ ρ' e'
    · cases h
theorem dSs : ∀ (ss : CSs) {rk : Nat} {lp : Option (List Nat)} {φ : List Nat}, chSs fr rk lp φ ss = some none → ∀ ρ ρ', evSs Φ ss ρ ≠ some (.nx ρ')
  | .nil, rk, lp, φ, h, ρ, ρ', e' => by unfold chSs at h; cases h
  | .cons s ss, rk, lp, φ, h, ρ, ρ', e' => by
    unfold evSs at e'
    obtain ⟨o, eo, e'⟩ := bind_some e'
    unfold chSs at h
    split at h
    · rename_i hs
      cases o with
      | nx ρ1 => exact dS s hs ρ ρ1 eo
      | rt d => cases e'
      | bk d => cases e'
      | ct d => cases e'
    · cases o with
      | nx ρ1 => exact dSs ss h ρ1 ρ' e'
      | rt d => cases e'
      | bk d => cases e'
      | ct d => cases e'
    · cases h
end
theorem endsAt_of {φ : List Nat} {o : Option (Option (List Nat))} (h : endsAt φ o = true) : ∃ r, o = some r ∧ (r = none ∨ r = some φ) := by
  match o, h with
  | some none, _ => exact ⟨_, rfl, .inl rfl⟩
  | some (some x), h => exact ⟨_, rfl, .inr (by rw [of_decide_eq_true h])⟩
mutual
theorem sS : ∀ (s : CS) {c : AC} {X : Cx} {st : Stmt} {φ : List Nat} {rk : Nat} {lp : Option (List Nat)} {φl : List Nat}, GS X c fr Φ k → agS s c st = true → ∀ {r : Option (List Nat)}, chS fr rk lp φ s = some r → (∀ x, lp = some x → x = φl) →
    ∀ {φ' : List Nat}, (r = none ∨ r = some φ') → PS X st (RdS X.K φ rk φ' φl (evS Φ s))
  | .set i m e, c, X, st, φ, rk, lp, φl, g, ha, r, hc, hl, φ', hr => by
    unfold agS at ha
    split at ha
    · rename_i x px v pos
      simp only [Bool.and_eq_true, decide_eq_true_eq] at ha
      obtain ⟨⟨h1, h2⟩, h3⟩ := ha
      unfold chS at hc
      replace hc := okTo_some hc
      obtain ⟨hc, rfl⟩ := hc
      rw [Bool.and_eq_true, decide_eq_true_eq] at hc
      rcases hr with hr | hr
      · cases hr
      cases hr
      cases hs : swB X.env.scope x px v with
      | false => exact s_set g h1 h2 hc.2 (leR_pe (fun r' h' => sE e g.toGX h3 h') hc.1) (sw_name h3 hs)
      | true =>
        have : ∃ elt gs sc p, v = .ListComp elt gs sc p := by
          cases v <;> first
            | exact ⟨_, _, _, _, rfl⟩
            | (simp [swB] at hs)
        obtain ⟨elt, gs, sc, p, rfl⟩ := this
        cases e <;> first
          | exact s_setLc g h1 h2 hc.2 h3 hc.1 hs
          | exact s_setLc2 g h1 h2 hc.2 h3 hc.1 hs
          | (simp [agE] at h3)
    · cases ha
  | .asg p e, c, X, st, φ, rk, lp, φl, g, ha, r, hc, hl, φ', hr => by
    unfold agS at ha
    split at ha
    · simp only [Bool.and_eq_true, Bool.not_eq_true'] at ha
      obtain ⟨⟨⟨h1, h2⟩, h3⟩, h4⟩ := ha
      unfold chS at hc
      replace hc := okTo_some hc
      obtain ⟨hc, rfl⟩ := hc
      rw [Bool.and_eq_true] at hc
      rcases hr with hr | hr
      · cases hr
      cases hr
      exact s_asg g h1 hc.2 (leR_pe (fun r' h' => sE e g.toGX h2 h') hc.1) (sw_no2 h2 h4) (sw_noSw g.sc h3)
    · cases ha
  | .par2 i j ki kj p q, c, X, st, φ, rk, lp, φl, g, ha, r, hc, hl, φ', hr => by
    unfold agS at ha
    split at ha
    · rw [Bool.and_eq_true] at ha
      obtain ⟨ha, h6⟩ := ha
      simp only [Bool.and_eq_true, decide_eq_true_eq] at ha
      obtain ⟨⟨⟨⟨h1, h2⟩, h3⟩, h4⟩, h5⟩ := ha
      unfold chS at hc
      replace hc := okTo_some hc
      obtain ⟨hc, rfl⟩ := hc
      simp only [Bool.and_eq_true, decide_eq_true_eq] at hc
      rcases hr with hr | hr
      · cases hr
      cases hr
      rw [Bool.or_eq_true] at h6
      rcases h6 with h6 | h6
      · simp only [Bool.and_eq_true] at h6
        exact s_parc2 g h1 h2 (agE_plain h4) (agE_plain h5) h6.1.1 h6.1.2 h6.2 hc.1.2 hc.2 (leR_pe (fun r' h' => sE p g.toGX h4 h') hc.1.1.1) (leR_pe (fun r' h' => sE q g.toGX h5 h') hc.1.1.2)
      exact s_par2 g h1 h2 h3 (agE_plain h4) (agE_plain h5) h6 hc.1.2 hc.2 (leR_pe (fun r' h' => sE p g.toGX h4 h') hc.1.1.1) (leR_pe (fun r' h' => sE q g.toGX h5 h') hc.1.1.2)
    · cases ha
  | .par3 i j l ki kj kl p q t, c, X, st, φ, rk, lp, φl, g, ha, r, hc, hl, φ', hr => by
    unfold agS at ha
    split at ha
    · rw [Bool.and_eq_true] at ha
      obtain ⟨ha, h10⟩ := ha
      simp only [Bool.and_eq_true, decide_eq_true_eq] at ha
      obtain ⟨⟨⟨⟨⟨⟨⟨⟨h1, h2⟩, h3⟩, h4⟩, h5⟩, h6⟩, h7⟩, h8⟩, h9⟩ := ha
      unfold chS at hc
      replace hc := okTo_some hc
      obtain ⟨hc, rfl⟩ := hc
      simp only [Bool.and_eq_true, decide_eq_true_eq] at hc
      rcases hr with hr | hr
      · cases hr
      cases hr
      rw [Bool.or_eq_true] at h10
      rcases h10 with h10 | h10
      · simp only [Bool.and_eq_true] at h10
        exact s_parc3 g h1 h2 h3 (agE_plain h7) (agE_plain h8) (agE_plain h9) h10.1.1.1 h10.1.1.2 h10.1.2 h10.2 hc.1.1.2 hc.1.2 hc.2 (leR_pe (fun r' h' => sE p g.toGX h7 h') hc.1.1.1.1.1) (leR_pe (fun r' h' => sE q g.toGX h8 h') hc.1.1.1.1.2) (leR_pe (fun r' h' => sE t g.toGX h9 h') hc.1.1.1.2)
      exact s_par3 g h1 h2 h3 h4 h5 h6 (agE_plain h7) (agE_plain h8) (agE_plain h9) h10 hc.1.1.2 hc.1.2 hc.2 (leR_pe (fun r' h' => sE p g.toGX h7 h') hc.1.1.1.1.1) (leR_pe (fun r' h' => sE q g.toGX h8 h') hc.1.1.1.1.2) (leR_pe (fun r' h' => sE t g.toGX h9 h') hc.1.1.1.2)
    · cases ha
  | .par4 i j l m ki kj kl km p q t u, c, X, st, φ, rk, lp, φl, g, ha, r, hc, hl, φ', hr => by
    unfold agS at ha
    split at ha
    · simp only [Bool.and_eq_true, decide_eq_true_eq] at ha
      obtain ⟨⟨⟨⟨⟨⟨⟨⟨⟨⟨⟨⟨h1, h2⟩, h3⟩, h4⟩, h5⟩, h6⟩, h7⟩, h8⟩, h9⟩, h10⟩, h11⟩, h12⟩, h13⟩ := ha
      unfold chS at hc
      replace hc := okTo_some hc
      obtain ⟨hc, rfl⟩ := hc
      simp only [Bool.and_eq_true, decide_eq_true_eq] at hc
      obtain ⟨⟨⟨⟨⟨⟨⟨c1, c2⟩, c3⟩, c4⟩, c5⟩, c6⟩, c7⟩, c8⟩ := hc
      rcases hr with hr | hr
      · cases hr
      cases hr
      exact s_parc4 g h1 h2 h3 h4 (agE_plain h5) (agE_plain h6) (agE_plain h7) (agE_plain h8) h9 h10 h11 h12 h13 c5 c6 c7 c8 (leR_pe (fun r' h' => sE p g.toGX h5 h') c1) (leR_pe (fun r' h' => sE q g.toGX h6 h') c2) (leR_pe (fun r' h' => sE t g.toGX h7 h') c3) (leR_pe (fun r' h' => sE u g.toGX h8 h') c4)
    · cases ha
  | .ins i j e, c, X, st, φ, rk, lp, φl, g, ha, r, hc, hl, φ', hr => by
    unfold agS at ha
    split at ha
    · simp only [Bool.and_eq_true, decide_eq_true_eq] at ha
      obtain ⟨⟨⟨⟨h1, h2⟩, h3⟩, h4⟩, h5⟩ := ha
      subst h1
      unfold chS at hc
      replace hc := okTo_some hc
      obtain ⟨hc, rfl⟩ := hc
      simp only [Bool.and_eq_true, beq_iff_eq] at hc
      rcases hr with hr | hr
      · cases hr
      cases hr
      exact s_ins g h3 h2 hc.2 (agE_plain h4) (agE_plain h5) (leR_pe (fun r' h' => sE j g.toGX h4 h') hc.1.1) (leR_pe (fun r' h' => sE e g.toGX h5 h') hc.1.2)
    · cases ha
  | .popa i p, c, X, st, φ, rk, lp, φl, g, ha, r, hc, hl, φ', hr => by
    unfold agS at ha
    split at ha
    · simp only [Bool.and_eq_true, decide_eq_true_eq] at ha
      obtain ⟨⟨⟨⟨h1, h2⟩, h3⟩, h4⟩, h5⟩ := ha
      subst h1
      unfold chS at hc
      replace hc := okTo_some hc
      obtain ⟨hc, rfl⟩ := hc
      simp only [Bool.and_eq_true, beq_iff_eq] at hc
      rcases hr with hr | hr
      · cases hr
      cases hr
      exact s_popa g h3 h2 hc.1 h4 hc.2 (sw_noSw g.sc h5)
    · cases ha
  | .ext i m e, c, X, st, φ, rk, lp, φl, g, ha, r, hc, hl, φ', hr => by
    unfold agS at ha
    split at ha
    · simp only [Bool.and_eq_true, decide_eq_true_eq] at ha
      obtain ⟨⟨⟨h1, h2⟩, h3⟩, h4⟩ := ha
      subst h1
      unfold chS at hc
      replace hc := okTo_some hc
      obtain ⟨hc, rfl⟩ := hc
      rw [Bool.and_eq_true, beq_iff_eq] at hc
      rcases hr with hr | hr
      · cases hr
      cases hr
      exact s_ext g h3 h2 hc.2 (agE_plain h4) (leR_pe (fun r' h' => sE e g.toGX h4 h') hc.1)
    · cases ha
  | .aug i sb e, c, X, st, φ, rk, lp, φl, g, ha, r, hc, hl, φ', hr => by
    unfold agS at ha
    split at ha
    · simp only [Bool.and_eq_true, decide_eq_true_eq] at ha
      obtain ⟨⟨⟨h1, h2⟩, h3⟩, h4⟩ := ha
      unfold chS at hc
      replace hc := okTo_some hc
      obtain ⟨hc, rfl⟩ := hc
      rw [Bool.and_eq_true, beq_iff_eq] at hc
      rcases hr with hr | hr
      · cases hr
      cases hr
      exact s_aug g h1 h2 hc.2 h3 (leR_pe (fun r' h' => sE e g.toGX h4 h') hc.1)
    · cases ha
  | .app i m e, c, X, st, φ, rk, lp, φl, g, ha, r, hc, hl, φ', hr => by
    unfold agS at ha
    split at ha
    · simp only [Bool.and_eq_true, decide_eq_true_eq] at ha
      obtain ⟨⟨⟨h1, h2⟩, h3⟩, h4⟩ := ha
      subst h1
      unfold chS at hc
      replace hc := okTo_some hc
      obtain ⟨hc, rfl⟩ := hc
      rw [Bool.and_eq_true, beq_iff_eq] at hc
      rcases hr with hr | hr
      · cases hr
      cases hr
      exact s_app g h3 h2 hc.2 (agE_plain h4) (leR_pe (fun r' h' => sE e g.toGX h4 h') hc.1)
    · cases ha
  | .app1 i m j e, c, X, st, φ, rk, lp, φl, g, ha, r, hc, hl, φ', hr => by
    unfold agS at ha
    split at ha
    · simp only [Bool.and_eq_true, decide_eq_true_eq] at ha
      obtain ⟨⟨⟨⟨h1, h2⟩, h3⟩, h4⟩, h5⟩ := ha
      subst h1
      unfold chS at hc
      replace hc := okTo_some hc
      obtain ⟨hc, rfl⟩ := hc
      simp only [Bool.and_eq_true, beq_iff_eq] at hc
      rcases hr with hr | hr
      · cases hr
      cases hr
      exact s_app1 g h3 h2 hc.2 (agE_plain h5) (agE_plain h4) (leR_pe (fun r' h' => sE e g.toGX h5 h') hc.1.2) (leR_pe (fun r' h' => sE j g.toGX h4 h') hc.1.1)
    · cases ha
  | .sto i m j e, c, X, st, φ, rk, lp, φl, g, ha, r, hc, hl, φ', hr => by
    unfold agS at ha
    split at ha
    · simp only [Bool.and_eq_true] at ha
      obtain ⟨⟨h1, h2⟩, h3⟩ := ha
      unfold chS at hc
      replace hc := okTo_some hc
      obtain ⟨hc, rfl⟩ := hc
      simp only [Bool.and_eq_true, beq_iff_eq] at hc
      rcases hr with hr | hr
      · cases hr
      cases hr
      exact s_sto g h1 hc.2 (agE_plain h2) (leR_pe (fun r' h' => sE e g.toGX h3 h') hc.1.1) (leR_pe (fun r' h' => sE j g.toGX h2 h') hc.1.2)
    · cases ha
  | .sto1 i m j l e, c, X, st, φ, rk, lp, φl, g, ha, r, hc, hl, φ', hr => by
    unfold agS at ha
    split at ha
    · simp only [Bool.and_eq_true] at ha
      obtain ⟨⟨⟨h1, h2⟩, h3⟩, h4⟩ := ha
      unfold chS at hc
      replace hc := okTo_some hc
      obtain ⟨hc, rfl⟩ := hc
      simp only [Bool.and_eq_true, beq_iff_eq] at hc
      rcases hr with hr | hr
      · cases hr
      cases hr
      exact s_sto1 g h1 hc.2 (agE_plain h2) (agE_plain h3) (leR_pe (fun r' h' => sE e g.toGX h4 h') hc.1.1.1) (leR_pe (fun r' h' => sE j g.toGX h2 h') hc.1.1.2) (leR_pe (fun r' h' => sE l g.toGX h3 h') hc.1.2)
    · cases ha
  | .augs i sb j e, c, X, st, φ, rk, lp, φl, g, ha, r, hc, hl, φ', hr => by
    unfold agS at ha
    split at ha
    · simp only [Bool.and_eq_true] at ha
      obtain ⟨⟨⟨h1, h2⟩, h3⟩, h4⟩ := ha
      unfold chS at hc
      replace hc := okTo_some hc
      obtain ⟨hc, rfl⟩ := hc
      simp only [Bool.and_eq_true, beq_iff_eq] at hc
      rcases hr with hr | hr
      · cases hr
      cases hr
      exact s_augs g h1 hc.2 h3 (agE_plain h2) (leR_pe (fun r' h' => sE j g.toGX h2 h') hc.1.1) (leR_pe (fun r' h' => sE e g.toGX h4 h') hc.1.2)
    · cases ha
  | .ife t a b, c, X, st, φ, rk, lp, φl, g, ha, r, hc, hl, φ', hr => by
    unfold agS at ha
    split at ha
    · simp only [Bool.and_eq_true] at ha
      obtain ⟨⟨h1, h2⟩, h3⟩ := ha
      unfold chS at hc
      rcases ite_some hc with ⟨ht, hc⟩ | ⟨_, hc⟩
      · have hj : ∃ x y, chSs fr rk lp φ a = some x ∧ chSs fr rk lp φ b = some y ∧ (x = none ∨ x = some φ') ∧ (y = none ∨ y = some φ') := by
          revert hc
          generalize chSs fr rk lp φ a = x
          generalize chSs fr rk lp φ b = y
          intro hc
          rcases x with _ | _ | x <;> rcases y with _ | _ | y <;> simp only [joinF, reduceCtorEq, Option.some.injEq] at hc
          · exact ⟨_, _, rfl, rfl, .inl rfl, .inl rfl⟩
          · subst hc; exact ⟨_, _, rfl, rfl, .inl rfl, hr⟩
          · subst hc; exact ⟨_, _, rfl, rfl, hr, .inl rfl⟩
          · rcases ite_some hc with ⟨hxy, hc2⟩ | ⟨_, hc2⟩
            · clear hc
              subst hxy
              cases hc2
              exact ⟨_, _, rfl, rfl, hr, hr⟩
            · cases hc2
        obtain ⟨x, y, hx, hy, rx, ry⟩ := hj
        exact s_if (sT t g.toGX h1 ht).1 (sSs a g h2 hx hl rx) (sSs b g h3 hy hl ry)
      · cases hc
    · cases ha
  | .for_ tg it b, c, X, st, φ, rk, lp, φl, g, ha, r, hc, hl, φ', hr => by
    unfold agS at ha
    split at ha
    · simp only [Bool.and_eq_true] at ha
      obtain ⟨⟨h1, h2⟩, h3⟩ := ha
      unfold chS at hc
      replace hc := okTo_some hc
      obtain ⟨hc, rfl⟩ := hc
      simp only [Bool.and_eq_true, decide_eq_true_eq] at hc
      obtain ⟨⟨⟨c1, c2⟩, c3⟩, c4⟩ := hc
      rw [List.all_eq_true] at c3
      rcases hr with hr | hr
      · cases hr
      cases hr
      obtain ⟨r, hr, hr'⟩ := endsAt_of c4
      have I := sJ it g.toGX h2 c1
      have hp := agI_plain h2
      exact s_for g h1 hp I c2 (fun i hi => of_decide_eq_true (c3 i hi)) (sSs b g h3 hr (fun x hx => by cases hx; rfl) hr')
    · cases ha
  | .whl t b, c, X, st, φ, rk, lp, φl, g, ha, r, hc, hl, φ', hr => by
    unfold agS at ha
    split at ha
    · simp only [Bool.and_eq_true] at ha
      unfold chS at hc
      replace hc := okTo_some hc
      obtain ⟨hc, rfl⟩ := hc
      rw [Bool.and_eq_true] at hc
      rcases hr with hr | hr
      · cases hr
      cases hr
      obtain ⟨r, hr, hr'⟩ := endsAt_of hc.2
      exact s_while g (sT t g.toGX ha.1 hc.1).1 (sSs b g ha.2 hr (fun x hx => by cases hx; rfl) hr')
    · cases ha
  | .ret e, c, X, st, φ, rk, lp, φl, g, ha, r, hc, hl, φ', hr => by
    unfold agS at ha
    split at ha
    · unfold chS at hc
      rcases ite_some hc with ⟨hb, hc⟩ | ⟨_, hc⟩
      · rw [Bool.or_eq_true] at hb
        rcases hb with hb | hb
        · exact s_ret (leR_pe (fun r' h' => sE e g.toGX ha h') hb)
        · cases e <;> first
            | (simp [retO] at hb; done)
            | skip
          rename_i i
          unfold retO at hb
          rw [beq_iff_eq] at hb
          unfold agE at ha
          have e : evS Φ (.ret (.var i)) = fun ρ => (getV ρ i).map .rt := by
            funext ρ
            unfold evS evE
            rfl
          rw [e]
          refine s_retV g.toGX (i := i) ?_ hb
          unfold nmB
          exact ha
      · cases hc
    · cases ha
  | .retN, c, X, st, φ, rk, lp, φl, g, ha, r, hc, hl, φ', hr => by
    unfold agS at ha
    split at ha
    · unfold chS at hc
      rcases ite_some hc with ⟨hb, hc⟩ | ⟨_, hc⟩
      · rw [beq_iff_eq] at hb
        subst hb
        exact s_retN
      · cases hc
    · cases ha
  | .brk, c, X, st, φ, rk, lp, φl, g, ha, r, hc, hl, φ', hr => by
    unfold agS at ha
    split at ha
    · unfold chS at hc
      rcases ite_some hc with ⟨hb, hc⟩ | ⟨_, hc⟩
      · have := hl _ hb
        subst this
        refine psI ps_break fun D σ H ⟨H0, F0, ρ, F, S, st, b, o, e, q⟩ => ?_
        cases e
        exact q _ _ _ _ st b
      · cases hc
    · cases ha
  | .cnt, c, X, st, φ, rk, lp, φl, g, ha, r, hc, hl, φ', hr => by
    unfold agS at ha
    split at ha
    · unfold chS at hc
      rcases ite_some hc with ⟨hb, hc⟩ | ⟨_, hc⟩
      · have := hl _ hb
        subst this
        refine psI ps_continue fun D σ H ⟨H0, F0, ρ, F, S, st, b, o, e, q⟩ => ?_
        cases e
        exact q _ _ _ _ st b
      · cases hc
    · cases ha
  | .pas, c, X, st, φ, rk, lp, φl, g, ha, r, hc, hl, φ', hr => by
    unfold agS at ha
    split at ha
    · unfold chS at hc
      cases hc
      rcases hr with hr | hr
      · cases hr
      cases hr
      refine psI ps_pass fun D σ H ⟨H0, F0, ρ, F, S, st, b, o, e, q⟩ => ?_
      cases e
      exact q _ _ _ _ st b
    · cases ha
  | .doc, c, X, st, φ, rk, lp, φl, g, ha, r, hc, hl, φ', hr => by
    unfold agS at ha
    split at ha
    · unfold chS at hc
      cases hc
      rcases hr with hr | hr
      · cases hr
      cases hr
      refine psI ps_doc fun D σ H ⟨H0, F0, ρ, F, S, st, b, o, e, q⟩ => ?_
      cases e
      exact q _ _ _ _ st b
    · cases ha
  | .frz is, c, X, st, φ, rk, lp, φl, g, ha, r, hc, hl, φ', hr => by
    unfold agS at ha
    cases ha
theorem sSs : ∀ (ss : CSs) {c : AC} {X : Cx} {sts : List Stmt} {φ : List Nat} {rk : Nat} {lp : Option (List Nat)} {φl : List Nat}, GS X c fr Φ k → agSs ss c sts = true → ∀ {r : Option (List Nat)}, chSs fr rk lp φ ss = some r → (∀ x, lp = some x → x = φl) →
    ∀ {φ' : List Nat}, (r = none ∨ r = some φ') → PSs X sts (RdS X.K φ rk φ' φl (evSs Φ ss))
  | .nil, c, X, sts, φ, rk, lp, φl, g, ha, r, hc, hl, φ', hr => by
    unfold agSs at ha
    split at ha
    · unfold chSs at hc
      cases hc
      rcases hr with hr | hr
      · cases hr
      cases hr
      refine pssI pss_nil fun D σ H ⟨H0, F0, ρ, F, S, st, b, o, e, q⟩ => ?_
      cases e
      exact q _ _ _ _ st b
    · cases ha
  | .cons s ss, c, X, sts, φ, rk, lp, φl, g, ha, r, hc, hl, φ', hr => by
    unfold agSs at ha
    split at ha
    · rename_i is
      unfold chSs at hc
      unfold chS at hc
      cases ho : okTo (is.all fun i => decide (i < φ.length)) (φ0 φ is) with
      | none => rw [ho] at hc; cases hc
      | some q =>
        rw [ho] at hc
        obtain ⟨hb, rfl⟩ := okTo_some ho
        rw [List.all_eq_true] at hb
        refine s_frz is (fun i hi => of_decide_eq_true (hb i hi)) ?_
        refine pssI (sSs ss g ha hc hl hr) fun D σ H ⟨H0, F0, ρ, F, S, st, b, o, e, q⟩ => ⟨H0, F0, ρ, F, S, st, b, o, ?_, q⟩
        unfold evSs at e
        unfold evS at e
        exact e
    · split at ha
      · rw [Bool.and_eq_true] at ha
        unfold chSs at hc
        split at hc
        · rename_i hs
          exact s_dead (fun φ1 => sS s g ha.1 hs hl (.inl rfl)) (dS s hs)
        · rename_i φ1 hs
          exact s_seq (sS s g ha.1 hs hl (.inr rfl)) (sSs ss g ha.2 hc hl hr)
        · cases hc
      · cases ha
end
end
end Ev

/-! Defs. -/
namespace Ev
open PySem PySem.Spec PyProof.Rows L2

def runD (Φ : Fns) (n np : Nat) (body : CSs) (ds : List D) : Option D :=
  if ds.length = np then (match evSs Φ body (ds ++ List.replicate (n - np) .bad) with
    | some (.nx _) => some .non
    | some (.rt d) => some d
    | _ => none) else none
def recD (Φ : Fns) (n np : Nat) (body : CSs) : Nat → List D → Option D
  | 0 => fun _ => none
  | d + 1 => runD (recD Φ n np body d :: Φ) n np body
section
variable {P : Program} {w : World} {K : PySem.W.Frag} {mg : Str → Option Value} {base : Heap} {k : Nat}
theorem FnD.mono {j : Nat} {x : Str} {rk : Nat} {f : List D → Option D} (h : FnD P w K mg base j x rk f) (hl : j ≤ k) : FnD P w K mg base k x rk f := by
  obtain ⟨n, a, fd, ps, F, h⟩ := h.ex
  exact ⟨n, a, fd, ps, F.mono hl, h⟩
inductive Tab (P : Program) (w : World) (K : PySem.W.Frag) (mg : Str → Option Value) (base : Heap) (k : Nat) : List Str → List Nat → Fns → Prop
  | nil : Tab P w K mg base k [] [] []
  | cons {x : Str} {rk : Nat} {f : List D → Option D} {fs : List Str} {fr : List Nat} {Φ : Fns} : FnD P w K mg base k x rk f → Tab P w K mg base k fs fr Φ → Tab P w K mg base k (x :: fs) (rk :: fr) (f :: Φ)
theorem Tab.ok : ∀ {fs : List Str} {fr : List Nat} {Φ : Fns}, Tab P w K mg base k fs fr Φ → ∀ (j : Nat) (x : Str) (rk : Nat), fs[j]? = some x → fr[j]? = some rk → ∃ f, Φ[j]? = some f ∧ FnD P w K mg base k x rk f
  | _, _, _, .nil, j, x, rk, h, _ => by simp at h
  | _, _, _, .cons h t, 0, x, rk, h1, h2 => by
    simp only [List.getElem?_cons_zero, Option.some.injEq] at h1 h2
    subst h1 h2
    exact ⟨_, rfl, h⟩
  | _, _, _, .cons h t, j + 1, x, rk, h1, h2 => by
    rw [List.getElem?_cons_succ] at h1 h2 ⊢
    exact t.ok j x rk h1 h2
theorem Tab.mono {j : Nat} (hl : j ≤ k) : ∀ {fs : List Str} {fr : List Nat} {Φ : Fns}, Tab P w K mg base j fs fr Φ → Tab P w K mg base k fs fr Φ
  | _, _, _, .nil => .nil
  | _, _, _, .cons h t => .cons (h.mono hl) (t.mono hl)

def okScope (N ps : List Str) (sc : Scope) : Bool :=
  decide (sc.kind = .function) && !sc.isCoroutine && !sc.isGenerator && decide N.Nodup && decide (N.take ps.length = ps) && ps.all (fun x => decide (sc.names.lookup x = some .local) || decide (sc.names.lookup x = some .cell)) && sc.names.all (fun y => decide (y.2 ≠ .free))
theorem scope_of {N ps : List Str} {sc : Scope} (h : okScope N ps sc = true) : FnScope N ps sc := by
  unfold okScope at h
  simp only [Bool.and_eq_true, decide_eq_true_eq, Bool.not_eq_true', List.all_eq_true, Bool.or_eq_true] at h
  obtain ⟨⟨⟨⟨⟨⟨h1, h2⟩, h3⟩, h4⟩, h5⟩, h6⟩, h7⟩ := h
  exact ⟨h1, h2, h3, h4, h5, h6, h7⟩
def okEnd (rk : Nat) : Option (Option (List Nat)) → Bool
  | some none => true
  | some (some _) => rk == 0
  | none => false
def okDef (fs : List Str) (fr : List Nat) (N ps : List Str) (rk : Nat) (body : CSs) (st : Stmt) : Bool :=
  okScope N ps (defScope st) && agSs body ⟨N, fs, defScope st, fun _ => true⟩ (defBody st) && okEnd rk (chSs fr rk none (List.replicate N.length 0) body)
theorem slots_start {F : Pa} {H : Hp} : ∀ (n : Nat) {ds : List D} {vs : List V}, AllR (Rep K F H) ds vs → ds.length ≤ n → Slots K F H (List.replicate n 0) (ds ++ List.replicate (n - ds.length) .bad) (vs.map some ++ List.replicate (n - vs.length) none) []
  | 0, ds, vs, h, hl => by
    have : ds = [] := List.eq_nil_of_length_eq_zero (by omega)
    subst this
    have : vs = [] := h
    subst this
    exact ⟨rfl, rfl, rfl⟩
  | n + 1, [], vs, h, hl => by
    have : vs = [] := h
    subst this
    exact ⟨.bad, _, none, _, [], [], rfl, rfl, rfl, .inl ⟨rfl, rfl⟩, slots_start n (ds := []) (vs := []) rfl (Nat.zero_le _)⟩
  | n + 1, d :: ds, vs, ⟨v, r, e, h1, h2⟩, hl => by
    subst e
    have e1 : n + 1 - (d :: ds).length = n - ds.length := by rw [List.length_cons]; omega
    have e2 : n + 1 - (v :: r).length = n - r.length := by rw [List.length_cons]; omega
    rw [e1, e2]
    exact ⟨d, _, some v, _, [], [], rfl, rfl, rfl, .inr ⟨v, rfl, rfl, h1⟩, slots_start n h2 (by rw [List.length_cons] at hl; omega)⟩
theorem fn_ok0 {x : Str} {st : Stmt} {f : Addr} {fd : FuncData} {N ps : List Str} {rk : Nat} {body : CSs} {fs : List Str} {fr : List Nat} {Φ : Fns} (F : Fun K x x st f fd) (B : ∀ b ∈ bltNames, mg b = none) (T : Tab P w K mg base k fs fr Φ) (ok : okDef fs fr N ps rk body st = true) :
    FnOk P w K mg base CX0 (k + 1) f fd ps (spD K ps.length rk (runD Φ N.length ps.length body)) := by
  unfold okDef at ok
  simp only [Bool.and_eq_true] at ok
  obtain ⟨⟨o1, o2⟩, o3⟩ := ok
  have S := scope_of o1
  refine F.ok S (fun vs H Q E h => h.1) fun cdv A outer s H vs Q E hr h => ?_
  obtain ⟨hl, F0, ds, fo, all, d, hd, q⟩ := h
  have hdl : ds.length = ps.length := by rw [← AllR.len all]; exact hl
  have hpl : ps.length ≤ N.length := by
    have := congrArg List.length S.pre
    rw [List.length_take] at this
    omega
  have G : GS (cxOf CX0 P w K mg base N x (defScope st) f cdv A outer s H E).nox ⟨N, fs, defScope st, fun _ => true⟩ fr Φ k := { N := rfl, sc := rfl, fn := rfl, nd := S.nd, calm := rfl, room := hr, blt := B, fns := T.ok, nox := rfl, kind := S.kind }
  have st0 : Sta K (List.replicate N.length 0) (ds ++ List.replicate (N.length - ps.length) .bad) (start N vs) H F0 [] := by
    have := slots_start (F := F0) (H := H) N.length all (by omega)
    rw [hdl] at this
    exact ⟨this, fo, (fun _ h => nomatch h), List.nodup_nil⟩
  have b0 : Bs F0 H F0 H [] := ⟨.refl fo, fun _ h => nomatch h⟩
  unfold runD at hd
  rw [if_pos hdl] at hd
  cases hc : chSs fr rk none (List.replicate N.length 0) body with
  | none => rw [hc] at o3; cases o3
  | some r =>
    rw [hc] at o3
    cases r with
    | none =>
      refine ⟨_, sSs body G o2 hc (fun _ h => (nomatch h)) (φl := []) (φ' := []) (.inl rfl), ?_⟩
      have dd := dSs (Φ := Φ) body hc (ds ++ List.replicate (N.length - ps.length) .bad)
      cases he : evSs Φ body (ds ++ List.replicate (N.length - ps.length) .bad) with
      | none => rw [he] at hd; cases hd
      | some o =>
        rw [he] at hd
        refine ⟨H, F0, _, F0, [], st0, b0, o, he, ?_⟩
        cases o with
        | nx ρ' => exact absurd he (dd ρ')
        | rt d' => cases hd; exact q
        | bk _ => cases hd
        | ct _ => cases hd
    | some φ' =>
      have hk : rk = 0 := by simpa [okEnd] using o3
      subst hk
      refine ⟨_, sSs body G o2 hc (fun _ h => (nomatch h)) (φl := []) (φ' := φ') (.inr rfl), ?_⟩
      cases he : evSs Φ body (ds ++ List.replicate (N.length - ps.length) .bad) with
      | none => rw [he] at hd; cases hd
      | some o =>
        rw [he] at hd
        refine ⟨H, F0, _, F0, [], st0, b0, o, he, ?_⟩
        cases o with
        | nx ρ' =>
          cases hd
          exact fun σ' H' F' S' s' b' => q _ _ F' b'.ext (own0 (sv_rep rfl))
        | rt d' => cases hd; exact q
        | bk _ => cases hd
        | ct _ => cases hd
/-- what the top has written of a def -/
structure FnH (K : PySem.W.Frag) (mg : Str → Option Value) (x : Str) (st : Stmt) (ps : List Str) : Prop where
  ex : ∃ f fd, Fun K x x st f fd ∧ mg x = some (.ref f) ∧ Binds K fd ps []
theorem runD_len {Φ : Fns} {n np : Nat} {body : CSs} {ds : List D} {d : D} (h : runD Φ n np body ds = some d) : ds.length = np := by
  unfold runD at h
  rcases ite_some h with ⟨h, _⟩ | ⟨_, h⟩
  · exact h
  · cases h
theorem fn_ok {x : Str} {st : Stmt} {N ps : List Str} {rk : Nat} {body : CSs} {fs : List Str} {fr : List Nat} {Φ : Fns} (h : FnH K mg x st ps) (B : ∀ b ∈ bltNames, mg b = none) (T : Tab P w K mg base k fs fr Φ) (ok : okDef fs fr N ps rk body st = true) :
    FnD P w K mg base (k + 1) x rk (runD Φ N.length ps.length body) := by
  obtain ⟨f, fd, F, hm, hb⟩ := h.ex
  exact ⟨ps.length, f, fd, ps, fn_ok0 F B T ok, hm, F.kp, hb, fun ds d h => runD_len h⟩
/-- a def that calls itself -/
theorem fn_rec {x : Str} {st : Stmt} {N ps : List Str} {rk : Nat} {body : CSs} {fs : List Str} {fr : List Nat} {Φ : Fns} (h : FnH K mg x st ps) (B : ∀ b ∈ bltNames, mg b = none) (T : Tab P w K mg base k fs fr Φ) (ok : okDef (x :: fs) (rk :: fr) N ps rk body st = true) :
    ∀ d, FnD P w K mg base (k + d) x rk (recD Φ N.length ps.length body d)
  | 0 => by
    obtain ⟨f, fd, F, hm, hb⟩ := h.ex
    refine ⟨ps.length, f, fd, ps, ⟨fun vs H Q E h => h.1, fun A outer s H args us vs Q E _ _ _ _ h => ?_⟩, hm, F.kp, hb, fun ds d h => nomatch h⟩
    obtain ⟨_, _, _, _, _, _, hd, _⟩ := h
    cases hd
  | d + 1 => fn_ok h B (.cons (fn_rec h B T ok d) (T.mono (Nat.le_add_right _ _))) ok
theorem fnH_mk {h : Heap} {x : Str} {st : Stmt} {ps : List Str} {f : Addr} {oc : Value} {od an : Option Addr} {osl : Array (Option Value)} {kV doc pm cdv ct : Value} (X : K.In h) (G : h.Ns mainGlobals mg) (a : PySem.W.nsIn K mainGlobals x = some (some (.ref f)))
    (l : K.lookup f = some ⟨oc, od, .func (PySem.W.fnOf x x (defArgs st) (defBody st) (defScope st) .none kV doc pm an cdv ct), osl⟩) (c : PySem.W.codeIn K cdv x = true) (k : PySem.W.keepIn K (.ref f) = true)
    (hb : ∀ (kV doc pm : Value) (an : Option Addr) (cdv ct : Value) (us : List Value), us.length = ps.length → bindArgs (PySem.W.fnOf x x (defArgs st) (defBody st) (defScope st) .none kV doc pm an cdv ct) ⟨us, []⟩ = pure (ps.zip us)) : FnH K mg x st ps :=
  have F := fun_mk (st := st) l c k
  ⟨f, _, F, PySem.W.mg_of X G a, F.binds hb⟩
theorem scr_rep {H : Hp} {a : Addr} {ns : List Int} (h : SqL K H a (ns.map V.int)) : Rep K (fun b => (H b).isSome = true) H (.scr (ns.map D.int)) (.ref a) := by
  unfold Rep
  refine ⟨a, ns.map V.int, rfl, ?_, reps_iff.mpr ?_⟩
  · rcases h with h | h
    · refine .inl ⟨h, ?_⟩
      rcases h with h | ⟨o, h⟩ <;> (show (H a).isSome = true; rw [h]; rfl)
    · exact .inr (.inr h)
  · clear h
    induction ns with
    | nil => rfl
    | cons n ns ih => exact ⟨.int n, ns.map V.int, rfl, sv_rep rfl, ih⟩
theorem law_sp {f : List D → Option D} (hf : ∀ ns : List Int, ns.length ≤ 63 → f [.scr (ns.map D.int)] = some (.bl true)) (H : Hp) (a : Addr) (ns : List Int) (hl : ns.length ≤ 63) (h : SqL K H a (ns.map V.int)) :
    spD K 1 0 f [.ref a] H (fun v _ => v = .bl true) fun _ _ _ => False :=
  ⟨rfl, _, [.scr (ns.map D.int)], fun _ h => h, ⟨.ref a, [], rfl, scr_rep h, rfl⟩, .bl true, hf ns hl, fun v H' F' _ r => rep_bl (of0 r)⟩
end
end Ev

/-! The part that all laws share: the drawn row, likeness. -/
namespace Ev
open PySem PySem.Spec PyProof.Rows L2
namespace Pre
def C__law_mixed : CSs := (.cons (.set 2 0 (.int 0)) (.cons (.ife (.cmp .gt (.bi .len (.cons (.var 0) .nil)) (.int 0)) (.cons (.set 2 0 (.idx (.var 0) (.bin .mod (.var 1) (.bi .len (.cons (.var 0) .nil))))) .nil) .nil) (.cons (.set 3 0 (.bin .mod (.bi .int (.cons (.bin .add (.bin .add (.bin .mul (.var 2) (.int 48271)) (.bin .mul (.var 1) (.int 69621))) (.int 8191)) .nil)) (.int 2147483647))) (.cons (.set 4 0 (.bin .mod (.bi .int (.cons (.bin .add (.bin .add (.bin .mul (.var 3) (.var 3)) (.bin .fdiv (.var 3) (.int 7))) (.bin .mul (.var 1) (.int 16807))) .nil)) (.int 2147483629))) (.cons (.set 5 0 (.bin .mod (.bi .int (.cons (.bin .add (.bin .add (.bin .mul (.var 4) (.var 4)) (.bin .fdiv (.var 4) (.int 11))) (.int 40692)) .nil)) (.int 2147483563))) (.cons (.ret (.bin .mod (.bin .fdiv (.var 5) (.int 5)) (.int 1000003))) .nil))))))
def F__law_mixed : List D → Option D := runD [] 6 2 C__law_mixed
def C__law_row : CSs := (.cons (.set 2 0 (.int 0)) (.cons (.ife (.and (.cmp .gt (.bi .len (.cons (.var 0) .nil)) (.int 0)) (.cmp .ge (.idx (.var 0) (.int 0)) (.bin .pow (.int 10) (.int 18)))) (.cons (.set 2 0 (.idx (.var 0) (.int 0))) .nil) .nil) (.cons (.set 3 1 (.lst 0 .nil)) (.cons (.for_ (.nm 4) (.rg (.cons (.var 1) .nil)) (.cons (.ife (.cmp .gt (.var 2) (.int 0)) (.cons (.app 3 0 (.bin .mod (.bi .int (.cons (.var 2) .nil)) (.int 1000))) (.cons (.set 2 0 (.bin .fdiv (.var 2) (.int 1000))) .nil)) (.cons (.app 3 0 (.call 0 (.cons (.var 0) (.cons (.var 4) .nil)))) .nil)) .nil)) (.cons (.frz [3]) (.cons (.ret (.var 3)) .nil))))))
def F__law_row : List D → Option D := runD [F__law_mixed] 5 2 C__law_row
def C__law_is_int : CSs := (.cons (.ret (.and (.isi .int (.var 0)) (.not (.isi .bool (.var 0))))) .nil)
def F__law_is_int : List D → Option D := runD [] 1 1 C__law_is_int
def C__law_like : CSs := (.cons (.ife (.isN (.var 1)) (.cons (.ret (.isN (.var 0))) .nil) .nil) (.cons (.ife (.isi .bool (.var 1)) (.cons (.ret (.and (.isi .bool (.var 0)) (.cmp .eq (.var 0) (.var 1)))) .nil) .nil) (.cons (.ife (.isi .tuple (.var 1)) (.cons (.ife (.or (.not (.isi .tuple (.var 0))) (.cmp .ne (.bi .len (.cons (.var 0) .nil)) (.bi .len (.cons (.var 1) .nil)))) (.cons (.ret (.bl false)) .nil) .nil) (.cons (.ret (.bi .all (.cons (.lc 0 (.call 0 (.cons (.idx (.var 0) (.var 2)) (.cons (.idx (.var 1) (.var 2)) .nil))) [("k", 2)] (.nm 2) (.rg (.cons (.bi .len (.cons (.var 1) .nil)) .nil)) .no) .nil))) .nil)) .nil) (.cons (.ife (.isi .str (.var 1)) (.cons (.ret (.and (.isi .str (.var 0)) (.cmp .eq (.var 0) (.var 1)))) .nil) .nil) (.cons (.ret (.and (.call 1 (.cons (.var 0) .nil)) (.cmp .eq (.var 0) (.var 1)))) .nil)))))
def F__law_like : List D → Option D := recD [F__law_is_int] 3 2 C__law_like 8
theorem beq_int (i : Int) : D.beq (.int i) (.int i) = true := by unfold D.beq; exact beq_self_eq_true i
theorem is_int (i : Int) : F__law_is_int [.int i] = some (.bl true) := rfl
theorem eqD_int (i j : Int) : eqD (.int i) (.int j) = some (i == j) := by simp [eqD, D.pl, D.beq]
theorem rg1 (n : Nat) (h : n ≤ SL) : rgD [.int n] = some ((List.range n).map fun (k : Nat) => D.int k) := by
  have hs : SL = 16777216 := rfl
  rw [rgD]
  rw [if_pos (by constructor <;> omega)]
  rw [Int.toNat_natCast]
theorem like_int (d : Nat) (i : Int) : recD [F__law_is_int] 3 2 C__law_like (d + 1) [.int i, .int i] = some (.bl true) := by
  show (match ((eqD (.int i) (.int i)).map D.bl).map Out.rt with
    | some (.nx _) => some .non
    | some (.rt d) => some d
    | _ => none) = some (.bl true)
  rw [eqD_int, beq_self_eq_true]
  rfl
theorem like_bl (d : Nat) (b : Bool) : recD [F__law_is_int] 3 2 C__law_like (d + 1) [.bl b, .bl b] = some (.bl true) := by
  cases b <;> rfl
theorem like_non (d : Nat) : recD [F__law_is_int] 3 2 C__law_like (d + 1) [.non, .non] = some (.bl true) := rfl
theorem collect_all {f : D → Option (Option D)} {ys : List D} : ∀ {xs : List D}, (∀ x ∈ xs, ∃ y, f x = some (some y)) → ∃ r, collect f xs = some r ∧ r.length = xs.length
  | [], _ => ⟨[], rfl, rfl⟩
  | x :: xs, h => by
    obtain ⟨y, hy⟩ := h x (.head _)
    obtain ⟨r, hr, hl⟩ := collect_all (ys := ys) (fun x hx => h x (.tail _ hx))
    exact ⟨y :: r, by simp only [collect, hy, Option.bind_some, hr, Option.map_some]; rfl, by simp [hl]⟩
/-- a comprehension over range(n) -/
theorem collect_range {f : D → Option (Option D)} {g : Nat → D} {n : Nat} (h : ∀ i, i < n → f (.int (i : Nat)) = some (some (g i))) : collect f ((List.range n).map fun (k : Nat) => D.int k) = some ((List.range n).map g) := by
  have go : ∀ xs : List Nat, (∀ i ∈ xs, i < n) → collect f (xs.map fun (k : Nat) => D.int k) = some (xs.map g) := by
    intro xs
    induction xs with
    | nil => intro _; rfl
    | cons x xs ih =>
      intro hx
      simp only [List.map_cons, collect, h x (hx x (.head _)), Option.bind_some, ih (fun i hi => hx i (.tail _ hi)), Option.map_some]
      rfl
  exact go _ fun i hi => List.mem_range.mp hi
theorem trusD_true (n : Nat) : trusD ((List.range n).map fun _ => D.bl true) = some (List.replicate n true) := by
  have go : ∀ xs : List Nat, trusD (xs.map fun _ => D.bl true) = some (List.replicate xs.length true) := by
    intro xs
    induction xs with
    | nil => rfl
    | cons x xs ih => simp only [List.map_cons, trusD, truS, ih, Option.bind_some, Option.map_some]; rfl
  rw [go]
  simp
theorem atI_natD {xs : List D} {i : Nat} {x : D} (h : xs[i]? = some x) : atI xs (i : Nat) = some x := by
  have hi : i < xs.length := (List.getElem?_eq_some_iff.mp h).1
  unfold atI ixN
  rw [if_pos (by omega), if_pos (by omega)]
  simpa using h

section
variable {Φ : Fns} {n np : Nat} {body : CSs} {ds ρ ρ' : List D} {d : D} {s : CS} {ss : CSs} {r : Option Out}
theorem run_rt (hl : ds.length = np) (h : evSs Φ body (ds ++ List.replicate (n - np) .bad) = some (.rt d)) : runD Φ n np body ds = some d := by
  unfold runD
  rw [if_pos hl, h]
theorem st_nx (h : evS Φ s ρ = some (.nx ρ')) (h2 : evSs Φ ss ρ' = r) : evSs Φ (.cons s ss) ρ = r := by
  rw [← h2, evSs, h]
  rfl
theorem st_rt (h : evS Φ s ρ = some (.rt d)) : evSs Φ (.cons s ss) ρ = some (.rt d) := by
  rw [evSs, h]
  rfl
theorem ife_t {c : CE} {a b : CSs} (h : evT Φ c ρ = some true) (h2 : evSs Φ a ρ = r) : evS Φ (.ife c a b) ρ = r := by
  rw [evS, h]
  exact h2
theorem ife_f {c : CE} {a b : CSs} (h : evT Φ c ρ = some false) (h2 : evSs Φ b ρ = r) : evS Φ (.ife c a b) ρ = r := by
  rw [evS, h]
  exact h2
theorem s_ret' {e : CE} (h : evE Φ e ρ = some d) : evS Φ (.ret e) ρ = some (.rt d) := by
  rw [evS, h]
  rfl
theorem s_set' {i k : Nat} {e : CE} (h : evE Φ e ρ = some d) : evS Φ (.set i k e) ρ = some (.nx (ρ.set i d)) := by
  rw [evS, h]
  rfl
theorem s_for' {tg : Tgt} {it : CI} {b : CSs} {xs : List D} (h : evI Φ it ρ = some xs) (h2 : forD (fun x ρ => (asgD tg x ρ).bind fun ρ' => evSs Φ b ρ') xs ρ = r) : evS Φ (.for_ tg it b) ρ = r := by
  rw [evS, h]
  exact h2
theorem e_bi1 {f : BI} {e : CE} {x : D} (h : evE Φ e ρ = some x) (h2 : biD f [x] = some d) : evE Φ (.bi f (.cons e .nil)) ρ = some d := by
  rw [evE, evEs, h, evEs]
  exact h2
theorem e_lc {k : Nat} {elt : CE} {own : List (Str × Nat)} {tg : Tgt} {it : CI} {c : CO} {xs ys : List D} (h : evI Φ it ρ = some xs)
    (h2 : collect (fun x => (asgD tg x (wipeD ρ (own.map (·.2)))).bind fun ρ' => (evC Φ c ρ').bind fun t => if t then (evE Φ elt ρ').map some else some none) xs = some ys) (h3 : ys.length ≤ SL) : evE Φ (.lc k elt own tg it c) ρ = some (.lst ys) := by
  rw [evE, h, Option.bind_some, h2, Option.bind_some, if_pos h3]
theorem i_rg {e : CE} {m : Nat} (h : evE Φ e ρ = some (.int (m : Nat))) (hm : m ≤ SL) : evI Φ (.rg (.cons e .nil)) ρ = some ((List.range m).map fun (k : Nat) => D.int k) := by
  rw [evI, evEs, h, evEs, Option.bind_some, Option.map_some, Option.bind_some]
  exact rg1 m hm
theorem e_call {j : Nat} {es : CEs} {ds : List D} {f : List D → Option D} (h : evEs Φ es ρ = some ds) (hf : Φ[j]? = some f) (h2 : f ds = some d) : evE Φ (.call j es) ρ = some d := by
  rw [evE, h, Option.bind_some, hf]
  exact h2
theorem es_nil : evEs Φ .nil ρ = some [] := by rw [evEs]
theorem es_cons {e : CE} {es : CEs} {x : D} {xs : List D} (h : evE Φ e ρ = some x) (h2 : evEs Φ es ρ = some xs) : evEs Φ (.cons e es) ρ = some (x :: xs) := by
  rw [evEs, h, h2]
  rfl
theorem e_idx {a i : CE} {x y : D} (h : evE Φ a ρ = some x) (h2 : evE Φ i ρ = some y) (h3 : idxD x y = some d) : evE Φ (.idx a i) ρ = some d := by
  rw [evE, h, Option.bind_some, h2]
  exact h3
theorem e_tup {es : CEs} {xs : List D} (h : evEs Φ es ρ = some xs) : evE Φ (.tup es) ρ = some (.tup xs) := by
  rw [evE, h]
  rfl
theorem e_bin {op : Bop} {a b : CE} {x y : D} (h : evE Φ a ρ = some x) (h2 : evE Φ b ρ = some y) (h3 : binD op x y = some d) : evE Φ (.bin op a b) ρ = some d := by
  rw [evE, h, Option.bind_some, h2]
  exact h3
end
theorem like_tup (d : Nat) (xs : List D) (hl : xs.length ≤ SL) (h : ∀ x ∈ xs, recD [F__law_is_int] 3 2 C__law_like d [x, x] = some (.bl true)) : recD [F__law_is_int] 3 2 C__law_like (d + 1) [.tup xs, .tup xs] = some (.bl true) := by
  rw [recD]
  generalize recD [F__law_is_int] 3 2 C__law_like d = R at h
  refine run_rt rfl ?_
  refine st_nx (ρ' := [.tup xs, .tup xs, .bad]) rfl ?_
  refine st_nx (ρ' := [.tup xs, .tup xs, .bad]) rfl ?_
  refine st_rt (ife_t rfl ?_)
  refine st_nx (ρ' := [.tup xs, .tup xs, .bad]) (ife_f ?_ rfl) ?_
  · show (eqD (.int xs.length) (.int xs.length)).map not = some false
    rw [eqD_int, beq_self_eq_true]
    rfl
  · refine st_rt (s_ret' (e_bi1 (e_lc (i_rg (m := xs.length) rfl hl) (collect_range (g := fun _ => .bl true) fun i hi => ?_) (by simpa using hl)) ?_))
    · have hx : idxD (.tup xs) (.int (i : Nat)) = some xs[i] := atI_natD (List.getElem?_eq_getElem hi)
      have e : evE [R, F__law_is_int] (.call 0 (.cons (.idx (.var 0) (.var 2)) (.cons (.idx (.var 1) (.var 2)) .nil))) [.tup xs, .tup xs, .int (i : Nat)] = some (.bl true) :=
        e_call (es_cons (e_idx rfl rfl hx) (es_cons (e_idx rfl rfl hx) es_nil)) rfl (h _ (List.getElem_mem hi))
      show (evE [R, F__law_is_int] _ [.tup xs, .tup xs, .int (i : Nat)]).map some = some (some (.bl true))
      rw [e]
      rfl
    · show ((trusD ((List.range xs.length).map fun _ => D.bl true)).map fun bs => D.bl (bs.all id)) = some (.bl true)
      rw [trusD_true]
      simp

/-- data that are like themselves -/
def okL : Nat → D → Prop
  | _, .int _ => True
  | _, .bl _ => True
  | _, .non => True
  | d + 1, .tup xs => xs.length ≤ SL ∧ ∀ x ∈ xs, okL d x
  | _, _ => False
theorem like_ok : ∀ (d : Nat) (x : D), okL d x → recD [F__law_is_int] 3 2 C__law_like (d + 1) [x, x] = some (.bl true)
  | d, .int i, _ => like_int d i
  | d, .bl b, _ => like_bl d b
  | d, .non, _ => like_non d
  | 0, .tup xs, h => by unfold okL at h; exact h.elim
  | d + 1, .tup xs, h => by
    unfold okL at h
    exact like_tup (d + 1) xs h.1 fun x hx => like_ok d x (h.2 x hx)
  | _, .bad, h => by unfold okL at h; exact h.elim
  | _, .str _, h => by unfold okL at h; exact h.elim
  | _, .scr _, h => by unfold okL at h; exact h.elim
  | _, .lst _, h => by unfold okL at h; exact h.elim
  | _, .dic _ _, h => by unfold okL at h; exact h.elim
theorem like8 {x : D} (h : okL 7 x) : F__law_like [x, x] = some (.bl true) := like_ok 7 x h

/-! ### the row -/
theorem mul_ok {i j : Int} (h : i.natAbs < 2 ^ 64 ∨ j.natAbs < 2 ^ 64) : binD .mul (.int i) (.int j) = some (.int (i * j)) := by
  show (if mulOk i j then some (D.int (i * j)) else none) = _
  rw [if_pos]
  unfold mulOk
  rcases h with h | h <;> simp [h]
theorem mod_ok {i j : Int} (h : j ≠ 0) : binD .mod (.int i) (.int j) = some (.int (i.fmod j)) := by
  show (if j ≠ 0 then some (D.int (i.fmod j)) else none) = _
  rw [if_pos h]
theorem div_ok {i j : Int} (h : j ≠ 0) (h2 : j.natAbs.log2 < 9000) : binD .fdiv (.int i) (.int j) = some (.int (i.fdiv j)) := by
  show (if divOk j then some (D.int (i.fdiv j)) else none) = _
  rw [if_pos]
  unfold divOk
  simp [h, h2]
theorem add_ok {i j : Int} : binD .add (.int i) (.int j) = some (.int (i + j)) := rfl
theorem fmod_lt {i : Int} {m : Int} (h : 0 < m) : 0 ≤ i.fmod m ∧ i.fmod m < m := by
  rw [Int.fmod_eq_emod_of_nonneg i (by omega)]
  exact ⟨Int.emod_nonneg i (by omega), Int.emod_lt_of_pos i h⟩
theorem mixed_tail (scr : D) (k cell : Int) (hk : k.natAbs < 2 ^ 64) : ∃ v : Int, evSs [] (match C__law_mixed with | .cons _ (.cons _ t) => t | _ => .nil) [scr, .int k, .int cell, .bad, .bad, .bad] = some (.rt (.int v)) ∧ 0 ≤ v ∧ v < 1000003 := by
  have a1 := fmod_lt (i := cell * 48271 + k * 69621 + 8191) (m := 2147483647) (by decide)
  generalize hA : (cell * 48271 + k * 69621 + 8191).fmod 2147483647 = A at a1
  have a2 := fmod_lt (i := A * A + A.fdiv 7 + k * 16807) (m := 2147483629) (by decide)
  generalize hB : (A * A + A.fdiv 7 + k * 16807).fmod 2147483629 = B at a2
  have a3 := fmod_lt (i := B * B + B.fdiv 11 + 40692) (m := 2147483563) (by decide)
  generalize hC : (B * B + B.fdiv 11 + 40692).fmod 2147483563 = C at a3
  refine ⟨(C.fdiv 5).fmod 1000003, ?_, fmod_lt (by decide)⟩
  refine st_nx (s_set' (e_bin (e_bi1 (e_bin (e_bin (e_bin rfl rfl (mul_ok (.inr (by decide)))) (e_bin rfl rfl (mul_ok (.inr (by decide)))) add_ok) rfl add_ok) rfl) rfl (mod_ok (by decide)))) ?_
  rw [hA]
  refine st_nx (s_set' (e_bin (e_bi1 (e_bin (e_bin (e_bin rfl rfl (mul_ok (.inl (by omega)))) (e_bin rfl rfl (div_ok (by decide) (by decide))) add_ok) (e_bin rfl rfl (mul_ok (.inr (by decide)))) add_ok) rfl) rfl (mod_ok (by decide)))) ?_
  rw [hB]
  refine st_nx (s_set' (e_bin (e_bi1 (e_bin (e_bin (e_bin rfl rfl (mul_ok (.inl (by omega)))) (e_bin rfl rfl (div_ok (by decide) (by decide))) add_ok) rfl add_ok) rfl) rfl (mod_ok (by decide)))) ?_
  rw [hC]
  exact st_rt (s_ret' (e_bin (e_bin rfl rfl (div_ok (by decide) (by decide))) rfl (mod_ok (by decide))))
theorem mixed_ok (ns : List Int) (hl : ns.length < 2 ^ 60) (k : Nat) (hk : k < 2 ^ 60) : ∃ v : Int, F__law_mixed [.scr (ns.map D.int), .int (k : Nat)] = some (.int v) ∧ 0 ≤ v ∧ v < 1000003 := by
  cases ns with
  | nil =>
    obtain ⟨v, hv, h⟩ := mixed_tail (.scr []) k 0 (by omega)
    exact ⟨v, run_rt rfl (st_nx rfl (st_nx (ife_f rfl rfl) hv)), h⟩
  | cons z zs =>
    have hm := fmod_lt (i := (k : Int)) (m := ((zs.length + 1 : Nat) : Int)) (by omega)
    have hj : ∃ c : Int, atI (((z :: zs).map D.int)) ((k : Int).fmod ((zs.length + 1 : Nat) : Int)) = some (.int c) := by
      obtain ⟨j, hj⟩ := Int.eq_ofNat_of_zero_le hm.1
      rw [hj] at hm ⊢
      have hjl : j < (z :: zs).length := by simp only [List.length_cons]; omega
      exact ⟨(z :: zs)[j], atI_natD (by rw [List.getElem?_map, List.getElem?_eq_getElem hjl]; rfl)⟩
    obtain ⟨c, hc⟩ := hj
    obtain ⟨v, hv, h⟩ := mixed_tail (.scr ((z :: zs).map D.int)) k c (by omega)
    have e1 : evE [] (.idx (.var 0) (.bin .mod (.var 1) (.bi .len (.cons (.var 0) .nil)))) [.scr ((z :: zs).map D.int), .int (k : Nat), .int 0, .bad, .bad, .bad] = some (.int c) := by
      refine e_idx rfl (e_bin (y := .int ((zs.length + 1 : Nat) : Int)) rfl (e_bi1 rfl ?_) (mod_ok (by omega))) hc
      show some (D.int _) = _
      simp
    have e2 : evT [] (.cmp .gt (.bi .len (.cons (.var 0) .nil)) (.int 0)) [.scr ((z :: zs).map D.int), .int (k : Nat), .int 0, .bad, .bad, .bad] = some true := by
      show some (decide ((0 : Int) < ((((z :: zs).map D.int).length : Nat) : Int))) = some true
      simp only [List.map_cons, List.length_cons]
      congr 1
      rw [decide_eq_true_eq]
      omega
    exact ⟨v, run_rt rfl (st_nx rfl (st_nx (ρ' := [.scr ((z :: zs).map D.int), .int (k : Nat), .int c, .bad, .bad, .bad]) (ife_t e2 (st_nx (s_set' e1) rfl)) hv)), h⟩
/-- a loop, by a relation of its states -/
theorem forD_rel {σ α : Type} {f : D → List D → Option Out} (R : σ → List D → Prop) (step : σ → α → σ) (enc : α → D) : ∀ (xs : List α) (s : σ) (ρ : List D), (∀ s x ρ, x ∈ xs → R s ρ → ∃ ρ', f (enc x) ρ = some (.nx ρ') ∧ R (step s x) ρ') → R s ρ →
    ∃ ρ', forD f (xs.map enc) ρ = some (.nx ρ') ∧ R (xs.foldl step s) ρ'
  | [], s, ρ, _, h => ⟨ρ, rfl, h⟩
  | x :: xs, s, ρ, hs, h => by
    obtain ⟨ρ1, e1, h1⟩ := hs s x ρ (.head _) h
    obtain ⟨ρ2, e2, h2⟩ := forD_rel R step enc xs (step s x) ρ1 (fun s y ρ hy => hs s y ρ (.tail _ hy)) h1
    refine ⟨ρ2, ?_, h2⟩
    rw [List.map_cons, forD, e1]
    exact e2
/-- a loop, by the turn's number -/
theorem forD_idx {f : D → List D → Option Out} (R : Nat → List D → Prop) : ∀ (xs : List D) (k : Nat) (ρ : List D), (∀ i d ρ, xs[i]? = some d → R (k + i) ρ → ∃ ρ', f d ρ = some (.nx ρ') ∧ R (k + i + 1) ρ') → R k ρ →
    ∃ ρ', forD f xs ρ = some (.nx ρ') ∧ R (k + xs.length) ρ'
  | [], k, ρ, _, h => ⟨ρ, rfl, h⟩
  | x :: xs, k, ρ, hs, h => by
    obtain ⟨ρ1, e1, h1⟩ := hs 0 x ρ rfl h
    obtain ⟨ρ2, e2, h2⟩ := forD_idx R xs (k + 1) ρ1 (fun i d ρ hi hr => by
      have := hs (i + 1) d ρ hi (by rw [show k + (i + 1) = k + 1 + i by omega]; exact hr)
      rw [show k + (i + 1) = k + 1 + i by omega] at this
      exact this) h1
    refine ⟨ρ2, ?_, ?_⟩
    · rw [forD, e1]
      exact e2
    · rw [List.length_cons, show k + (xs.length + 1) = k + 1 + xs.length by omega]
      exact h2
theorem forD_range {f : D → List D → Option Out} (R : Nat → List D → Prop) {n : Nat} {ρ : List D} (h : ∀ i ρ, i < n → R i ρ → ∃ ρ', f (.int (i : Nat)) ρ = some (.nx ρ') ∧ R (i + 1) ρ') (h0 : R 0 ρ) :
    ∃ ρ', forD f ((List.range n).map fun (k : Nat) => D.int k) ρ = some (.nx ρ') ∧ R n ρ' := by
  have := forD_idx (f := f) R ((List.range n).map fun (k : Nat) => D.int k) 0 ρ (fun i d ρ hi hr => by
    rw [List.getElem?_map] at hi
    have hn : i < n := by
      rcases Nat.lt_or_ge i n with h | h
      · exact h
      · rw [List.getElem?_eq_none (by simpa using h)] at hi
        cases hi
    rw [List.getElem?_range hn] at hi
    cases hi
    rw [Nat.zero_add] at hr ⊢
    exact h i ρ hn hr) h0
  rw [Nat.zero_add, List.length_map, List.length_range] at this
  exact this
def inRow (v : Int) : Prop := 0 ≤ v ∧ v < 1000003
theorem app_ok {Φ : Fns} {ρ : List D} {i k : Nat} {e : CE} {xs : List D} {y : D} (h : getV ρ i = some (.lst xs)) (h2 : evE Φ e ρ = some y) (hl : xs.length < SL) : evS Φ (.app i k e) ρ = some (.nx (ρ.set i (.lst (xs ++ [y])))) := by
  rw [evS, h, Option.bind_some, h2, Option.bind_some]
  show ((if xs.length < SL then some (D.lst (xs ++ [y])) else none).map fun z => Out.nx (ρ.set i z)) = _
  rw [if_pos hl]
  rfl
theorem foldl_range (many : Nat) : (List.range many).foldl (fun i _ => i + 1) 0 = many := by
  have go : ∀ (xs : List Nat) (a : Nat), xs.foldl (fun i _ => i + 1) a = a + xs.length := by
    intro xs
    induction xs with
    | nil => intro a; rfl
    | cons x xs ih => intro a; rw [List.foldl_cons, ih, List.length_cons]; omega
  rw [go, List.length_range]
  omega
theorem row_turn (ns : List Int) (hl : ns.length < 2 ^ 60) (many : Nat) (hm : many ≤ 1000) (i k : Nat) (hk : k < many) (b : Int) (r : List Int) (x4 : D) (hi : r.length = i) (him : i ≤ 1000) (hr : ∀ v ∈ r, inRow v) :
    ∃ ρ', (asgD (.nm 4) (.int (k : Nat)) [.scr (ns.map D.int), .int (many : Nat), .int b, .lst (r.map D.int), x4]).bind (fun ρ' => evSs [F__law_mixed] (match C__law_row with | .cons _ (.cons _ (.cons _ (.cons (.for_ _ _ t) _))) => t | _ => .nil) ρ') = some (.nx ρ') ∧
      ∃ (b : Int) (r : List Int) (x4 : D), ρ' = [.scr (ns.map D.int), .int (many : Nat), .int b, .lst (r.map D.int), x4] ∧ r.length = i + 1 ∧ ∀ v ∈ r, inRow v := by
  have hs : SL = 16777216 := rfl
  have hlen : (r.map D.int).length < SL := by rw [List.length_map]; omega
  by_cases hb : 0 < b
  · have hv := fmod_lt (i := b) (m := 1000) (by decide)
    refine ⟨_, st_nx (ife_t (by show some (decide ((0 : Int) < b)) = some true; rw [decide_eq_true hb]) (st_nx (app_ok (xs := r.map D.int) rfl (e_bin (e_bi1 rfl rfl) rfl (mod_ok (by decide))) hlen) (st_nx (s_set' (e_bin rfl rfl (div_ok (by decide) (by decide)))) rfl))) rfl, b.fdiv 1000, r ++ [b.fmod 1000], .int k, ?_, ?_, ?_⟩
    · rw [List.map_append]; rfl
    · rw [List.length_append, hi]; rfl
    · intro v hv'
      rcases List.mem_append.mp hv' with h | h
      · exact hr v h
      · have : v = b.fmod 1000 := by simpa using h
        rw [this]
        exact ⟨hv.1, by omega⟩
  · obtain ⟨v, hv, h0, h1⟩ := mixed_ok ns hl k (by omega)
    refine ⟨_, st_nx (ife_f (by show some (decide ((0 : Int) < b)) = some false; rw [decide_eq_false hb]) (st_nx (app_ok (xs := r.map D.int) rfl (e_call (es_cons rfl (es_cons rfl es_nil)) rfl hv) hlen) rfl)) rfl, b, r ++ [v], .int k, ?_, ?_, ?_⟩
    · rw [List.map_append]; rfl
    · rw [List.length_append, hi]; rfl
    · intro v' hv'
      rcases List.mem_append.mp hv' with h | h
      · exact hr v' h
      · have : v' = v := by simpa using h
        rw [this]
        exact ⟨h0, h1⟩
theorem pow18 {Φ : Fns} {ρ : List D} : evE Φ (.bin .pow (.int 10) (.int 18)) ρ = some (.int 1000000000000000000) := rfl
theorem row_loop (ns : List Int) (hl : ns.length < 2 ^ 60) (many : Nat) (hm : many ≤ 1000) (b0 : Int) : ∃ r : List Int, r.length = many ∧ (∀ v ∈ r, inRow v) ∧
    evSs [F__law_mixed] (match C__law_row with | .cons _ (.cons _ t) => t | _ => .nil) [.scr (ns.map D.int), .int (many : Nat), .int b0, .bad, .bad] = some (.rt (.lst (r.map D.int))) := by
  have hs : SL = 16777216 := rfl
  obtain ⟨ρ', e, b, r, x4, rfl, h1, h2⟩ := forD_range (f := fun x ρ => (asgD (.nm 4) x ρ).bind fun ρ' => evSs [F__law_mixed] (match C__law_row with | .cons _ (.cons _ (.cons _ (.cons (.for_ _ _ t) _))) => t | _ => .nil) ρ')
    (fun (i : Nat) ρ => ∃ (b : Int) (r : List Int) (x4 : D), ρ = [.scr (ns.map D.int), .int (many : Nat), .int b, .lst (r.map D.int), x4] ∧ r.length = i ∧ ∀ v ∈ r, inRow v) (n := many) (ρ := [.scr (ns.map D.int), .int (many : Nat), .int b0, .lst [], .bad]) (by
      rintro i ρ hk ⟨b, r, x4, rfl, hi, hr⟩
      exact row_turn ns hl many hm i i hk b r x4 hi (by omega) hr) ⟨b0, [], .bad, rfl, rfl, fun _ h => nomatch h⟩
  refine ⟨r, h1, h2, ?_⟩
  refine st_nx (ρ' := [.scr (ns.map D.int), .int (many : Nat), .int b0, .lst [], .bad]) rfl ?_
  refine st_nx (s_for' (i_rg (m := many) rfl (by omega)) e) ?_
  exact st_nx rfl (st_rt rfl)
theorem row_ok (ns : List Int) (hl : ns.length < 2 ^ 60) (many : Nat) (hm : many ≤ 1000) : ∃ r : List Int, r.length = many ∧ (∀ v ∈ r, inRow v) ∧ F__law_row [.scr (ns.map D.int), .int (many : Nat)] = some (.lst (r.map D.int)) := by
  have go : ∃ b0 : Int, evS [F__law_mixed] (match C__law_row with | .cons _ (.cons s _) => s | _ => .pas) [.scr (ns.map D.int), .int (many : Nat), .int 0, .bad, .bad] = some (.nx [.scr (ns.map D.int), .int (many : Nat), .int b0, .bad, .bad]) := by
    cases ns with
    | nil => exact ⟨0, ife_f rfl rfl⟩
    | cons z zs =>
      have hi : idxD (.scr ((z :: zs).map D.int)) (.int 0) = some (.int z) := atI_natD (i := 0) rfl
      have h1 : evT [F__law_mixed] (.cmp .gt (.bi .len (.cons (.var 0) .nil)) (.int 0)) [.scr ((z :: zs).map D.int), .int (many : Nat), .int 0, .bad, .bad] = some true := by
        show some (decide ((0 : Int) < ((((z :: zs).map D.int).length : Nat) : Int))) = some true
        simp only [List.map_cons, List.length_cons]
        congr 1
        rw [decide_eq_true_eq]
        omega
      have h2 : evT [F__law_mixed] (.cmp .ge (.idx (.var 0) (.int 0)) (.bin .pow (.int 10) (.int 18))) [.scr ((z :: zs).map D.int), .int (many : Nat), .int 0, .bad, .bad] = some (decide ((1000000000000000000 : Int) ≤ z)) := by
        rw [evT, pow18, e_idx (x := .scr ((z :: zs).map D.int)) (y := .int 0) rfl rfl hi]
        rfl
      have h3 : evT [F__law_mixed] (.and (.cmp .gt (.bi .len (.cons (.var 0) .nil)) (.int 0)) (.cmp .ge (.idx (.var 0) (.int 0)) (.bin .pow (.int 10) (.int 18)))) [.scr ((z :: zs).map D.int), .int (many : Nat), .int 0, .bad, .bad] = some (decide ((1000000000000000000 : Int) ≤ z)) := by
        rw [evT, h1, h2]
        rfl
      by_cases hz : (1000000000000000000 : Int) ≤ z
      · rw [decide_eq_true hz] at h3
        exact ⟨z, ife_t h3 (st_nx (s_set' (e_idx rfl rfl hi)) rfl)⟩
      · rw [decide_eq_false hz] at h3
        exact ⟨0, ife_f h3 rfl⟩
  obtain ⟨b0, hb⟩ := go
  obtain ⟨r, h1, h2, h3⟩ := row_loop ns hl many hm b0
  exact ⟨r, h1, h2, run_rt rfl (st_nx rfl (st_nx hb h3))⟩

/-! ### comprehensions over given data -/
theorem collect_map {α : Type} {f : D → Option (Option D)} {enc : α → D} {g : α → D} : ∀ {xs : List α}, (∀ x ∈ xs, f (enc x) = some (some (g x))) → collect f (xs.map enc) = some (xs.map g)
  | [], _ => rfl
  | x :: xs, h => by
    simp only [List.map_cons, collect, h x (.head _), Option.bind_some, collect_map (fun y hy => h y (.tail _ hy)), Option.map_some]
    rfl
theorem collect_filter {α : Type} {f : D → Option (Option D)} {enc : α → D} {g : α → D} {p : α → Bool} : ∀ {xs : List α}, (∀ x ∈ xs, f (enc x) = some (if p x then some (g x) else none)) → collect f (xs.map enc) = some ((xs.filter p).map g)
  | [], _ => rfl
  | x :: xs, h => by
    have ih := collect_filter (p := p) (g := g) (fun y hy => h y (.tail _ hy))
    simp only [List.map_cons, collect, h x (.head _), Option.bind_some, ih, Option.map_some]
    cases hp : p x with
    | true => rw [List.filter_cons_of_pos hp]; rfl
    | false => rw [List.filter_cons_of_neg (by simp [hp])]; rfl
theorem collectL_flat {α : Type} {f : D → Option (List D)} {enc : α → D} {g : α → List D} : ∀ {xs : List α}, (∀ x ∈ xs, f (enc x) = some (g x)) → collectL f (xs.map enc) = some (xs.flatMap g)
  | [], _ => rfl
  | x :: xs, h => by
    simp only [List.map_cons, collectL, h x (.head _), Option.bind_some, collectL_flat (fun y hy => h y (.tail _ hy)), Option.map_some, List.flatMap_cons]
/-- lo, lo + 1, .., below hi -/
def span (lo hi : Int) : List Int := (List.range (hi - lo).toNat).map fun (k : Nat) => lo + k
theorem rg2 {lo hi : Int} (h1 : -(2 ^ 62) ≤ lo) (h2 : lo < 2 ^ 62) (h3 : -(2 ^ 62) ≤ hi) (h4 : hi < 2 ^ 62) : rgD [.int lo, .int hi] = some ((span lo hi).map D.int) := by
  rw [rgD, if_pos ⟨h1, h2, h3, h4⟩, span, List.map_map]
  rfl
theorem mem_span {lo hi x : Int} : x ∈ span lo hi ↔ lo ≤ x ∧ x < hi := by
  unfold span
  rw [List.mem_map]
  constructor
  · rintro ⟨k, hk, rfl⟩
    rw [List.mem_range] at hk
    omega
  · rintro ⟨h1, h2⟩
    exact ⟨(x - lo).toNat, by rw [List.mem_range]; omega, by omega⟩
theorem span_len (lo hi : Int) : (span lo hi).length = (hi - lo).toNat := by unfold span; simp
section
variable {Φ : Fns} {ρ ρ' : List D} {d : D}
theorem i_rg2 {a b : CE} {lo hi : Int} (ha : evE Φ a ρ = some (.int lo)) (hb : evE Φ b ρ = some (.int hi)) (h1 : -(2 ^ 62) ≤ lo) (h2 : lo < 2 ^ 62) (h3 : -(2 ^ 62) ≤ hi) (h4 : hi < 2 ^ 62) : evI Φ (.rg (.cons a (.cons b .nil))) ρ = some ((span lo hi).map D.int) := by
  rw [evI, evEs, ha, evEs, hb, evEs, Option.bind_some, Option.bind_some, Option.map_some, Option.map_some, Option.bind_some]
  exact rg2 h1 h2 h3 h4
theorem i_ex' {a : CE} {x : D} {xs : List D} (h : evE Φ a ρ = some x) (h2 : itemsD x = some xs) : evI Φ (.ex a) ρ = some xs := by
  rw [evI, h]
  exact h2
theorem e_not {a : CE} {b : Bool} (h : evE Φ a ρ = some (.bl b)) : evE Φ (.not a) ρ = some (.bl (!b)) := by
  rw [evE, h]
  rfl
theorem e_neg {a : CE} {i : Int} (h : evE Φ a ρ = some (.int i)) : evE Φ (.neg a) ρ = some (.int (-i)) := by
  rw [evE, h]
  rfl
theorem e_lc2 {k : Nat} {elt : CE} {own : List (Str × Nat)} {tg tg1 : Tgt} {it it1 : CI} {c c1 : CO} {xs ys : List D} (h : evI Φ it ρ = some xs)
    (h2 : collectL (fun x => (asgD tg x (wipeD ρ (own.map (·.2)))).bind fun ρ1 => (evC Φ c ρ1).bind fun t => if t then (evI Φ it1 ρ1).bind fun ys =>
        collect (fun y => (asgD tg1 y (wipeD ρ1 (tIx tg1))).bind fun ρ2 => (evC Φ c1 ρ2).bind fun t => if t then (evE Φ elt ρ2).map some else some none) ys else some []) xs = some ys) (h3 : ys.length ≤ SL) : evE Φ (.lc2 k elt own tg it c tg1 it1 c1) ρ = some (.lst ys) := by
  rw [evE, h, Option.bind_some, h2, Option.bind_some, if_pos h3]
theorem ext_ok {i k : Nat} {e : CE} {xs ys : List D} (h : getV ρ i = some (.lst xs)) (h2 : evE Φ e ρ = some (.lst ys)) (hl : xs.length + ys.length ≤ SL) : evS Φ (.ext i k e) ρ = some (.nx (ρ.set i (.lst (xs ++ ys)))) := by
  rw [evS, h, Option.bind_some, h2, Option.bind_some]
  show ((if xs.length + ys.length ≤ SL then some (D.lst (xs ++ ys)) else none).map fun z => Out.nx (ρ.set i z)) = _
  rw [if_pos hl]
  rfl
theorem trusD_int (xs : List Int) : trusD (xs.map D.int) = some (xs.map (· != 0)) := by
  induction xs with
  | nil => rfl
  | cons x xs ih =>
    show (some (x != 0)).bind (fun b => (trusD (xs.map D.int)).map (b :: ·)) = _
    rw [ih]
    rfl
theorem trusD_bl (xs : List Bool) : trusD (xs.map D.bl) = some xs := by
  induction xs with
  | nil => rfl
  | cons x xs ih =>
    show (some x).bind (fun b => (trusD (xs.map D.bl)).map (b :: ·)) = _
    rw [ih]
    rfl
theorem intsD_int (xs : List Int) : intsD (xs.map D.int) = some xs := by
  induction xs with
  | nil => rfl
  | cons x xs ih =>
    show (intsD (xs.map D.int)).map (x :: ·) = _
    rw [ih]
    rfl
end
end Pre
end Ev

/-! Typed data over plain data: encoders, plain operations. -/
namespace Nv
open PySem PySem.Spec PyProof.Rows L2 Ev Ev.Pre

section
variable {α β σ τ : Type}
/-! ### encoders -/
abbrev eI : Int → D := D.int
abbrev eB : Bool → D := D.bl
abbrev eS : Str → D := D.str
abbrev eN : Unit → D := fun _ => D.non
def eO (e : α → D) : Option α → D
  | none => .non
  | some x => e x
abbrev eT (e : α → D) (xs : List α) : D := .tup (xs.map e)
abbrev eL (e : α → D) (xs : List α) : D := .lst (xs.map e)
abbrev eC (e : α → D) (xs : List α) : D := .scr (xs.map e)
abbrev r0 : Unit → List D := fun _ => []
abbrev r1 (e : α → D) (x : α) : List D := [e x]
abbrev rc (e : α → D) (r : β → List D) (p : α × β) : List D := e p.1 :: r p.2
abbrev eP (r : α → List D) (x : α) : D := .tup (r x)

/-! ### plain operations -/
def lenO (xs : List α) : Option (List α) := if xs.length ≤ SL then some xs else none
def appO (xs : List α) (x : α) : Option (List α) := if xs.length < SL then some (xs ++ [x]) else none
def catO (xs ys : List α) : Option (List α) := if xs.length + ys.length ≤ SL then some (xs ++ ys) else none
def repO (xs : List α) (k : Int) : Option (List α) := repD xs k
def repTO [DecidableEq α] (xs : List α) (k : Int) : Option (List α) := if xs.length ≠ 0 ∧ 1 ≤ k ∧ k ≤ 1000 ∧ xs.length ≤ 1000 then some (List.replicate k.toNat xs).flatten else none
def mulO (a b : Int) : Option Int := if mulOk a b then some (a * b) else none
def divO (a b : Int) : Option Int := if divOk b then some (a.fdiv b) else none
def modO (a b : Int) : Option Int := if b ≠ 0 then some (a.fmod b) else none
def powO (a b : Int) : Option Int := if powOk a b then some (a ^ b.toNat) else none
def rangeO (lo hi : Int) : Option (List Int) := if -(2 ^ 62) ≤ lo ∧ lo < 2 ^ 62 ∧ -(2 ^ 62) ≤ hi ∧ hi < 2 ^ 62 then some (span lo hi) else none
def setI (xs : List α) (i : Int) (x : α) : Option (List α) := (ixN xs.length i).map fun j => xs.set j x
def absI (x : Int) : Int := if x < 0 then -x else x
def enumI : Int → List α → List (Int × α)
  | _, [] => []
  | k, x :: xs => (k, x) :: enumI (k + 1) xs
def minL : List Int → Option Int
  | [] => none
  | x :: xs => some (xs.foldl min x)
def maxL : List Int → Option Int
  | [] => none
  | x :: xs => some (xs.foldl max x)
def minN (lt : α → α → Bool) : List α → Option α
  | [] => none
  | x :: xs => some (xs.foldl (fun a y => if lt y a then y else a) x)
def maxN (lt : α → α → Bool) : List α → Option α
  | [] => none
  | x :: xs => some (xs.foldl (fun a y => if lt a y then y else a) x)
def sortN (lt : α → α → Bool) (xs : List α) : List α := xs.mergeSort fun a b => !lt b a
def mapO (g : α → Option β) : List α → Option (List β)
  | [] => some []
  | x :: xs => (g x).bind fun y => (mapO g xs).bind fun ys => some (y :: ys)
def filtO (p : α → Option Bool) (g : α → Option β) : List α → Option (List β)
  | [] => some []
  | x :: xs => (p x).bind fun t => if t then (g x).bind fun y => (filtO p g xs).bind fun ys => some (y :: ys) else filtO p g xs
def flatO (g : α → Option (List β)) : List α → Option (List β)
  | [] => some []
  | x :: xs => (g x).bind fun r => (flatO g xs).bind fun q => some (r ++ q)
def foldO (step : σ → α → Option σ) : List α → σ → Option σ
  | [], s => some s
  | x :: xs, s => (step s x).bind fun s' => foldO step xs s'
inductive St (σ τ : Type) where
  | nx (s : σ) | bk (s : σ) | rt (r : τ)
def loopO (step : σ → α → Option (St σ τ)) : List α → σ → Option (St σ τ)
  | [], s => some (.nx s)
  | x :: xs, s => (step s x).bind fun o => match o with
    | .nx s' => loopO step xs s'
    | .bk s' => some (.nx s')
    | .rt r => some (.rt r)
def whO (c : σ → Option Bool) (b : σ → Option (St σ τ)) (s : σ) : Option (St σ τ) :=
  match c s with
  | none => none
  | some false => some (.nx s)
  | some true => match b s with
    | none => none
    | some (.nx s') => whO c b s'
    | some (.bk s') => some (.nx s')
    | some (.rt r) => some (.rt r)
partial_fixpoint
def thenO {β : Type} (o : St σ τ) (k : σ → Option β) (r : τ → Option β) : Option β := match o with
  | .nx s => k s
  | .rt x => r x
  | .bk _ => none
/-- likeness: what it must say -/
def likeO (ok : Bool) : Option Bool := if ok then some true else none

theorem bnd {m : Option α} {k : α → Option β} {r : β} (h : m.bind k = some r) : ∃ x, m = some x ∧ k x = some r := by
  cases m with
  | none => cases h
  | some x => exact ⟨x, rfl, h⟩
theorem itc {t : Bool} {a b : Option α} {r : α} (h : (if t then a else b) = some r) : (t = true ∧ a = some r) ∨ (t = false ∧ b = some r) := by
  cases t with
  | true => exact .inl ⟨rfl, h⟩
  | false => exact .inr ⟨rfl, h⟩
theorem nbO {e : α → D} (he : ∀ y, D.isBad (e y) = false) (x : Option α) : D.isBad (eO e x) = false := by
  cases x with
  | none => rfl
  | some x => exact he x
theorem ok_nb {d : D} (h : D.isBad d = false) : D.ok d = some d := by
  cases d <;> first | rfl | cases h
theorem nonO {e : α → D} (he : ∀ y, D.isNon (e y) = false) (x : Option α) : D.isNon (eO e x) = x.isNone := by
  cases x with
  | none => rfl
  | some x => exact he x
theorem unO {e : α → D} {x : Option α} {y : α} (h : x = some y) : eO e x = e y := by rw [h]; rfl
end

/-! ### the order and likeness of typed data -/
/-- data with a plain equality -/
structure EqOk {α : Type} [DecidableEq α] (d : Nat) (e : α → D) : Prop where
  pl : ∀ a, D.pl d (e a) = true
  eq : ∀ a b, D.beq (e a) (e b) = decide (a = b)
structure EqRow {α : Type} [DecidableEq α] (d : Nat) (r : α → List D) : Prop where
  pl : ∀ a, D.pls d (r a) = true
  eq : ∀ a b, D.beqs (r a) (r b) = decide (a = b)
section
variable {α β : Type} [DecidableEq α] [DecidableEq β] {d : Nat}
theorem eq_I : EqOk d eI := by
  refine ⟨fun a => ?_, fun a b => ?_⟩
  · cases d <;> rfl
  · show D.beq (.int a) (.int b) = _
    unfold D.beq
    by_cases h : a = b <;> simp [h]
theorem eq_P {r : α → List D} (h : EqRow d r) : EqOk (d + 1) (eP r) := ⟨fun a => by show D.pls d (r a) = true; exact h.pl a, fun a b => by show D.beqs (r a) (r b) = _; exact h.eq a b⟩
theorem eq_r1 {e : α → D} (h : EqOk d e) : EqRow d (r1 e) := ⟨fun a => by show (D.pl d (e a) && D.pls d []) = true; rw [h.pl]; cases d <;> rfl, fun a b => by show (D.beq (e a) (e b) && D.beqs [] []) = _; rw [h.eq]; show (decide (a = b) && true) = _; rw [Bool.and_true]⟩
theorem eq_rc {e : α → D} {r : β → List D} (h : EqOk d e) (h2 : EqRow d r) : EqRow d (rc e r) := ⟨fun p => by show (D.pl d (e p.1) && D.pls d (r p.2)) = true; rw [h.pl, h2.pl]; rfl, fun p q => by
  show (D.beq (e p.1) (e q.1) && D.beqs (r p.2) (r q.2)) = _
  rw [h.eq, h2.eq]
  obtain ⟨a, b⟩ := p
  obtain ⟨a', b'⟩ := q
  by_cases h1 : a = a' <;> by_cases h2 : b = b' <;> simp [h1, h2]⟩
theorem eqs_map {e : α → D} (h : EqOk d e) : ∀ xs ys : List α, D.beqs (xs.map e) (ys.map e) = decide (xs = ys)
  | [], [] => by simp [D.beqs]
  | [], y :: ys => by simp [D.beqs]
  | x :: xs, [] => by simp [D.beqs]
  | x :: xs, y :: ys => by
    show (D.beq (e x) (e y) && D.beqs (xs.map e) (ys.map e)) = _
    rw [h.eq, eqs_map h xs ys]
    by_cases h1 : x = y <;> by_cases h2 : xs = ys <;> simp [h1, h2]
theorem pls_map {e : α → D} (h : ∀ a, D.pl d (e a) = true) : ∀ xs : List α, D.pls d (xs.map e) = true
  | [] => by cases d <;> rfl
  | x :: xs => by
    show (D.pl d (e x) && D.pls d (xs.map e)) = true
    rw [h, pls_map h xs]
    rfl
theorem eq_T {e : α → D} (h : EqOk d e) : EqOk (d + 1) (eT e) := ⟨fun a => by show D.pls d (a.map e) = true; exact pls_map h.pl a, fun a b => by show D.beqs (a.map e) (b.map e) = _; exact eqs_map h a b⟩
theorem eq_L {e : α → D} (h : EqOk d e) : EqOk (d + 1) (eL e) := ⟨fun a => by show D.pls d (a.map e) = true; exact pls_map h.pl a, fun a b => by show D.beqs (a.map e) (b.map e) = _; exact eqs_map h a b⟩
theorem eq_r0 : EqRow d r0 := ⟨fun a => by cases d <;> rfl, fun a b => by cases a; cases b; rfl⟩
theorem eq_O {e : α → D} (h : EqOk d e) (hn : ∀ a, D.beq (e a) .non = false ∧ D.beq .non (e a) = false) : EqOk d (eO e) := by
  refine ⟨fun a => ?_, fun a b => ?_⟩
  · cases a with
    | none => cases d <;> rfl
    | some a => exact h.pl a
  · cases a with
    | none =>
      cases b with
      | none => rfl
      | some b => show D.beq .non (e b) = _; rw [(hn b).2]; simp
    | some a =>
      cases b with
      | none => show D.beq (e a) .non = _; rw [(hn a).1]; simp
      | some b => show D.beq (e a) (e b) = _; rw [h.eq]; by_cases h1 : a = b <;> simp [h1]
theorem eqD_of {x y : D} (h1 : D.pl 40 x = true) (h2 : D.pl 40 y = true) : eqD x y = some (D.beq x y) := by
  unfold eqD
  split
  · rename_i a b
    cases h1
  · rw [h1, h2]
    rfl
theorem eq_ok {e : α → D} (h : EqOk 40 e) (a b : α) : cmpD .eq (e a) (e b) = some (decide (a = b)) := by
  show eqD (e a) (e b) = _
  rw [eqD_of (h.pl a) (h.pl b), h.eq]
theorem ne_ok {e : α → D} (h : EqOk 40 e) (a b : α) : cmpD .ne (e a) (e b) = some (!decide (a = b)) := by
  show (eqD (e a) (e b)).map not = _
  rw [eqD_of (h.pl a) (h.pl b), h.eq]
  rfl
theorem eq_B (a b : Bool) : cmpD .eq (eB a) (eB b) = some (a == b) := rfl
theorem ne_B (a b : Bool) : cmpD .ne (eB a) (eB b) = some (!(a == b)) := rfl
theorem any_beq {e : α → D} (h : EqOk 40 e) (a : α) : ∀ xs : List α, (xs.map e).any (D.beq (e a)) = decide (a ∈ xs)
  | [] => by simp
  | x :: xs => by
    rw [List.map_cons, List.any_cons, h.eq, any_beq h a xs]
    by_cases h1 : a = x <;> by_cases h2 : a ∈ xs <;> simp [h1, h2]
theorem mem_T {e : α → D} (h : EqOk 40 e) (a : α) (xs : List α) : cmpD .mem (e a) (eT e xs) = some (decide (a ∈ xs)) := by
  show (if D.pl 40 (e a) && D.pls 40 (xs.map e) then some ((xs.map e).any (D.beq (e a))) else none) = _
  rw [h.pl, pls_map h.pl, any_beq h]
  rfl
theorem mem_L {e : α → D} (h : EqOk 40 e) (a : α) (xs : List α) : cmpD .mem (e a) (eL e xs) = some (decide (a ∈ xs)) := by
  show (if D.pl 40 (e a) && D.pls 40 (xs.map e) then some ((xs.map e).any (D.beq (e a))) else none) = _
  rw [h.pl, pls_map h.pl, any_beq h]
  rfl
theorem nmem_T {e : α → D} (h : EqOk 40 e) (a : α) (xs : List α) : cmpD .nmem (e a) (eT e xs) = some (!decide (a ∈ xs)) := by
  show (cmpD .mem (e a) (eT e xs)).map not = _
  rw [mem_T h]
  rfl
theorem nmem_L {e : α → D} (h : EqOk 40 e) (a : α) (xs : List α) : cmpD .nmem (e a) (eL e xs) = some (!decide (a ∈ xs)) := by
  show (cmpD .mem (e a) (eL e xs)).map not = _
  rw [mem_L h]
  rfl
end
def ltI (a b : Int) : Bool := decide (a < b)
def ltU (_ _ : Unit) : Bool := false
def lt2 {α β : Type} [DecidableEq α] (la : α → α → Bool) (lb : β → β → Bool) (p q : α × β) : Bool := if p.1 = q.1 then lb p.2 q.2 else la p.1 q.1
def ltL {α : Type} [DecidableEq α] (la : α → α → Bool) : List α → List α → Bool
  | [], [] => false
  | [], _ :: _ => true
  | _ :: _, [] => false
  | x :: xs, y :: ys => if x = y then ltL la xs ys else la x y
/-- data with a plain order -/
structure OrdOk {α : Type} [DecidableEq α] (d : Nat) (e : α → D) (lt : α → α → Bool) : Prop where
  pl : ∀ a, D.pl d (e a) = true
  nn : ∀ a, D.isNon (e a) = false
  al : ∀ a b, PySem.W.alike (toP (e a)) (toP (e b)) = true
  eq : ∀ a b, PyData.eqv (toP (e a)) (toP (e b)) = decide (a = b)
  lt : ∀ a b, PySem.W.dataLt (toP (e a)) (toP (e b)) = lt a b
structure OrdRow {α : Type} [DecidableEq α] (d : Nat) (r : α → List D) (lt : α → α → Bool) : Prop where
  pl : ∀ a, D.pls d (r a) = true
  al : ∀ a b, PySem.W.alikeAll (toPs (r a)) (toPs (r b)) = true
  eq : ∀ a b, PyData.eqvAll (toPs (r a)) (toPs (r b)) = decide (a = b)
  lt : ∀ a b, PyProof.Rows.lexLt PyProof.Rows.itemOrd (PySem.W.keyToksAll (toPs (r a))) (PySem.W.keyToksAll (toPs (r b))) = lt a b
section
variable {α β : Type} [DecidableEq α] [DecidableEq β] {d : Nat}
theorem ord_I : OrdOk d eI ltI := by
  refine ⟨fun a => ?_, fun _ => rfl, fun _ _ => by show PySem.W.alike (.int _) (.int _) = true; rw [PySem.W.alike], fun a b => ?_, fun a b => PySem.W.dataLt_int a b⟩
  · cases d <;> rfl
  · show PyData.eqv (.int a) (.int b) = _
    rw [PyData.eqv]
    by_cases h : a = b <;> simp [h]
theorem lex_nil : PyProof.Rows.lexLt PyProof.Rows.itemOrd (PySem.W.keyToksAll []) (PySem.W.keyToksAll []) = false := PyProof.Rows.lex_irrefl _
theorem ord_r0 : OrdRow d r0 ltU := ⟨fun a => by cases d <;> rfl, fun a b => rfl, fun a b => by cases a; cases b; show PyData.eqvAll [] [] = _; rw [PyData.eqvAll]; rfl, fun a b => lex_nil⟩
theorem ord_r1 {e : α → D} {lt : α → α → Bool} (h : OrdOk d e lt) (hi : ∀ a, lt a a = false) : OrdRow d (r1 e) lt := by
  refine ⟨fun a => by show (D.pl d (e a) && D.pls d []) = true; rw [h.pl]; cases d <;> rfl, fun a b => ?_, fun a b => ?_, fun a b => ?_⟩
  · show PySem.W.alikeAll [toP (e a)] [toP (e b)] = true
    rw [PySem.W.alikeAll, h.al]
    rfl
  · show PyData.eqvAll [toP (e a)] [toP (e b)] = _
    rw [PySem.W.eqv_all_cons, h.eq, PyData.eqvAll, Bool.and_true]
  · show PyProof.Rows.lexLt PyProof.Rows.itemOrd (PySem.W.keyToksAll [toP (e a)]) (PySem.W.keyToksAll [toP (e b)]) = _
    rw [PySem.W.dataLt_cons (h.al a b), h.eq, lex_nil, h.lt]
    by_cases q : a = b
    · subst q; simp [hi]
    · simp [q]
theorem ord_rc {e : α → D} {r : β → List D} {la : α → α → Bool} {lb : β → β → Bool} (h : OrdOk d e la) (h2 : OrdRow d r lb) : OrdRow d (rc e r) (lt2 la lb) := by
  refine ⟨fun p => by show (D.pl d (e p.1) && D.pls d (r p.2)) = true; rw [h.pl, h2.pl]; rfl, fun p q => ?_, fun p q => ?_, fun p q => ?_⟩
  · show PySem.W.alikeAll (toP (e p.1) :: toPs (r p.2)) (toP (e q.1) :: toPs (r q.2)) = true
    rw [PySem.W.alikeAll, h.al, h2.al]
    rfl
  · show PyData.eqvAll (toP (e p.1) :: toPs (r p.2)) (toP (e q.1) :: toPs (r q.2)) = _
    rw [PySem.W.eqv_all_cons, h.eq, h2.eq]
    obtain ⟨a, b⟩ := p
    obtain ⟨a', b'⟩ := q
    by_cases h1 : a = a' <;> by_cases h2 : b = b' <;> simp [h1, h2]
  · show PyProof.Rows.lexLt PyProof.Rows.itemOrd (PySem.W.keyToksAll (toP (e p.1) :: toPs (r p.2))) (PySem.W.keyToksAll (toP (e q.1) :: toPs (r q.2))) = _
    rw [PySem.W.dataLt_cons (h.al _ _), h.eq, h2.lt, h.lt]
    unfold lt2
    by_cases q : p.1 = q.1 <;> simp [q]
theorem ord_P {r : α → List D} {lt : α → α → Bool} (h : OrdRow d r lt) : OrdOk (d + 1) (eP r) lt := by
  refine ⟨fun a => by show D.pls d (r a) = true; exact h.pl a, fun a => rfl, fun a b => ?_, fun a b => ?_, fun a b => ?_⟩
  · show PySem.W.alike (.tuple (toPs (r a))) (.tuple (toPs (r b))) = true
    rw [PySem.W.alike, h.al]
  · show PyData.eqv (.tuple (toPs (r a))) (.tuple (toPs (r b))) = _
    rw [PyData.eqv, h.eq]
  · show PySem.W.dataLt (.tuple (toPs (r a))) (.tuple (toPs (r b))) = _
    rw [PySem.W.dataLt_tuple, h.lt]
theorem al_map {e : α → D} {la : α → α → Bool} (h : OrdOk d e la) : ∀ xs ys : List α, PySem.W.alikeAll (toPs (xs.map e)) (toPs (ys.map e)) = true
  | [], ys => by cases ys <;> rfl
  | x :: xs, [] => rfl
  | x :: xs, y :: ys => by
    show PySem.W.alikeAll (toP (e x) :: toPs (xs.map e)) (toP (e y) :: toPs (ys.map e)) = true
    rw [PySem.W.alikeAll, h.al, al_map h xs ys]
    rfl
theorem eqv_map {e : α → D} {la : α → α → Bool} (h : OrdOk d e la) : ∀ xs ys : List α, PyData.eqvAll (toPs (xs.map e)) (toPs (ys.map e)) = decide (xs = ys)
  | [], [] => by show PyData.eqvAll [] [] = _; rw [PyData.eqvAll]; rfl
  | [], y :: ys => by show PyData.eqvAll [] (toP (e y) :: toPs (ys.map e)) = _; rw [PyData.eqvAll]; simp
  | x :: xs, [] => by show PyData.eqvAll (toP (e x) :: toPs (xs.map e)) [] = _; rw [PyData.eqvAll]; simp
  | x :: xs, y :: ys => by
    show PyData.eqvAll (toP (e x) :: toPs (xs.map e)) (toP (e y) :: toPs (ys.map e)) = _
    rw [PySem.W.eqv_all_cons, h.eq, eqv_map h xs ys]
    by_cases h1 : x = y <;> by_cases h2 : xs = ys <;> simp [h1, h2]
theorem lt_map {e : α → D} {la : α → α → Bool} (h : OrdOk d e la) : ∀ xs ys : List α, PyProof.Rows.lexLt PyProof.Rows.itemOrd (PySem.W.keyToksAll (toPs (xs.map e))) (PySem.W.keyToksAll (toPs (ys.map e))) = ltL la xs ys
  | [], [] => lex_nil
  | [], y :: ys => by
    show PyProof.Rows.lexLt PyProof.Rows.itemOrd (PySem.W.keyToksAll []) (PySem.W.keyToksAll (toP (e y) :: toPs (ys.map e))) = true
    rw [PySem.W.keyToksAll, PySem.W.keyToksAll]
    rw [PyProof.Rows.lex_diff (O := PyProof.Rows.itemOrd) (fun q => by cases q)]
    rfl
  | x :: xs, [] => by
    show PyProof.Rows.lexLt PyProof.Rows.itemOrd (PySem.W.keyToksAll (toP (e x) :: toPs (xs.map e))) (PySem.W.keyToksAll []) = false
    rw [PySem.W.keyToksAll, PySem.W.keyToksAll]
    rw [PyProof.Rows.lex_diff (O := PyProof.Rows.itemOrd) (fun q => by cases q)]
    rfl
  | x :: xs, y :: ys => by
    show PyProof.Rows.lexLt PyProof.Rows.itemOrd (PySem.W.keyToksAll (toP (e x) :: toPs (xs.map e))) (PySem.W.keyToksAll (toP (e y) :: toPs (ys.map e))) = _
    rw [PySem.W.dataLt_cons (h.al _ _), h.eq, h.lt, lt_map h xs ys, ltL]
    by_cases q : x = y <;> simp [q]
theorem ord_T {e : α → D} {la : α → α → Bool} (h : OrdOk d e la) : OrdOk (d + 1) (eT e) (ltL la) := by
  refine ⟨fun a => by show D.pls d (a.map e) = true; exact pls_map h.pl a, fun a => rfl, fun a b => ?_, fun a b => ?_, fun a b => ?_⟩
  · show PySem.W.alike (.tuple (toPs (a.map e))) (.tuple (toPs (b.map e))) = true
    rw [PySem.W.alike, al_map h]
  · show PyData.eqv (.tuple (toPs (a.map e))) (.tuple (toPs (b.map e))) = _
    rw [PyData.eqv, eqv_map h]
  · show PySem.W.dataLt (.tuple (toPs (a.map e))) (.tuple (toPs (b.map e))) = _
    rw [PySem.W.dataLt_tuple, lt_map h]
theorem ord_L {e : α → D} {la : α → α → Bool} (h : OrdOk d e la) : OrdOk (d + 1) (eL e) (ltL la) := by
  refine ⟨fun a => by show D.pls d (a.map e) = true; exact pls_map h.pl a, fun a => rfl, fun a b => ?_, fun a b => ?_, fun a b => ?_⟩
  · show PySem.W.alike (.list (toPs (a.map e))) (.list (toPs (b.map e))) = true
    rw [PySem.W.alike, al_map h]
  · show PyData.eqv (.list (toPs (a.map e))) (.list (toPs (b.map e))) = _
    rw [PyData.eqv, eqv_map h]
  · show PySem.W.dataLt (.list (toPs (a.map e))) (.list (toPs (b.map e))) = _
    rw [PySem.W.dataLt_list, lt_map h]
theorem irr_I (a : Int) : ltI a a = false := by simp [ltI]
theorem irr_2 {la : α → α → Bool} {lb : β → β → Bool} (h : ∀ b, lb b b = false) (p : α × β) : lt2 la lb p p = false := by
  unfold lt2
  rw [if_pos rfl, h]
theorem irr_L {la : α → α → Bool} : ∀ xs : List α, ltL la xs xs = false
  | [] => rfl
  | x :: xs => by rw [ltL, if_pos rfl, irr_L xs]
theorem okC_map {e : α → D} {la : α → α → Bool} (h : OrdOk 40 e la) (xs : List α) : okC (xs.map e) = true := by
  unfold okC
  rw [pls_map h.pl, Bool.true_and, List.all_eq_true]
  intro x hx
  rw [List.mem_map] at hx
  obtain ⟨a, _, rfl⟩ := hx
  rw [h.nn, Bool.and_eq_true, List.all_eq_true]
  refine ⟨rfl, fun y hy => ?_⟩
  rw [List.mem_map] at hy
  obtain ⟨b, _, rfl⟩ := hy
  exact h.al a b
theorem ltP_ok {e : α → D} {la : α → α → Bool} (h : OrdOk d e la) (a b : α) : ltP (e a) (e b) = la a b := h.lt a b
theorem minF_map {e : α → D} {la : α → α → Bool} (h : OrdOk d e la) : ∀ (xs : List α) (x : α), minF (e x) (xs.map e) = e (xs.foldl (fun a y => if la y a then y else a) x)
  | [], x => rfl
  | y :: xs, x => by
    show minF (if ltP (e y) (e x) then e y else e x) (xs.map e) = _
    rw [ltP_ok h, List.foldl_cons, ← minF_map h xs]
    cases la y x <;> rfl
theorem maxF_map {e : α → D} {la : α → α → Bool} (h : OrdOk d e la) : ∀ (xs : List α) (x : α), maxF (e x) (xs.map e) = e (xs.foldl (fun a y => if la a y then y else a) x)
  | [], x => rfl
  | y :: xs, x => by
    show maxF (if ltP (e x) (e y) then e y else e x) (xs.map e) = _
    rw [ltP_ok h, List.foldl_cons, ← maxF_map h xs]
    cases la x y <;> rfl
theorem minG_ok {e : α → D} {la : α → α → Bool} (h : OrdOk 40 e la) {x : D} {xs : List α} {y : α} (hx : itemsD x = some (xs.map e)) (hm : minN la xs = some y) : biD .minG [x] = some (e y) := by
  cases xs with
  | nil => cases hm
  | cons z xs =>
    cases hm
    show (itemsD x).bind _ = _
    rw [hx, Option.bind_some, if_pos (okC_map h (z :: xs))]
    show some (minF (e z) (xs.map e)) = _
    rw [minF_map h]
theorem maxG_ok {e : α → D} {la : α → α → Bool} (h : OrdOk 40 e la) {x : D} {xs : List α} {y : α} (hx : itemsD x = some (xs.map e)) (hm : maxN la xs = some y) : biD .maxG [x] = some (e y) := by
  cases xs with
  | nil => cases hm
  | cons z xs =>
    cases hm
    show (itemsD x).bind _ = _
    rw [hx, Option.bind_some, if_pos (okC_map h (z :: xs))]
    show some (maxF (e z) (xs.map e)) = _
    rw [maxF_map h]
theorem sort_ok {e : α → D} {la : α → α → Bool} (h : OrdOk 40 e la) (ht : (∀ a, isTupD (e a) = true) ∨ (∀ a, noTupD (e a) = true)) (xs : List α) : biD .sorted [eL e xs] = some (eL e (sortN la xs)) := by
  show (if okC (xs.map e) && ((xs.map e).all isTupD || (xs.map e).all noTupD) then some (D.lst (sortL (xs.map e))) else none) = _
  have h2 : ((xs.map e).all isTupD || (xs.map e).all noTupD) = true := by
    rw [Bool.or_eq_true, List.all_eq_true, List.all_eq_true]
    rcases ht with ht | ht
    · exact .inl fun x hx => by rw [List.mem_map] at hx; obtain ⟨a, _, rfl⟩ := hx; exact ht a
    · exact .inr fun x hx => by rw [List.mem_map] at hx; obtain ⟨a, _, rfl⟩ := hx; exact ht a
  rw [okC_map h, h2]
  show some (D.lst (sortL (xs.map e))) = _
  unfold sortL sortN eL
  rw [List.map_mergeSort (s := fun a b => !ltP b a) (fun a _ b _ => by rw [ltP_ok h])]
end
end Nv

/-! One lemma a form of an expression. -/
namespace Nv
open PySem PySem.Spec PyProof.Rows L2 Ev Ev.Pre

/-! ### lists -/
section
variable {α β : Type}
theorem atI_map (e : α → β) (xs : List α) (i : Int) : atI (xs.map e) i = (atI xs i).map e := by
  unfold atI
  rw [List.length_map]
  cases ixN xs.length i with
  | none => rfl
  | some j => simp
theorem cut_map (e : α → β) (xs : List α) (lo hi : Option Int) : cutL (xs.map e) lo hi = (cutL xs lo hi).map e := by
  unfold cutL
  rw [List.length_map, List.map_take, List.map_drop]
theorem zip_map (e : α → D) (f : β → D) : ∀ (xs : List α) (ys : List β), zipD (xs.map e) (ys.map f) = (xs.zip ys).map (eP (rc e (r1 f)))
  | [], _ => rfl
  | _ :: _, [] => rfl
  | x :: xs, y :: ys => by
    show D.tup [e x, f y] :: zipD (xs.map e) (ys.map f) = _
    rw [zip_map e f xs ys]
    rfl
theorem enm_map (e : α → D) : ∀ (xs : List α) (k : Nat), enmD k (xs.map e) = (enumI k xs).map (eP (rc eI (r1 e)))
  | [], _ => rfl
  | x :: xs, k => by
    show D.tup [.int k, e x] :: enmD (k + 1) (xs.map e) = _
    rw [enm_map e xs (k + 1)]
    rfl
theorem set_map (e : α → D) (xs : List α) (i : Nat) (x : α) : (xs.map e).set i (e x) = (xs.set i x).map e := by
  rw [List.map_set]
theorem minI_fold : ∀ (xs : List Int) (m : Int), minI m xs = xs.foldl min m
  | [], m => rfl
  | x :: xs, m => by
    rw [minI, minI_fold xs, List.foldl_cons]
    congr 1
    omega
theorem maxI_fold : ∀ (xs : List Int) (m : Int), maxI m xs = xs.foldl max m
  | [], m => rfl
  | x :: xs, m => by
    rw [maxI, maxI_fold xs, List.foldl_cons]
    congr 1
    omega
theorem isE_map (e : α → β) (xs : List α) : (xs.map e).isEmpty = xs.isEmpty := by cases xs <;> rfl
end

section
variable {Φ : Fns} {ρ ρ' : List D} {α β σ τ : Type}
/-! ### expressions -/
theorem e_var {i : Nat} {d : D} (h : getV ρ i = some d) : evE Φ (.var i) ρ = some d := by rw [evE]; exact h
theorem e_int {i : Int} : evE Φ (.int i) ρ = some (.int i) := by rw [evE]
theorem e_bl {b : Bool} : evE Φ (.bl b) ρ = some (.bl b) := by rw [evE]
theorem e_non : evE Φ .non ρ = some .non := by rw [evE]
theorem e_str {s : Str} : evE Φ (.str s) ρ = some (.str s) := by rw [evE]
theorem e_lst {k : Nat} {es : CEs} {xs : List D} (h : evEs Φ es ρ = some xs) : evE Φ (.lst k es) ρ = some (.lst xs) := by
  rw [evE, h]
  rfl
theorem e_op {op : Bop} {a b : CE} {x y d : D} (h : evE Φ a ρ = some x) (h2 : evE Φ b ρ = some y) (h3 : binD op x y = some d) : evE Φ (.bin op a b) ρ = some d := by
  rw [evE, h, Option.bind_some, h2]
  exact h3
theorem o_mulO {a b c : Int} (h : mulO a b = some c) : binD .mul (.int a) (.int b) = some (.int c) := by
  unfold mulO at h
  show (if mulOk a b then some (D.int (a * b)) else none) = _
  split at h
  · cases h
    rename_i q
    rw [if_pos q]
  · cases h
theorem o_mulL {a b : Int} (h : a.natAbs < 2 ^ 64 ∨ b.natAbs < 2 ^ 64) : binD .mul (.int a) (.int b) = some (.int (a * b)) := mul_ok h
theorem o_modL {a b : Int} (h : 0 < b) : binD .mod (.int a) (.int b) = some (.int (a % b)) := by
  rw [mod_ok (by omega), Int.fmod_eq_emod_of_nonneg _ (by omega)]
theorem o_divL {a b : Int} (h : 0 < b) (h2 : b.natAbs.log2 < 9000) : binD .fdiv (.int a) (.int b) = some (.int (a / b)) := by
  rw [div_ok (by omega) h2, Int.fdiv_eq_ediv_of_nonneg _ (by omega)]
theorem o_modO {a b c : Int} (h : modO a b = some c) : binD .mod (.int a) (.int b) = some (.int c) := by
  unfold modO at h
  split at h
  · cases h
    rename_i q
    exact mod_ok q
  · cases h
theorem o_divO {a b c : Int} (h : divO a b = some c) : binD .fdiv (.int a) (.int b) = some (.int c) := by
  unfold divO at h
  show (if divOk b then some (D.int (a.fdiv b)) else none) = _
  split at h
  · cases h
    rename_i q
    rw [if_pos q]
  · cases h
theorem o_powO {a b c : Int} (h : powO a b = some c) : binD .pow (.int a) (.int b) = some (.int c) := by
  unfold powO at h
  show (if powOk a b then some (D.int (a ^ b.toNat)) else none) = _
  split at h
  · cases h
    rename_i q
    rw [if_pos q]
  · cases h
theorem cat_some {xs ys zs : List α} (h : catO xs ys = some zs) (e : α → D) : catD (xs.map e) (ys.map e) = some (zs.map e) := by
  unfold catO at h
  split at h
  · cases h
    rename_i q
    unfold catD
    rw [List.length_map, List.length_map, if_pos q, List.map_append]
  · cases h
theorem o_catT {e : α → D} {xs ys zs : List α} (h : catO xs ys = some zs) : binD .catT (eT e xs) (eT e ys) = some (eT e zs) := by
  show (catD (xs.map e) (ys.map e)).map D.tup = _
  rw [cat_some h]
  rfl
theorem o_catL {k : Nat} {e : α → D} {xs ys zs : List α} (h : catO xs ys = some zs) : binD (.catL k) (eL e xs) (eL e ys) = some (eL e zs) := by
  show (catD (xs.map e) (ys.map e)).map D.lst = _
  rw [cat_some h]
  rfl
theorem rep_map (e : α → D) (xs : List α) : ∀ n : Nat, (List.replicate n (xs.map e)).flatten = ((List.replicate n xs).flatten).map e
  | 0 => rfl
  | n + 1 => by rw [List.replicate_succ, List.flatten_cons, rep_map e xs n, List.replicate_succ, List.flatten_cons, List.map_append]
theorem o_repL {e : α → D} {xs zs : List α} {k : Int} (h : repO xs k = some zs) : binD .repL (eL e xs) (.int k) = some (eL e zs) := by
  unfold repO repD at h
  show (repD (xs.map e) k).map D.lst = _
  unfold repD
  rw [List.length_map]
  split at h
  · cases h
    rename_i q
    rw [if_pos q, rep_map]
    rfl
  · cases h
theorem o_repT [DecidableEq α] {e : α → D} {xs zs : List α} {k : Int} (h : repTO xs k = some zs) : binD .repT (eT e xs) (.int k) = some (eT e zs) := by
  unfold repTO at h
  show (repTD (xs.map e) k).map D.tup = _
  unfold repTD
  rw [List.length_map]
  split at h
  · cases h
    rename_i q
    rw [if_pos ⟨by intro z; apply q.1; have := congrArg List.length z; simpa using this, q.2⟩, rep_map]
    rfl
  · cases h
theorem e_cmp {op : Cop} {a b : CE} {x y : D} {t : Bool} (h : evE Φ a ρ = some x) (h2 : evE Φ b ρ = some y) (h3 : cmpD op x y = some t) : evE Φ (.cmp op a b) ρ = some (.bl t) := by
  rw [evE, h, Option.bind_some, h2, Option.bind_some, h3]
  rfl
theorem e_chn {op op' : Cop} {a b c : CE} {x y z : D} {t t' : Bool} (h : evE Φ a ρ = some x) (h2 : evE Φ b ρ = some y) (h3 : evE Φ c ρ = some z) (h4 : cmpD op x y = some t) (h5 : cmpD op' y z = some t') : evE Φ (.chn op op' a b c) ρ = some (.bl (t && t')) := by
  rw [evE, h, Option.bind_some, h2, Option.bind_some, h4, Option.bind_some]
  cases t with
  | true => rw [if_pos rfl, h3, Option.bind_some, h5]; rfl
  | false => rfl
theorem e_isN {a : CE} {x : D} {t : Bool} (h : evE Φ a ρ = some x) (h2 : D.isNon x = t) : evE Φ (.isN a) ρ = some (.bl t) := by
  rw [evE, h, ← h2]
  rfl
theorem e_noN {a : CE} {x : D} {t : Bool} (h : evE Φ a ρ = some x) (h2 : D.isNon x = t) : evE Φ (.noN a) ρ = some (.bl (!t)) := by
  rw [evE, h, ← h2]
  rfl
theorem e_and {a b : CE} {t t' : Bool} (h : evE Φ a ρ = some (.bl t)) (h2 : t = true → evE Φ b ρ = some (.bl t')) : evE Φ (.and a b) ρ = some (.bl (t && t')) := by
  rw [evE, h, Option.bind_some]
  cases t with
  | true => exact h2 rfl
  | false => rfl
theorem e_or {a b : CE} {t t' : Bool} (h : evE Φ a ρ = some (.bl t)) (h2 : t = false → evE Φ b ρ = some (.bl t')) : evE Φ (.or a b) ρ = some (.bl (t || t')) := by
  rw [evE, h, Option.bind_some]
  cases t with
  | true => rfl
  | false => exact h2 rfl
theorem e_andM {a b : CE} {t r : Bool} {m : Option Bool} (h : evE Φ a ρ = some (.bl t)) (hm : (if t then m else some false) = some r) (h2 : m = some r → evE Φ b ρ = some (.bl r)) : evE Φ (.and a b) ρ = some (.bl r) := by
  rw [evE, h, Option.bind_some]
  cases t with
  | true => exact h2 hm
  | false => cases hm; rfl
theorem e_orM {a b : CE} {t r : Bool} {m : Option Bool} (h : evE Φ a ρ = some (.bl t)) (hm : (if t then some true else m) = some r) (h2 : m = some r → evE Φ b ρ = some (.bl r)) : evE Φ (.or a b) ρ = some (.bl r) := by
  rw [evE, h, Option.bind_some]
  cases t with
  | true => cases hm; rfl
  | false => exact h2 hm
theorem e_ifx {c a b : CE} {t : Bool} {e : α → D} {x y : α} (h : evT Φ c ρ = some t) (h1 : t = true → evE Φ a ρ = some (e x)) (h2 : t = false → evE Φ b ρ = some (e y)) : evE Φ (.ifx c a b) ρ = some (e (if t then x else y)) := by
  rw [evE, h, Option.bind_some]
  cases t with
  | true => exact h1 rfl
  | false => exact h2 rfl
theorem e_ifxM {c a b : CE} {t : Bool} {e : α → D} {r : α} {m m' : Option α} (h : evT Φ c ρ = some t) (hm : (if t then m else m') = some r) (h1 : m = some r → evE Φ a ρ = some (e r)) (h2 : m' = some r → evE Φ b ρ = some (e r)) : evE Φ (.ifx c a b) ρ = some (e r) := by
  rw [evE, h, Option.bind_some]
  cases t with
  | true => exact h1 hm
  | false => exact h2 hm
theorem ix_T {e : α → D} {xs : List α} {i : Int} {x : α} (h : atI xs i = some x) : idxD (eT e xs) (.int i) = some (e x) := by
  show atI (xs.map e) i = _
  rw [atI_map, h]
  rfl
theorem ix_L {e : α → D} {xs : List α} {i : Int} {x : α} (h : atI xs i = some x) : idxD (eL e xs) (.int i) = some (e x) := by
  show atI (xs.map e) i = _
  rw [atI_map, h]
  rfl
theorem ix_C {e : α → D} {xs : List α} {i : Int} {x : α} (h : atI xs i = some x) : idxD (eC e xs) (.int i) = some (e x) := by
  show atI (xs.map e) i = _
  rw [atI_map, h]
  rfl
theorem o_no : evO Φ .no ρ = some none := by rw [evO]
theorem o_yes {e : CE} {i : Int} (h : evE Φ e ρ = some (.int i)) : evO Φ (.yes e) ρ = some (some i) := by
  rw [evO, h]
  rfl
theorem e_slc {t : Bool} {a : CE} {lo hi : CO} {l h : Option Int} {x d : D} (ha : evE Φ a ρ = some x) (hl : evO Φ lo ρ = some l) (hh : evO Φ hi ρ = some h) (h3 : slcD t l h x = some d) : evE Φ (.slc t a lo hi) ρ = some d := by
  rw [evE, ha, Option.bind_some, hl, Option.bind_some, hh]
  exact h3
theorem sl_T {e : α → D} {xs : List α} {lo hi : Option Int} : slcD true lo hi (eT e xs) = some (eT e (cutL xs lo hi)) := by
  show some (D.tup (cutL (xs.map e) lo hi)) = _
  rw [cut_map]
theorem sl_L {e : α → D} {xs : List α} {lo hi : Option Int} : slcD false lo hi (eL e xs) = some (eL e (cutL xs lo hi)) := by
  show some (D.lst (cutL (xs.map e) lo hi)) = _
  rw [cut_map]
theorem e_rev {e : α → D} {a : CE} {xs : List α} (h : evE Φ a ρ = some (eL e xs)) : evE Φ (.rev a) ρ = some (eL e xs.reverse) := by
  rw [evE, h]
  show some (D.lst (xs.map e).reverse) = _
  rw [← List.map_reverse]
theorem e_fn {j : Nat} {es : CEs} {ds : List D} {d : D} {f : List D → Option D} (h : evEs Φ es ρ = some ds) (hf : Φ[j]? = some f) (h2 : f ds = some d) : evE Φ (.call j es) ρ = some d := e_call h hf h2
theorem e_bi {f : BI} {es : CEs} {ds : List D} {d : D} (h : evEs Φ es ρ = some ds) (h2 : biD f ds = some d) : evE Φ (.bi f es) ρ = some d := by
  rw [evE, h]
  exact h2
theorem e_isi {t : Ty} {a : CE} {x : D} {b : Bool} (h : evE Φ a ρ = some x) (h2 : isiD t x = some b) : evE Φ (.isi t a) ρ = some (.bl b) := by
  rw [evE, h, Option.bind_some, h2]
  rfl
/-! built-ins -/
theorem b_lenT {e : α → D} {xs : List α} : biD .len [eT e xs] = some (.int xs.length) := by
  show some (D.int ((xs.map e).length : Nat)) = _
  rw [List.length_map]
theorem b_lenL {e : α → D} {xs : List α} : biD .len [eL e xs] = some (.int xs.length) := by
  show some (D.int ((xs.map e).length : Nat)) = _
  rw [List.length_map]
theorem b_lenC {e : α → D} {xs : List α} : biD .len [eC e xs] = some (.int xs.length) := by
  show some (D.int ((xs.map e).length : Nat)) = _
  rw [List.length_map]
theorem b_sum {d : D} {xs : List Int} (h : itemsD d = some (xs.map eI)) : biD .sum [d] = some (.int xs.sum) := by
  show (itemsD d).bind _ = _
  rw [h, Option.bind_some, intsD_int]
  rfl
theorem b_anyB {d : D} {xs : List Bool} (h : itemsD d = some (xs.map eB)) : biD .any [d] = some (.bl (xs.any id)) := by
  show (itemsD d).bind _ = _
  rw [h, Option.bind_some, trusD_bl]
  rfl
theorem b_allB {d : D} {xs : List Bool} (h : itemsD d = some (xs.map eB)) : biD .all [d] = some (.bl (xs.all id)) := by
  show (itemsD d).bind _ = _
  rw [h, Option.bind_some, trusD_bl]
  rfl
theorem b_anyI {d : D} {xs : List Int} (h : itemsD d = some (xs.map eI)) : biD .any [d] = some (.bl (xs.any (· != 0))) := by
  show (itemsD d).bind _ = _
  rw [h, Option.bind_some, trusD_int, Option.map_some, List.any_map]
  rfl
theorem b_allI {d : D} {xs : List Int} (h : itemsD d = some (xs.map eI)) : biD .all [d] = some (.bl (xs.all (· != 0))) := by
  show (itemsD d).bind _ = _
  rw [h, Option.bind_some, trusD_int, Option.map_some, List.all_map]
  rfl
theorem b_abs {i : Int} : biD .abs [.int i] = some (.int (absI i)) := rfl
theorem b_intI {i : Int} : biD .int [.int i] = some (.int i) := rfl
theorem b_intB {b : Bool} : biD .int [.bl b] = some (.int (if b then 1 else 0)) := rfl
theorem b_min2 {a b : Int} : biD .min [.int a, .int b] = some (.int (min a b)) := by
  show some (D.int (minI a [b])) = _
  rw [minI_fold]
  rfl
theorem b_min3 {a b c : Int} : biD .min [.int a, .int b, .int c] = some (.int (min (min a b) c)) := by
  show some (D.int (minI a [b, c])) = _
  rw [minI_fold]
  rfl
theorem b_max2 {a b : Int} : biD .max [.int a, .int b] = some (.int (max a b)) := by
  show some (D.int (maxI a [b])) = _
  rw [maxI_fold]
  rfl
theorem b_max3 {a b c : Int} : biD .max [.int a, .int b, .int c] = some (.int (max (max a b) c)) := by
  show some (D.int (maxI a [b, c])) = _
  rw [maxI_fold]
  rfl
theorem b_minL {d : D} {xs : List Int} {m : Int} (h : itemsD d = some (xs.map eI)) (hm : minL xs = some m) : biD .min [d] = some (.int m) := by
  show (itemsD d).bind _ = _
  rw [h, Option.bind_some, intsD_int, Option.bind_some]
  cases xs with
  | nil => cases hm
  | cons x xs =>
    cases hm
    show some (D.int (minI x xs)) = _
    rw [minI_fold]
theorem b_maxL {d : D} {xs : List Int} {m : Int} (h : itemsD d = some (xs.map eI)) (hm : maxL xs = some m) : biD .max [d] = some (.int m) := by
  show (itemsD d).bind _ = _
  rw [h, Option.bind_some, intsD_int, Option.bind_some]
  cases xs with
  | nil => cases hm
  | cons x xs =>
    cases hm
    show some (D.int (maxI x xs)) = _
    rw [maxI_fold]
theorem b_tup {d : D} {xs : List D} (h : itemsD d = some xs) : biD .tuple [d] = some (.tup xs) := by
  show (itemsD d).map _ = _
  rw [h]
  rfl
theorem b_tupL {xs : List D} : biD .tupleL [.lst xs] = some (.tup xs) := rfl
theorem b_lst {d : D} {xs : List D} (h : itemsD d = some xs) : biD .list [d] = some (.lst xs) := by
  show (itemsD d).map _ = _
  rw [h]
  rfl
/-! what is walked -/
theorem i_ex {a : CE} {x : D} {xs : List D} (h : evE Φ a ρ = some x) (h2 : itemsD x = some xs) : evI Φ (.ex a) ρ = some xs := i_ex' h h2
theorem rgO_ok {lo hi : Int} {xs : List Int} (h : rangeO lo hi = some xs) : rgD [.int lo, .int hi] = some (xs.map eI) := by
  unfold rangeO at h
  split at h
  · cases h
    rename_i q
    exact rg2 q.1 q.2.1 q.2.2.1 q.2.2.2
  · cases h
theorem i_rng2 {a b : CE} {lo hi : Int} {xs : List Int} (ha : evE Φ a ρ = some (.int lo)) (hb : evE Φ b ρ = some (.int hi)) (h : rangeO lo hi = some xs) : evI Φ (.rg (.cons a (.cons b .nil))) ρ = some (xs.map eI) := by
  rw [evI, evEs, ha, evEs, hb, evEs, Option.bind_some, Option.bind_some, Option.map_some, Option.map_some, Option.bind_some]
  exact rgO_ok h
theorem i_rng1 {a : CE} {hi : Int} {xs : List Int} (ha : evE Φ a ρ = some (.int hi)) (h : rangeO 0 hi = some xs) : evI Φ (.rg (.cons a .nil)) ρ = some (xs.map eI) := by
  rw [evI, evEs, ha, evEs, Option.bind_some, Option.map_some, Option.bind_some]
  unfold rangeO at h
  split at h
  · cases h
    rename_i q
    show rgD [.int hi] = _
    rw [rgD, if_pos ⟨q.2.2.1, q.2.2.2⟩, span, List.map_map, Int.sub_zero]
    congr 1
    apply List.map_congr_left
    intro k _
    show D.int k = D.int (0 + k)
    rw [Int.zero_add]
  · cases h
theorem i_zipT {a b : CE} {e : α → D} {f : β → D} {xs : List α} {ys : List β} (ha : evE Φ a ρ = some (eT e xs)) (hb : evE Φ b ρ = some (eT f ys)) : evI Φ (.zip a b) ρ = some ((xs.zip ys).map (eP (rc e (r1 f)))) := by
  rw [evI, ha, Option.bind_some, hb, Option.bind_some]
  show some (zipD (xs.map e) (ys.map f)) = _
  rw [zip_map]
theorem i_zipL {a b : CE} {e : α → D} {f : β → D} {xs : List α} {ys : List β} (ha : evE Φ a ρ = some (eL e xs)) (hb : evE Φ b ρ = some (eL f ys)) : evI Φ (.zip a b) ρ = some ((xs.zip ys).map (eP (rc e (r1 f)))) := by
  rw [evI, ha, Option.bind_some, hb, Option.bind_some]
  show some (zipD (xs.map e) (ys.map f)) = _
  rw [zip_map]
theorem i_enmL {a : CE} {e : α → D} {xs : List α} (ha : evE Φ a ρ = some (eL e xs)) : evI Φ (.enm a) ρ = some ((enumI 0 xs).map (eP (rc eI (r1 e)))) := by
  rw [evI, ha, Option.bind_some]
  show some (enmD 0 (xs.map e)) = _
  rw [enm_map e xs 0]
  rfl
theorem i_enmT {a : CE} {e : α → D} {xs : List α} (ha : evE Φ a ρ = some (eT e xs)) : evI Φ (.enm a) ρ = some ((enumI 0 xs).map (eP (rc eI (r1 e)))) := by
  rw [evI, ha, Option.bind_some]
  show some (enmD 0 (xs.map e)) = _
  rw [enm_map e xs 0]
  rfl
theorem i_rvs {a : CE} {e : α → D} {x : D} {xs : List α} (ha : evE Φ a ρ = some x) (h : itemsD x = some (xs.map e)) : evI Φ (.rvs a) ρ = some (xs.reverse.map e) := by
  rw [evI, ha, Option.bind_some, h]
  show some (xs.map e).reverse = _
  rw [← List.map_reverse]
/-! targets -/
theorem tg_nm {i : Nat} {d : D} (h : D.isBad d = false) : asgD (.nm i) d ρ = some (ρ.set i d) := by
  rw [asgD, h]
  rfl
theorem tg_2 {a b : Tgt} {x y : D} {ρ1 ρ2 : List D} (h1 : asgD a x ρ = some ρ1) (h2 : asgD b y ρ1 = some ρ2) : asgD (.two a b) (.tup [x, y]) ρ = some ρ2 := by
  rw [asgD]
  show (asgD a x ρ).bind (asgD b y) = _
  rw [h1]
  exact h2
theorem tg_3 {a b c : Tgt} {x y z : D} {ρ1 ρ2 ρ3 : List D} (h1 : asgD a x ρ = some ρ1) (h2 : asgD b y ρ1 = some ρ2) (h3 : asgD c z ρ2 = some ρ3) : asgD (.three a b c) (.tup [x, y, z]) ρ = some ρ3 := by
  rw [asgD]
  show ((asgD a x ρ).bind fun ρ => (asgD b y ρ).bind (asgD c z)) = _
  rw [h1, Option.bind_some, h2]
  exact h3
theorem tg_4 {a b c g : Tgt} {x y z w : D} {ρ1 ρ2 ρ3 ρ4 : List D} (h1 : asgD a x ρ = some ρ1) (h2 : asgD b y ρ1 = some ρ2) (h3 : asgD c z ρ2 = some ρ3) (h4 : asgD g w ρ3 = some ρ4) : asgD (.four a b c g) (.tup [x, y, z, w]) ρ = some ρ4 := by
  rw [asgD]
  show ((asgD a x ρ).bind fun ρ => (asgD b y ρ).bind fun ρ => (asgD c z ρ).bind (asgD g w)) = _
  rw [h1, Option.bind_some, h2, Option.bind_some, h3]
  exact h4
/-! comprehensions -/
theorem col_ok {f : D → Option (Option D)} {e : α → D} {e' : β → D} {p : α → Bool} {g : α → Option β} : ∀ {xs : List α} {ys : List β}, mapO g (xs.filter p) = some ys →
    (∀ x, f (e x) = some none ∧ p x = false ∨ p x = true ∧ ∀ y, g x = some y → f (e x) = some (some (e' y))) → collect f (xs.map e) = some (ys.map e')
  | [], ys, h, _ => by cases h; rfl
  | x :: xs, ys, h, hf => by
    rw [List.map_cons, Ev.collect]
    rcases hf x with ⟨h1, h2⟩ | ⟨h1, h2⟩
    · rw [List.filter_cons_of_neg (by simp [h2])] at h
      rw [h1, Option.bind_some, col_ok h hf]
      rfl
    · rw [List.filter_cons_of_pos h1] at h
      obtain ⟨y, hy, h⟩ := bnd h
      obtain ⟨r, hr, h⟩ := bnd h
      cases h
      rw [h2 y hy, Option.bind_some, col_ok hr hf]
      rfl
theorem col_M {f : D → Option (Option D)} {e : α → D} {e' : β → D} {p : α → Option Bool} {g : α → Option β} : ∀ {xs : List α} {ys : List β}, filtO p g xs = some ys →
    (∀ x, (p x = some false → f (e x) = some none) ∧ (p x = some true → ∀ y, g x = some y → f (e x) = some (some (e' y)))) → collect f (xs.map e) = some (ys.map e')
  | [], ys, h, _ => by cases h; rfl
  | x :: xs, ys, h, hf => by
    rw [List.map_cons, Ev.collect]
    obtain ⟨t, ht, h⟩ := bnd h
    rcases itc h with ⟨h1, h⟩ | ⟨h1, h⟩
    · subst h1
      obtain ⟨y, hy, h⟩ := bnd h
      obtain ⟨r, hr, h⟩ := bnd h
      cases h
      rw [(hf x).2 ht y hy, Option.bind_some, col_M hr hf]
      rfl
    · subst h1
      rw [(hf x).1 ht, Option.bind_some, col_M h hf]
      rfl
theorem len_some {xs ys : List α} (h : lenO xs = some ys) : ys = xs ∧ xs.length ≤ SL := by
  unfold lenO at h
  split at h
  · cases h
    rename_i q
    exact ⟨rfl, q⟩
  · cases h
/-- no test -/
theorem e_lcN {k : Nat} {elt : CE} {own : List (Str × Nat)} {tg : Tgt} {it : CI} {e : α → D} {e' : β → D} {g : α → Option β} {ρ1 : α → List D} {xs : List α} {ys zs : List β} (hi : evI Φ it ρ = some (xs.map e))
    (hm : mapO g xs = some ys) (hl : lenO ys = some zs) (ht : ∀ x, asgD tg (e x) (wipeD ρ (own.map (·.2))) = some (ρ1 x)) (he : ∀ x y, g x = some y → evE Φ elt (ρ1 x) = some (e' y)) : evE Φ (.lc k elt own tg it .no) ρ = some (eL e' zs) := by
  obtain ⟨rfl, hl⟩ := len_some hl
  refine e_lc hi (col_ok (p := fun _ => true) (g := g) (by rw [List.filter_eq_self.mpr (fun _ _ => rfl)]; exact hm) fun x => .inr ⟨rfl, fun y hy => ?_⟩) (by rw [List.length_map]; exact hl)
  rw [ht, Option.bind_some, evC, Option.bind_some, if_pos rfl, he x y hy]
  rfl
/-- a plain test -/
theorem e_lcP {k : Nat} {elt c : CE} {own : List (Str × Nat)} {tg : Tgt} {it : CI} {e : α → D} {e' : β → D} {p : α → Bool} {g : α → Option β} {ρ1 : α → List D} {xs : List α} {ys zs : List β} (hi : evI Φ it ρ = some (xs.map e))
    (hm : mapO g (xs.filter p) = some ys) (hl : lenO ys = some zs) (ht : ∀ x, asgD tg (e x) (wipeD ρ (own.map (·.2))) = some (ρ1 x)) (hp : ∀ x, evT Φ c (ρ1 x) = some (p x)) (he : ∀ x y, g x = some y → evE Φ elt (ρ1 x) = some (e' y)) : evE Φ (.lc k elt own tg it (.yes c)) ρ = some (eL e' zs) := by
  obtain ⟨rfl, hl⟩ := len_some hl
  refine e_lc hi (col_ok (p := p) (g := g) hm fun x => ?_) (by rw [List.length_map]; exact hl)
  rw [ht, Option.bind_some, evC, hp, Option.bind_some]
  cases hx : p x with
  | true => exact .inr ⟨rfl, fun y hy => by rw [if_pos rfl, he x y hy]; rfl⟩
  | false => exact .inl ⟨rfl, rfl⟩
/-- a test that may fail -/
theorem e_lcM {k : Nat} {elt c : CE} {own : List (Str × Nat)} {tg : Tgt} {it : CI} {e : α → D} {e' : β → D} {p : α → Option Bool} {g : α → Option β} {ρ1 : α → List D} {xs : List α} {ys zs : List β} (hi : evI Φ it ρ = some (xs.map e))
    (hm : filtO p g xs = some ys) (hl : lenO ys = some zs) (ht : ∀ x, asgD tg (e x) (wipeD ρ (own.map (·.2))) = some (ρ1 x)) (hp : ∀ x t, p x = some t → evT Φ c (ρ1 x) = some t) (he : ∀ x y, g x = some y → evE Φ elt (ρ1 x) = some (e' y)) : evE Φ (.lc k elt own tg it (.yes c)) ρ = some (eL e' zs) := by
  obtain ⟨rfl, hl⟩ := len_some hl
  refine e_lc hi (col_M (p := p) (g := g) hm fun x => ⟨fun h => ?_, fun h y hy => ?_⟩) (by rw [List.length_map]; exact hl)
  · rw [ht, Option.bind_some, evC, hp x _ h]
    rfl
  · rw [ht, Option.bind_some, evC, hp x _ h, Option.bind_some, if_pos rfl, he x y hy]
    rfl
theorem colL_ok {f : D → Option (List D)} {e : α → D} {e' : β → D} {g : α → Option (List β)} : ∀ {xs : List α} {ys : List β}, flatO g xs = some ys → (∀ x y, g x = some y → f (e x) = some (y.map e')) → collectL f (xs.map e) = some (ys.map e')
  | [], ys, h, _ => by cases h; rfl
  | x :: xs, ys, h, hf => by
    obtain ⟨y, hy, h⟩ := bnd h
    obtain ⟨r, hr, h⟩ := bnd h
    cases h
    rw [List.map_cons, Ev.collectL, hf x y hy, Option.bind_some, colL_ok hr hf, List.map_append]
    rfl
/-- two fors, no test at the first -/
theorem e_lc2N {γ : Type} {k : Nat} {elt : CE} {own : List (Str × Nat)} {tg tg1 : Tgt} {it it1 : CI} {c1 : CO} {e : α → D} {e1 : γ → D} {e' : β → D} {g : α → Option (List β)} {ρ1 : α → List D} {xs : List α} {ys zs : List β} (hi : evI Φ it ρ = some (xs.map e))
    (hm : flatO g xs = some ys) (hl : lenO ys = some zs) (ht : ∀ x, asgD tg (e x) (wipeD ρ (own.map (·.2))) = some (ρ1 x))
    (he : ∀ x y, g x = some y → ∃ ws : List D, evI Φ it1 (ρ1 x) = some ws ∧ collect (fun y => (asgD tg1 y (wipeD (ρ1 x) (tIx tg1))).bind fun ρ2 => (evC Φ c1 ρ2).bind fun t => if t then (evE Φ elt ρ2).map some else some none) ws = some (y.map e')) : evE Φ (.lc2 k elt own tg it .no tg1 it1 c1) ρ = some (eL e' zs) := by
  obtain ⟨rfl, hl⟩ := len_some hl
  refine e_lc2 hi (colL_ok (g := g) hm fun x y hy => ?_) (by rw [List.length_map]; exact hl)
  rw [ht, Option.bind_some, evC, Option.bind_some, if_pos rfl]
  obtain ⟨ws, h1, h2⟩ := he x y hy
  rw [h1]
  exact h2
/-- .. a plain test at the first -/
theorem e_lc2P {γ : Type} {k : Nat} {elt c : CE} {own : List (Str × Nat)} {tg tg1 : Tgt} {it it1 : CI} {c1 : CO} {e : α → D} {e' : β → D} {p : α → Bool} {g : α → Option (List β)} {ρ1 : α → List D} {xs : List α} {ys zs : List β} (hi : evI Φ it ρ = some (xs.map e))
    (hm : flatO (fun x => if p x then g x else some []) xs = some ys) (hl : lenO ys = some zs) (ht : ∀ x, asgD tg (e x) (wipeD ρ (own.map (·.2))) = some (ρ1 x)) (hp : ∀ x, evT Φ c (ρ1 x) = some (p x))
    (he : ∀ x y, g x = some y → ∃ ws : List D, evI Φ it1 (ρ1 x) = some ws ∧ collect (fun y => (asgD tg1 y (wipeD (ρ1 x) (tIx tg1))).bind fun ρ2 => (evC Φ c1 ρ2).bind fun t => if t then (evE Φ elt ρ2).map some else some none) ws = some (y.map e')) : evE Φ (.lc2 k elt own tg it (.yes c) tg1 it1 c1) ρ = some (eL e' zs) := by
  obtain ⟨rfl, hl⟩ := len_some hl
  refine e_lc2 hi (colL_ok (g := fun x => if p x then g x else some []) hm fun x y hy => ?_) (by rw [List.length_map]; exact hl)
  rw [ht, Option.bind_some, evC, hp, Option.bind_some]
  cases hx : p x with
  | true =>
    rw [hx] at hy
    rw [if_pos rfl]
    obtain ⟨ws, h1, h2⟩ := he x y hy
    rw [h1]
    exact h2
  | false =>
    rw [hx] at hy
    cases hy
    rfl
/-- the inner for -/
theorem in_N {elt : CE} {tg1 : Tgt} {e : α → D} {e' : β → D} {g : α → Option β} {ρ2 : α → List D} {xs : List α} {ys : List β} (hm : mapO g xs = some ys) (ht : ∀ x, asgD tg1 (e x) (wipeD ρ (tIx tg1)) = some (ρ2 x)) (he : ∀ x y, g x = some y → evE Φ elt (ρ2 x) = some (e' y)) :
    collect (fun y => (asgD tg1 y (wipeD ρ (tIx tg1))).bind fun ρ2 => (evC Φ .no ρ2).bind fun t => if t then (evE Φ elt ρ2).map some else some none) (xs.map e) = some (ys.map e') := by
  refine col_ok (p := fun _ => true) (g := g) (by rw [List.filter_eq_self.mpr (fun _ _ => rfl)]; exact hm) fun x => .inr ⟨rfl, fun y hy => ?_⟩
  rw [ht, Option.bind_some, evC, Option.bind_some, if_pos rfl, he x y hy]
  rfl
theorem in_P {elt c : CE} {tg1 : Tgt} {e : α → D} {e' : β → D} {p : α → Bool} {g : α → Option β} {ρ2 : α → List D} {xs : List α} {ys : List β} (hm : mapO g (xs.filter p) = some ys) (ht : ∀ x, asgD tg1 (e x) (wipeD ρ (tIx tg1)) = some (ρ2 x)) (hp : ∀ x, evT Φ c (ρ2 x) = some (p x)) (he : ∀ x y, g x = some y → evE Φ elt (ρ2 x) = some (e' y)) :
    collect (fun y => (asgD tg1 y (wipeD ρ (tIx tg1))).bind fun ρ2 => (evC Φ (.yes c) ρ2).bind fun t => if t then (evE Φ elt ρ2).map some else some none) (xs.map e) = some (ys.map e') := by
  refine col_ok (p := p) (g := g) hm fun x => ?_
  rw [ht, Option.bind_some, evC, hp, Option.bind_some]
  cases hx : p x with
  | true => exact .inr ⟨rfl, fun y hy => by rw [if_pos rfl, he x y hy]; rfl⟩
  | false => exact .inl ⟨rfl, rfl⟩
theorem in_M {elt c : CE} {tg1 : Tgt} {e : α → D} {e' : β → D} {p : α → Option Bool} {g : α → Option β} {ρ2 : α → List D} {xs : List α} {ys : List β} (hm : filtO p g xs = some ys) (ht : ∀ x, asgD tg1 (e x) (wipeD ρ (tIx tg1)) = some (ρ2 x)) (hp : ∀ x t, p x = some t → evT Φ c (ρ2 x) = some t) (he : ∀ x y, g x = some y → evE Φ elt (ρ2 x) = some (e' y)) :
    collect (fun y => (asgD tg1 y (wipeD ρ (tIx tg1))).bind fun ρ2 => (evC Φ (.yes c) ρ2).bind fun t => if t then (evE Φ elt ρ2).map some else some none) (xs.map e) = some (ys.map e') := by
  refine col_M (p := p) (g := g) hm fun x => ⟨fun h => ?_, fun h y hy => ?_⟩
  · rw [ht, Option.bind_some, evC, hp x _ h]
    rfl
  · rw [ht, Option.bind_some, evC, hp x _ h, Option.bind_some, if_pos rfl, he x y hy]
    rfl

/-! ### tests -/
theorem t_bl {b : Bool} : evT Φ (.bl b) ρ = some b := by rw [evT]
theorem t_cmp {op : Cop} {a b : CE} {x y : D} {t : Bool} (h : evE Φ a ρ = some x) (h2 : evE Φ b ρ = some y) (h3 : cmpD op x y = some t) : evT Φ (.cmp op a b) ρ = some t := by
  rw [evT, h, Option.bind_some, h2]
  exact h3
theorem t_chn {op op' : Cop} {a b c : CE} {x y z : D} {t t' : Bool} (h : evE Φ a ρ = some x) (h2 : evE Φ b ρ = some y) (h3 : evE Φ c ρ = some z) (h4 : cmpD op x y = some t) (h5 : cmpD op' y z = some t') : evT Φ (.chn op op' a b c) ρ = some (t && t') := by
  rw [evT, h, Option.bind_some, h2, Option.bind_some, h4, Option.bind_some]
  cases t with
  | true => rw [if_pos rfl, h3, Option.bind_some, h5]; rfl
  | false => rfl
theorem t_isN {a : CE} {x : D} {t : Bool} (h : evE Φ a ρ = some x) (h2 : D.isNon x = t) : evT Φ (.isN a) ρ = some t := by
  rw [evT, h, ← h2]
  rfl
theorem t_noN {a : CE} {x : D} {t : Bool} (h : evE Φ a ρ = some x) (h2 : D.isNon x = t) : evT Φ (.noN a) ρ = some (!t) := by
  rw [evT, h, ← h2]
  rfl
theorem t_and {a b : CE} {t t' : Bool} (h : evT Φ a ρ = some t) (h2 : t = true → evT Φ b ρ = some t') : evT Φ (.and a b) ρ = some (t && t') := by
  rw [evT, h, Option.bind_some]
  cases t with
  | true => exact h2 rfl
  | false => rfl
theorem t_or {a b : CE} {t t' : Bool} (h : evT Φ a ρ = some t) (h2 : t = false → evT Φ b ρ = some t') : evT Φ (.or a b) ρ = some (t || t') := by
  rw [evT, h, Option.bind_some]
  cases t with
  | true => rfl
  | false => exact h2 rfl
theorem t_andM {a b : CE} {t r : Bool} {m : Option Bool} (h : evT Φ a ρ = some t) (hm : (if t then m else some false) = some r) (h2 : m = some r → evT Φ b ρ = some r) : evT Φ (.and a b) ρ = some r := by
  rw [evT, h, Option.bind_some]
  cases t with
  | true => exact h2 hm
  | false => cases hm; rfl
theorem t_orM {a b : CE} {t r : Bool} {m : Option Bool} (h : evT Φ a ρ = some t) (hm : (if t then some true else m) = some r) (h2 : m = some r → evT Φ b ρ = some r) : evT Φ (.or a b) ρ = some r := by
  rw [evT, h, Option.bind_some]
  cases t with
  | true => cases hm; rfl
  | false => exact h2 hm
theorem t_not {a : CE} {t : Bool} (h : evT Φ a ρ = some t) : evT Φ (.not a) ρ = some (!t) := by
  rw [evT, h]
  rfl
theorem tru_T {e : α → D} {xs : List α} : truD (eT e xs) = some (!xs.isEmpty) := by
  show some (!(xs.map e).isEmpty) = _
  rw [isE_map]
theorem tru_L {e : α → D} {xs : List α} : truD (eL e xs) = some (!xs.isEmpty) := by
  show some (!(xs.map e).isEmpty) = _
  rw [isE_map]
theorem tru_I {i : Int} : truD (.int i) = some (i != 0) := rfl
theorem tru_B {b : Bool} : truD (.bl b) = some b := rfl
theorem t_var {i : Nat} {d : D} {t : Bool} (h : evE Φ (.var i) ρ = some d) (h2 : truD d = some t) : evT Φ (.var i) ρ = some t := by
  rw [evE] at h
  rw [evT, h]
  exact h2
theorem t_idx {a i : CE} {d : D} {t : Bool} (h : evE Φ (.idx a i) ρ = some d) (h2 : truD d = some t) : evT Φ (.idx a i) ρ = some t := by
  rw [evE] at h
  rw [evT, h]
  exact h2
theorem t_fn {j : Nat} {es : CEs} {d : D} {t : Bool} (h : evE Φ (.call j es) ρ = some d) (h2 : truD d = some t) : evT Φ (.call j es) ρ = some t := by
  rw [evE] at h
  rw [evT, h]
  exact h2
theorem t_bi {f : BI} {es : CEs} {d : D} {t : Bool} (h : evE Φ (.bi f es) ρ = some d) (h2 : truD d = some t) : evT Φ (.bi f es) ρ = some t := by
  rw [evE] at h
  rw [evT, h]
  exact h2
theorem t_op {op : Bop} {a b : CE} {d : D} {t : Bool} (h : evE Φ (.bin op a b) ρ = some d) (h2 : truD d = some t) : evT Φ (.bin op a b) ρ = some t := by
  rw [evE] at h
  rw [evT, h]
  exact h2
theorem t_isi {ty : Ty} {a : CE} {x : D} {t : Bool} (h : evE Φ a ρ = some x) (h2 : isiD ty x = some t) : evT Φ (.isi ty a) ρ = some t := by
  rw [evT, h]
  exact h2
end
end Nv

/-! One lemma a form of a statement; loops. -/
namespace Nv
open PySem PySem.Spec PyProof.Rows L2 Ev Ev.Pre

/-! ### goals -/
section
variable {α β σ τ : Type}
def RT (e : τ → D) (r : τ) (x : Option Out) : Prop := x = some (.rt (e r)) ∨ (e r = .non ∧ ∃ ρ, x = some (.nx ρ))
def NX (E : σ → List D → Prop) (s : σ) (x : Option Out) : Prop := ∃ ρ, x = some (.nx ρ) ∧ E s ρ
def FX (E : σ → List D → Prop) (e : τ → D) (o : St σ τ) (x : Option Out) : Prop := match o with
  | .nx s => ∃ ρ, (x = some (.nx ρ) ∨ x = some (.ct ρ)) ∧ E s ρ
  | .bk s => ∃ ρ, x = some (.bk ρ) ∧ E s ρ
  | .rt r => x = some (.rt (e r))
/-- what a loop hands on -/
def FS (E : σ → List D → Prop) (e : τ → D) (o : St σ τ) (x : Option Out) : Prop := match o with
  | .nx s => ∃ ρ, x = some (.nx ρ) ∧ E s ρ
  | .bk _ => False
  | .rt r => x = some (.rt (e r))
end
def app : CSs → CSs → CSs
  | .nil, t => t
  | .cons s ss, t => .cons s (app ss t)
section
variable {Φ : Fns} {ρ ρ' : List D} {α β σ τ : Type} {G : Option Out → Prop} {s : CS} {ss : CSs}
theorem evSs_app : ∀ (a b : CSs) (ρ : List D), evSs Φ (app a b) ρ = (evSs Φ a ρ).bind fun o => match o with
    | .nx ρ' => evSs Φ b ρ'
    | o => some o
  | .nil, b, ρ => by rw [evSs]; rfl
  | .cons s ss, b, ρ => by
    show evSs Φ (.cons s (app ss b)) ρ = _
    rw [evSs, evSs]
    cases evS Φ s ρ with
    | none => rfl
    | some o =>
      cases o with
      | nx ρ' => exact evSs_app ss b ρ'
      | rt d => rfl
      | bk _ => rfl
      | ct _ => rfl
theorem stp (h : evS Φ s ρ = some (.nx ρ')) (h2 : G (evSs Φ ss ρ')) : G (evSs Φ (.cons s ss) ρ) := by
  have e : evSs Φ (.cons s ss) ρ = evSs Φ ss ρ' := by rw [evSs, h]; rfl
  rw [e]
  exact h2
theorem stp_rt {d : D} (h : evS Φ s ρ = some (.rt d)) (h2 : G (some (.rt d))) : G (evSs Φ (.cons s ss) ρ) := by
  have e : evSs Φ (.cons s ss) ρ = some (.rt d) := by rw [evSs, h]; rfl
  rw [e]
  exact h2
theorem stp_if {c : CE} {a b : CSs} {t : Bool} (h : evT Φ c ρ = some t) (ha : t = true → G (evSs Φ (app a ss) ρ)) (hb : t = false → G (evSs Φ (app b ss) ρ)) : G (evSs Φ (.cons (.ife c a b) ss) ρ) := by
  cases t with
  | true =>
    have e : evSs Φ (.cons (.ife c a b) ss) ρ = evSs Φ (app a ss) ρ := by
      rw [evSs_app, evSs, evS, h, Option.bind_some, if_pos rfl]
      all_goals rfl
    rw [e]
    exact ha rfl
  | false =>
    have e : evSs Φ (.cons (.ife c a b) ss) ρ = evSs Φ (app b ss) ρ := by
      rw [evSs_app, evSs, evS, h, Option.bind_some, if_neg (by decide)]
      all_goals rfl
    rw [e]
    exact hb rfl
theorem if_join {E : σ → List D → Prop} {x : σ} {c : CE} {a b : CSs} {t : Bool} (h : evT Φ c ρ = some t) (ha : t = true → NX E x (evSs Φ a ρ)) (hb : t = false → NX E x (evSs Φ b ρ)) : ∃ ρ', evS Φ (.ife c a b) ρ = some (.nx ρ') ∧ E x ρ' := by
  cases t with
  | true =>
    obtain ⟨ρ', h1, h2⟩ := ha rfl
    refine ⟨ρ', ?_, h2⟩
    rw [evS, h, Option.bind_some, if_pos rfl, h1]
  | false =>
    obtain ⟨ρ', h1, h2⟩ := hb rfl
    refine ⟨ρ', ?_, h2⟩
    rw [evS, h, Option.bind_some, if_neg (by decide), h1]
/-! ends -/
theorem rt_ret {e : τ → D} {r : τ} {x : CE} (h : evE Φ x ρ = some (e r)) : RT e r (evSs Φ (.cons (.ret x) ss) ρ) := by
  refine .inl ?_
  rw [evSs, evS, h]
  rfl
theorem rt_retN {e : τ → D} {r : τ} (h : e r = .non) : RT e r (evSs Φ (.cons .retN ss) ρ) := by
  refine .inl ?_
  rw [evSs, evS, h]
  rfl
theorem rt_nil {e : τ → D} {r : τ} (h : e r = .non) : RT e r (evSs Φ .nil ρ) := .inr ⟨h, ρ, by rw [evSs]⟩
theorem rt_rt {e : τ → D} {r : τ} : RT e r (some (.rt (e r))) := .inl rfl
theorem nx_nil {E : σ → List D → Prop} {x : σ} (h : E x ρ) : NX E x (evSs Φ .nil ρ) := ⟨ρ, by rw [evSs], h⟩
theorem fx_nil {E : σ → List D → Prop} {e : τ → D} {x : σ} (h : E x ρ) : FX E e (.nx x) (evSs Φ .nil ρ) := ⟨ρ, .inl (by rw [evSs]), h⟩
theorem fx_cnt {E : σ → List D → Prop} {e : τ → D} {x : σ} (h : E x ρ) : FX E e (.nx x) (evSs Φ (.cons .cnt ss) ρ) := ⟨ρ, .inr (by rw [evSs, evS]; rfl), h⟩
theorem fx_brk {E : σ → List D → Prop} {e : τ → D} {x : σ} (h : E x ρ) : FX E e (.bk x) (evSs Φ (.cons .brk ss) ρ) := ⟨ρ, by rw [evSs, evS]; rfl, h⟩
theorem fx_ret {E : σ → List D → Prop} {e : τ → D} {r : τ} {x : CE} (h : evE Φ x ρ = some (e r)) : FX E e (.rt r) (evSs Φ (.cons (.ret x) ss) ρ) := by
  show _ = _
  rw [evSs, evS, h]
  rfl
theorem fx_rt {E : σ → List D → Prop} {e : τ → D} {r : τ} : FX E e (.rt r) (some (.rt (e r))) := rfl
/-! ### statements -/
theorem s_set {i k : Nat} {e : CE} {d : D} (h : evE Φ e ρ = some d) : evS Φ (.set i k e) ρ = some (.nx (ρ.set i d)) := s_set' h
theorem s_frz {is : List Nat} : evS Φ (.frz is) ρ = some (.nx ρ) := by rw [evS]
theorem s_pas : evS Φ .pas ρ = some (.nx ρ) := by rw [evS]
theorem s_doc : evS Φ .doc ρ = some (.nx ρ) := by rw [evS]
theorem s_asg {p : PL} {e : CE} {d : D} (h : evE Φ e ρ = some d) (h2 : asgP Φ p d ρ = some ρ') : evS Φ (.asg p e) ρ = some (.nx ρ') := by
  rw [evS, h, Option.bind_some, h2]
  rfl
theorem s_par2 {i j k l : Nat} {a b : CE} {x y : D} (h : evE Φ a ρ = some x) (h2 : evE Φ b ρ = some y) : evS Φ (.par2 i j k l a b) ρ = some (.nx ((ρ.set i x).set j y)) := by
  rw [evS, h, Option.bind_some, h2]
  rfl
theorem s_par3 {i j l ki kj kl : Nat} {a b c : CE} {x y z : D} (h : evE Φ a ρ = some x) (h2 : evE Φ b ρ = some y) (h3 : evE Φ c ρ = some z) : evS Φ (.par3 i j l ki kj kl a b c) ρ = some (.nx (((ρ.set i x).set j y).set l z)) := by
  rw [evS, h, Option.bind_some, h2, Option.bind_some, h3]
  rfl
theorem s_par4 {i j l m ki kj kl km : Nat} {a b c d : CE} {x y z w : D} (h : evE Φ a ρ = some x) (h2 : evE Φ b ρ = some y) (h3 : evE Φ c ρ = some z) (h4 : evE Φ d ρ = some w) : evS Φ (.par4 i j l m ki kj kl km a b c d) ρ = some (.nx ((((ρ.set i x).set j y).set l z).set m w)) := by
  rw [evS, h, Option.bind_some, h2, Option.bind_some, h3, Option.bind_some, h4]
  rfl
theorem s_augA {i : Nat} {e : CE} {a b : Int} (h : getV ρ i = some (.int a)) (h2 : evE Φ e ρ = some (.int b)) : evS Φ (.aug i false e) ρ = some (.nx (ρ.set i (.int (a + b)))) := by
  rw [evS, h, Option.bind_some, h2, Option.bind_some]
  rfl
theorem s_augS {i : Nat} {e : CE} {a b : Int} (h : getV ρ i = some (.int a)) (h2 : evE Φ e ρ = some (.int b)) : evS Φ (.aug i true e) ρ = some (.nx (ρ.set i (.int (a - b)))) := by
  rw [evS, h, Option.bind_some, h2, Option.bind_some]
  rfl
theorem app_D {e : α → D} {xs zs : List α} {y : α} (h : appO xs y = some zs) : appD (eL e xs) (e y) = some (eL e zs) := by
  unfold appO at h
  split at h
  · cases h
    rename_i q
    show (if (xs.map e).length < SL then some (D.lst (xs.map e ++ [e y])) else none) = _
    rw [List.length_map, if_pos q, eL, List.map_append]
    rfl
  · cases h
theorem s_app {i k : Nat} {x : CE} {e : α → D} {xs zs : List α} {y : α} (h : getV ρ i = some (eL e xs)) (h2 : evE Φ x ρ = some (e y)) (h3 : appO xs y = some zs) : evS Φ (.app i k x) ρ = some (.nx (ρ.set i (eL e zs))) := by
  rw [evS, h, Option.bind_some, h2, Option.bind_some, app_D h3]
  rfl
/-- the last one taken off -/
def popO {α : Type} (xs : List α) : Option (List α × α) := (xs[xs.length - 1]?).map fun y => (xs.dropLast, y)
theorem s_popa {i : Nat} {p : PL} {e : α → D} {xs : List α} {q : List α × α} (h : getV ρ i = some (eL e xs)) (hp : popO xs = some q) (h2 : asgP Φ p (e q.2) (ρ.set i (eL e q.1)) = some ρ') : evS Φ (.popa i p) ρ = some (.nx ρ') := by
  unfold popO at hp
  obtain ⟨y, hy, rfl⟩ := map_some' hp
  rw [evS, h, Option.bind_some]
  have : popD (eL e xs) = some (eL e xs.dropLast, e y) := by
    show ((xs.map e)[(xs.map e).length - 1]?).map (fun y => (D.lst (xs.map e).dropLast, y)) = _
    rw [List.length_map, List.getElem?_map, hy, ← List.map_dropLast]
    rfl
  rw [this, Option.bind_some, h2]
  rfl
def insO {α : Type} (xs : List α) (n : Int) (y : α) : Option (List α) := if xs.length < SL ∧ 0 ≤ n ∧ n < 2 ^ 63 then some (xs.take n.toNat ++ [y] ++ xs.drop n.toNat) else none
theorem s_ins {i : Nat} {j x : CE} {e : α → D} {xs zs : List α} {n : Int} {y : α} (h : getV ρ i = some (eL e xs)) (hj : evE Φ j ρ = some (.int n)) (h2 : evE Φ x ρ = some (e y)) (h3 : insO xs n y = some zs) : evS Φ (.ins i j x) ρ = some (.nx (ρ.set i (eL e zs))) := by
  rw [evS, h, Option.bind_some, hj, Option.bind_some, h2, Option.bind_some]
  unfold insO at h3
  split at h3
  · cases h3
    rename_i q
    have : insD (eL e xs) (.int n) (e y) = some (eL e (xs.take n.toNat ++ [y] ++ xs.drop n.toNat)) := by
      show (if (xs.map e).length < SL ∧ 0 ≤ n ∧ n < 2 ^ 63 then some (D.lst ((xs.map e).take n.toNat ++ [e y] ++ (xs.map e).drop n.toNat)) else none) = _
      rw [List.length_map, if_pos q, ← List.map_take, ← List.map_drop]
      simp [eL]
    rw [this]
    rfl
  · cases h3
theorem s_ext {i k : Nat} {x : CE} {e : α → D} {xs ys zs : List α} (h : getV ρ i = some (eL e xs)) (h2 : evE Φ x ρ = some (eL e ys)) (h3 : catO xs ys = some zs) : evS Φ (.ext i k x) ρ = some (.nx (ρ.set i (eL e zs))) := by
  rw [evS, h, Option.bind_some, h2, Option.bind_some]
  unfold catO at h3
  split at h3
  · cases h3
    rename_i q
    show ((if (xs.map e).length + (ys.map e).length ≤ SL then some (D.lst (xs.map e ++ ys.map e)) else none).map fun z => Out.nx (ρ.set i z)) = _
    rw [List.length_map, List.length_map, if_pos q, eL, List.map_append]
    rfl
  · cases h3
theorem sto_D {e : α → D} {xs zs : List α} {n : Int} {y : α} (h : setI xs n y = some zs) : stoD (eL e xs) (.int n) (e y) = some (eL e zs) := by
  unfold setI at h
  show (ixN (xs.map e).length n).map _ = _
  rw [List.length_map]
  cases hq : ixN xs.length n with
  | none => rw [hq] at h; cases h
  | some j =>
    rw [hq] at h
    cases h
    show some (D.lst ((xs.map e).set j (e y))) = _
    rw [set_map]
theorem in_D {f : D → Option D} {e : α → D} {xs zs : List α} {n : Int} {x x' : α} (h : atI xs n = some x) (hf : f (e x) = some (e x')) (h2 : setI xs n x' = some zs) : inD f (eL e xs) (.int n) = some (eL e zs) := by
  unfold setI at h2
  unfold atI at h
  show (ixN (xs.map e).length n).bind _ = _
  rw [List.length_map]
  cases hq : ixN xs.length n with
  | none => rw [hq] at h; cases h
  | some j =>
    rw [hq] at h h2
    cases h2
    have h : xs[j]? = some x := h
    show ((xs.map e)[j]?).bind _ = _
    rw [List.getElem?_map, h]
    show (f (e x)).map _ = _
    rw [hf]
    show some (D.lst ((xs.map e).set j (e x'))) = _
    rw [set_map]
theorem s_sto {i k : Nat} {j x : CE} {e : α → D} {xs zs : List α} {n : Int} {y : α} (h : getV ρ i = some (eL e xs)) (hj : evE Φ j ρ = some (.int n)) (h2 : evE Φ x ρ = some (e y)) (h3 : setI xs n y = some zs) : evS Φ (.sto i k j x) ρ = some (.nx (ρ.set i (eL e zs))) := by
  rw [evS, h2, Option.bind_some, h, Option.bind_some, hj, Option.bind_some, sto_D h3]
  rfl
theorem s_sto1 {i k : Nat} {j l x : CE} {e : α → D} {xs : List (List α)} {zs : List (List α)} {row row' : List α} {n m : Int} {y : α} (h : getV ρ i = some (eL (eL e) xs)) (hj : evE Φ j ρ = some (.int n)) (hl : evE Φ l ρ = some (.int m)) (h2 : evE Φ x ρ = some (e y))
    (h3 : atI xs n = some row) (h4 : setI row m y = some row') (h5 : setI xs n row' = some zs) : evS Φ (.sto1 i k j l x) ρ = some (.nx (ρ.set i (eL (eL e) zs))) := by
  rw [evS, h2, Option.bind_some, h, Option.bind_some, hj, Option.bind_some, hl, Option.bind_some, in_D (e := eL e) (x := row) (x' := row') h3 (sto_D h4) h5]
  rfl
theorem s_app1 {i k : Nat} {j x : CE} {e : α → D} {xs : List (List α)} {zs : List (List α)} {row row' : List α} {n : Int} {y : α} (h : getV ρ i = some (eL (eL e) xs)) (hj : evE Φ j ρ = some (.int n)) (h2 : evE Φ x ρ = some (e y))
    (h3 : atI xs n = some row) (h4 : appO row y = some row') (h5 : setI xs n row' = some zs) : evS Φ (.app1 i k j x) ρ = some (.nx (ρ.set i (eL (eL e) zs))) := by
  rw [evS, h, Option.bind_some, hj, Option.bind_some, h2, Option.bind_some, in_D (e := eL e) (x := row) (x' := row') h3 (app_D h4) h5]
  rfl
theorem s_augsA {i : Nat} {j x : CE} {xs zs : List Int} {n a b : Int} (h : getV ρ i = some (eL eI xs)) (hj : evE Φ j ρ = some (.int n)) (h2 : evE Φ x ρ = some (.int b)) (h3 : atI xs n = some a) (h4 : setI xs n (a + b) = some zs) : evS Φ (.augs i false j x) ρ = some (.nx (ρ.set i (eL eI zs))) := by
  rw [evS, h, Option.bind_some, hj, Option.bind_some, h2, Option.bind_some, in_D (e := eI) (x := a) (x' := a + b) h3 rfl h4]
  rfl
theorem s_augsS {i : Nat} {j x : CE} {xs zs : List Int} {n a b : Int} (h : getV ρ i = some (eL eI xs)) (hj : evE Φ j ρ = some (.int n)) (h2 : evE Φ x ρ = some (.int b)) (h3 : atI xs n = some a) (h4 : setI xs n (a - b) = some zs) : evS Φ (.augs i true j x) ρ = some (.nx (ρ.set i (eL eI zs))) := by
  rw [evS, h, Option.bind_some, hj, Option.bind_some, h2, Option.bind_some, in_D (e := eI) (x := a) (x' := a - b) h3 rfl h4]
  rfl
/-! places -/
theorem pl_nm {i : Nat} {d : D} (h : D.isBad d = false) : asgP Φ (.nm i) d ρ = some (ρ.set i d) := by
  rw [asgP, h]
  rfl
theorem pl_sub {i : Nat} {j : CE} {e : α → D} {xs zs : List α} {n : Int} {y : α} (h : getV ρ i = some (eL e xs)) (hj : evE Φ j ρ = some (.int n)) (h3 : setI xs n y = some zs) : asgP Φ (.sub i j) (e y) ρ = some (ρ.set i (eL e zs)) := by
  rw [asgP, h, Option.bind_some, hj, Option.bind_some, sto_D h3]
  rfl
theorem pl_2 {a b : PL} {x y : D} {ρ1 ρ2 : List D} (h1 : asgP Φ a x ρ = some ρ1) (h2 : asgP Φ b y ρ1 = some ρ2) : asgP Φ (.two a b) (.tup [x, y]) ρ = some ρ2 := by
  rw [asgP]
  show (asgP Φ a x ρ).bind (asgP Φ b y) = _
  rw [h1]
  exact h2
theorem pl_3 {a b c : PL} {x y z : D} {ρ1 ρ2 ρ3 : List D} (h1 : asgP Φ a x ρ = some ρ1) (h2 : asgP Φ b y ρ1 = some ρ2) (h3 : asgP Φ c z ρ2 = some ρ3) : asgP Φ (.three a b c) (.tup [x, y, z]) ρ = some ρ3 := by
  rw [asgP]
  show ((asgP Φ a x ρ).bind fun ρ => (asgP Φ b y ρ).bind (asgP Φ c z)) = _
  rw [h1, Option.bind_some, h2]
  exact h3
def l3O {α : Type} : List α → Option (α × α × α)
  | [x, y, z] => some (x, y, z)
  | _ => none
theorem pl_l3 {e : α → D} {xs : List α} {q : α × α × α} {a b c : PL} {ρ1 ρ2 ρ3 : List D} (h : l3O xs = some q) (h1 : asgP Φ a (e q.1) ρ = some ρ1) (h2 : asgP Φ b (e q.2.1) ρ1 = some ρ2) (h3 : asgP Φ c (e q.2.2) ρ2 = some ρ3) : asgP Φ (.thrl a b c) (eL e xs) ρ = some ρ3 := by
  unfold l3O at h
  split at h
  · cases h
    rw [asgP]
    show ((asgP Φ a _ ρ).bind fun ρ => (asgP Φ b _ ρ).bind (asgP Φ c _)) = _
    rw [h1, Option.bind_some, h2]
    exact h3
  · cases h
theorem pl_4 {a b c g : PL} {x y z w : D} {ρ1 ρ2 ρ3 ρ4 : List D} (h1 : asgP Φ a x ρ = some ρ1) (h2 : asgP Φ b y ρ1 = some ρ2) (h3 : asgP Φ c z ρ2 = some ρ3) (h4 : asgP Φ g w ρ3 = some ρ4) : asgP Φ (.four a b c g) (.tup [x, y, z, w]) ρ = some ρ4 := by
  rw [asgP]
  show ((asgP Φ a x ρ).bind fun ρ => (asgP Φ b y ρ).bind fun ρ => (asgP Φ c z ρ).bind (asgP Φ g w)) = _
  rw [h1, Option.bind_some, h2, Option.bind_some, h3]
  exact h4
/-! ### loops -/
theorem forD_N {f : D → List D → Option Out} {e : α → D} {E : σ → List D → Prop} {step : σ → α → Option σ} (hb : ∀ s x s' ρ, E s ρ → step s x = some s' → NX E s' (f (e x) ρ)) :
    ∀ (xs : List α) (s s1 : σ) (ρ : List D), E s ρ → foldO step xs s = some s1 → ∃ ρ', forD f (xs.map e) ρ = some (.nx ρ') ∧ E s1 ρ'
  | [], s, s1, ρ, h, hs => by cases hs; exact ⟨ρ, rfl, h⟩
  | x :: xs, s, s1, ρ, h, hs => by
    obtain ⟨s', h1, h2⟩ := bnd hs
    obtain ⟨ρ1, h3, h4⟩ := hb s x s' ρ h h1
    obtain ⟨ρ2, h5, h6⟩ := forD_N hb xs s' s1 ρ1 h4 h2
    refine ⟨ρ2, ?_, h6⟩
    rw [List.map_cons, forD, h3]
    exact h5
theorem for_N {tg : Tgt} {it : CI} {b : CSs} {e : α → D} {E : σ → List D → Prop} {step : σ → α → Option σ} {xs : List α} {s0 s1 : σ} (hs : foldO step xs s0 = some s1) (hi : evI Φ it ρ = some (xs.map e)) (h0 : E s0 ρ)
    (hb : ∀ s x s' ρ, E s ρ → step s x = some s' → NX E s' ((asgD tg (e x) ρ).bind fun ρ' => evSs Φ b ρ')) : ∃ ρ', evS Φ (.for_ tg it b) ρ = some (.nx ρ') ∧ E s1 ρ' := by
  obtain ⟨ρ', h1, h2⟩ := forD_N (f := fun x ρ => (asgD tg x ρ).bind fun ρ' => evSs Φ b ρ') hb xs s0 s1 ρ h0 hs
  exact ⟨ρ', by rw [evS, hi, Option.bind_some, h1], h2⟩
theorem forD_X {f : D → List D → Option Out} {e : α → D} {E : σ → List D → Prop} {er : τ → D} {step : σ → α → Option (St σ τ)} (hb : ∀ s x o ρ, E s ρ → step s x = some o → FX E er o (f (e x) ρ)) :
    ∀ (xs : List α) (s : σ) (o : St σ τ) (ρ : List D), E s ρ → loopO step xs s = some o → FS E er o (forD f (xs.map e) ρ)
  | [], s, o, ρ, h, hs => by cases hs; exact ⟨ρ, rfl, h⟩
  | x :: xs, s, o, ρ, h, hs => by
    obtain ⟨o1, h1, h2⟩ := bnd hs
    have h3 := hb s x o1 ρ h h1
    rw [List.map_cons, forD]
    cases o1 with
    | nx s' =>
      obtain ⟨ρ1, h3 | h3, h4⟩ := h3
      · rw [h3]; exact forD_X hb xs s' o ρ1 h4 h2
      · rw [h3]; exact forD_X hb xs s' o ρ1 h4 h2
    | bk s' =>
      obtain ⟨ρ1, h3, h4⟩ := h3
      cases h2
      rw [h3]
      exact ⟨ρ1, rfl, h4⟩
    | rt r =>
      have h3 : _ = _ := h3
      cases h2
      rw [h3]
      rfl
theorem for_X {tg : Tgt} {it : CI} {b : CSs} {e : α → D} {E : σ → List D → Prop} {er : τ → D} {step : σ → α → Option (St σ τ)} {xs : List α} {s0 : σ} {o : St σ τ} (hs : loopO step xs s0 = some o) (hi : evI Φ it ρ = some (xs.map e)) (h0 : E s0 ρ)
    (hb : ∀ s x o ρ, E s ρ → step s x = some o → FX E er o ((asgD tg (e x) ρ).bind fun ρ' => evSs Φ b ρ')) : FS E er o (evS Φ (.for_ tg it b) ρ) := by
  have := forD_X (f := fun x ρ => (asgD tg x ρ).bind fun ρ' => evSs Φ b ρ') hb xs s0 o ρ h0 hs
  rw [evS, hi, Option.bind_some]
  exact this
theorem wh_X {c : CE} {b : CSs} {E : σ → List D → Prop} {er : τ → D} {cn : σ → Option Bool} {bn : σ → Option (St σ τ)} {s0 : σ} {o : St σ τ} (hs : whO cn bn s0 = some o) (h0 : E s0 ρ)
    (hc : ∀ s t ρ, E s ρ → cn s = some t → evT Φ c ρ = some t) (hb : ∀ s o ρ, E s ρ → bn s = some o → FX E er o (evSs Φ b ρ)) : FS E er o (evS Φ (.whl c b) ρ) := by
  rw [evS]
  revert ρ
  refine whO.partial_correctness cn bn (motive := fun s o => ∀ {ρ}, E s ρ → FS E er o (whD (evT Φ c) (evSs Φ b) ρ)) ?_ s0 o hs
  intro w ih s o h ρ hE
  rw [whD]
  cases hq : cn s with
  | none => rw [hq] at h; cases h
  | some t =>
    rw [hq] at h
    rw [hc s t ρ hE hq]
    cases t with
    | false => cases h; exact ⟨ρ, rfl, hE⟩
    | true =>
      dsimp only at h ⊢
      cases hq2 : bn s with
      | none => rw [hq2] at h; cases h
      | some o1 =>
        rw [hq2] at h
        have h3 := hb s o1 ρ hE hq2
        cases o1 with
        | nx s' =>
          obtain ⟨ρ1, h3 | h3, h4⟩ := h3
          · rw [h3]; exact ih _ _ h h4
          · rw [h3]; exact ih _ _ h h4
        | bk s' =>
          obtain ⟨ρ1, h3, h4⟩ := h3
          cases h
          rw [h3]
          exact ⟨ρ1, rfl, h4⟩
        | rt r =>
          have h3 : _ = _ := h3
          cases h
          rw [h3]
          rfl
theorem tgb {tg : Tgt} {d : D} {b : CSs} {ρ1 : List D} (h : asgD tg d ρ = some ρ1) (h2 : G (evSs Φ b ρ1)) : G ((asgD tg d ρ).bind fun ρ' => evSs Φ b ρ') := by
  rw [h]
  exact h2
theorem run_RT {e : τ → D} {r : τ} {n np : Nat} {body : CSs} {ds : List D} (hl : ds.length = np) (h : RT e r (evSs Φ body (ds ++ List.replicate (n - np) .bad))) : runD Φ n np body ds = some (e r) := by
  unfold runD
  rw [if_pos hl]
  rcases h with h | ⟨h, ρ', h2⟩
  · rw [h]
  · rw [h2, h]
theorem then_ok {γ : Type} {o : St σ τ} {k : σ → Option γ} {r : τ → Option γ} {x : γ} (h : thenO o k r = some x) : (∃ s, o = .nx s ∧ k s = some x) ∨ ∃ y, o = .rt y ∧ r y = some x := by
  cases o with
  | nx s => exact .inl ⟨s, rfl, h⟩
  | rt y => exact .inr ⟨y, rfl, h⟩
  | bk s => cases h
end
end Nv

/-! What the printed proofs use; the row; likeness. -/
namespace Nv
open PySem PySem.Spec PyProof.Rows L2 Ev Ev.Pre
section
variable {Φ : Fns} {ρ : List D} {α β γ σ τ : Type} {G : Option Out → Prop} {s : CS} {ss : CSs}
def lcO (g : α → Option β) (xs : List α) : Option (List β) := (mapO g xs).bind lenO
def lcP (p : α → Bool) (g : α → Option β) (xs : List α) : Option (List β) := (mapO g (xs.filter p)).bind lenO
def lcM (p : α → Option Bool) (g : α → Option β) (xs : List α) : Option (List β) := (filtO p g xs).bind lenO
def lcF (g : α → Option (List β)) (xs : List α) : Option (List β) := (flatO g xs).bind lenO
theorem es_nil : evEs Φ .nil ρ = some [] := Ev.Pre.es_nil
theorem es_cons {e : CE} {es : CEs} {x : D} {xs : List D} (h : evE Φ e ρ = some x) (h2 : evEs Φ es ρ = some xs) : evEs Φ (.cons e es) ρ = some (x :: xs) := Ev.Pre.es_cons h h2
theorem e_idx {a i : CE} {x y d : D} (h : evE Φ a ρ = some x) (h2 : evE Φ i ρ = some y) (h3 : idxD x y = some d) : evE Φ (.idx a i) ρ = some d := Ev.Pre.e_idx h h2 h3
theorem e_tup {es : CEs} {xs : List D} (h : evEs Φ es ρ = some xs) : evE Φ (.tup es) ρ = some (.tup xs) := Ev.Pre.e_tup h
theorem e_not {a : CE} {b : Bool} (h : evE Φ a ρ = some (.bl b)) : evE Φ (.not a) ρ = some (.bl (!b)) := Ev.Pre.e_not h
theorem e_neg {a : CE} {i : Int} (h : evE Φ a ρ = some (.int i)) : evE Φ (.neg a) ρ = some (.int (-i)) := Ev.Pre.e_neg h
theorem e_rvT {e : α → D} {a : CE} {xs : List α} (h : evE Φ a ρ = some (eT e xs)) : evE Φ (.rvq true a) ρ = some (eT e xs.reverse) := by
  rw [evE, h, Option.bind_some]
  show some (D.tup (xs.map e).reverse) = _
  rw [← List.map_reverse]
theorem e_rvL {e : α → D} {a : CE} {xs : List α} (h : evE Φ a ρ = some (eL e xs)) : evE Φ (.rvq false a) ρ = some (eL e xs.reverse) := by
  rw [evE, h, Option.bind_some]
  show some (D.lst (xs.map e).reverse) = _
  rw [← List.map_reverse]
/-- sorted(set(ints)) -/
def sstO (xs : List Int) : Option (List Int) := if xs.length < 4000 then some (ddU xs) else none
theorem pureInts_map : ∀ xs : List Int, pureInts (xs.map eI) = some xs
  | [] => rfl
  | x :: xs => by
    show (pureInts (xs.map eI)).map (x :: ·) = _
    rw [pureInts_map xs]
    rfl
theorem e_sst {a : CE} {xs zs : List Int} (h : evE Φ a ρ = some (eL eI xs)) (h2 : sstO xs = some zs) : evE Φ (.sst a) ρ = some (eL eI zs) := by
  unfold sstO at h2
  split at h2
  · cases h2
    rename_i q
    rw [evE, h, Option.bind_some]
    show (pureInts (xs.map eI)).bind _ = _
    rw [pureInts_map, Option.bind_some, if_pos q]
  · cases h2
/-- list(zip(..)) -/
def lzpO {α β : Type} (xs : List α) (ys : List β) : Option (List (α × β)) := if xs.length = ys.length then some (xs.zip ys) else none
theorem e_lzp {e : α → D} {f : β → D} {a b : CE} {xs : List α} {ys : List β} {zs : List (α × β)} (h : evE Φ a ρ = some (eT e xs)) (h2 : evE Φ b ρ = some (eT f ys)) (h3 : lzpO xs ys = some zs) : evE Φ (.lzp a b) ρ = some (eL (eP (rc e (r1 f))) zs) := by
  unfold lzpO at h3
  split at h3
  · cases h3
    rename_i q
    rw [evE, h, Option.bind_some, h2, Option.bind_some]
    show (if (xs.map e).length = (ys.map f).length then some (D.lst (zipD (xs.map e) (ys.map f))) else none) = _
    rw [List.length_map, List.length_map, if_pos q, zip_map]
  · cases h3
theorem rgD1_ok {hi : Int} {xs : List Int} (h : rangeO 0 hi = some xs) : rgD [.int hi] = some (xs.map eI) := by
  have := i_rng1 (Φ := []) (ρ := []) (a := .int hi) rfl h
  rw [evI, evEs, evE, evEs, Option.bind_some, Option.map_some, Option.bind_some] at this
  exact this
theorem rgD2_ok {lo hi : Int} {xs : List Int} (h : rangeO lo hi = some xs) : rgD [.int lo, .int hi] = some (xs.map eI) := by
  have := i_rng2 (Φ := []) (ρ := []) (a := .int lo) (b := .int hi) rfl rfl h
  rw [evI, evEs, evE, evEs, evE, evEs, Option.bind_some, Option.bind_some, Option.map_some, Option.map_some, Option.bind_some] at this
  exact this
theorem tol_ok {t : Bool} {xs ys : List Int} (h : lenO xs = some ys) : tolD t (xs.map eI) = some (if t then eT eI ys else eL eI ys) := by
  unfold lenO at h
  split at h
  · cases h
    rename_i q
    unfold tolD
    rw [List.length_map, if_pos q]
  · cases h
theorem e_rgs1 {t : Bool} {a : CE} {hi : Int} {xs ys : List Int} (ha : evE Φ a ρ = some (.int hi)) (h : rangeO 0 hi = some xs) (h2 : lenO xs = some ys) : evE Φ (.rgs1 t a) ρ = some (if t then eT eI ys else eL eI ys) := by
  rw [evE, ha, Option.bind_some, rgD1_ok h, Option.bind_some, tol_ok h2]
theorem e_rgs2 {t : Bool} {a b : CE} {lo hi : Int} {xs ys : List Int} (ha : evE Φ a ρ = some (.int lo)) (hb : evE Φ b ρ = some (.int hi)) (h : rangeO lo hi = some xs) (h2 : lenO xs = some ys) : evE Φ (.rgs2 t a b) ρ = some (if t then eT eI ys else eL eI ys) := by
  rw [evE, ha, Option.bind_some, hb, Option.bind_some, rgD2_ok h, Option.bind_some, tol_ok h2]
theorem co_O {e : α → D} {e' : β → D} {f : α → β} (h : ∀ x, e x = e' (f x)) (v : Option α) : eO e v = eO e' (v.map f) := by
  cases v with
  | none => rfl
  | some x => exact h x
theorem co_map {e : α → D} {e' : β → D} {f : α → β} (h : ∀ x, e x = e' (f x)) (v : List α) : v.map e = (v.map f).map e' := by
  induction v with
  | nil => rfl
  | cons a v ih => rw [List.map_cons, List.map_cons, List.map_cons, h, ih]
theorem co_L {e : α → D} {e' : β → D} {f : α → β} (h : ∀ x, e x = e' (f x)) (v : List α) : eL e v = eL e' (v.map f) := congrArg D.lst (co_map h v)
theorem co_T {e : α → D} {e' : β → D} {f : α → β} (h : ∀ x, e x = e' (f x)) (v : List α) : eT e v = eT e' (v.map f) := congrArg D.tup (co_map h v)
theorem cv {c : CE} {d d' : D} (h : evE Φ c ρ = some d) (q : d = d') : evE Φ c ρ = some d' := by rw [h, q]
theorem sv {e : α → D} {v x : α} {c : CE} (h : some v = some x) (p : evE Φ c ρ = some (e v)) : evE Φ c ρ = some (e x) := by cases h; exact p
theorem tsv {v x : Bool} {c : CE} (h : some v = some x) (p : evT Φ c ρ = some v) : evT Φ c ρ = some x := by cases h; exact p
theorem nx_nil' {E : σ → List D → Prop} {v x : σ} (hh : some v = some x) (h : E v ρ) : NX E x (evSs Φ .nil ρ) := by cases hh; exact nx_nil h
theorem fx_nil' {E : σ → List D → Prop} {e : τ → D} {v : σ} {x : St σ τ} (hh : some (.nx v) = some x) (h : E v ρ) : FX E e x (evSs Φ .nil ρ) := by cases hh; exact fx_nil h
theorem fx_cnt' {E : σ → List D → Prop} {e : τ → D} {v : σ} {x : St σ τ} (hh : some (.nx v) = some x) (h : E v ρ) : FX E e x (evSs Φ (.cons .cnt ss) ρ) := by cases hh; exact fx_cnt h
theorem fx_brk' {E : σ → List D → Prop} {e : τ → D} {v : σ} {x : St σ τ} (hh : some (.bk v) = some x) (h : E v ρ) : FX E e x (evSs Φ (.cons .brk ss) ρ) := by cases hh; exact fx_brk h
theorem fx_ret' {E : σ → List D → Prop} {e : τ → D} {r : τ} {x : St σ τ} {c : CE} (hh : some (.rt r) = some x) (h : evE Φ c ρ = some (e r)) : FX E e x (evSs Φ (.cons (.ret c) ss) ρ) := by cases hh; exact fx_ret h
theorem fx_rt' {E : σ → List D → Prop} {e : τ → D} {r : τ} {x : St σ τ} (hh : some (.rt r) = some x) : FX E e x (some (.rt (e r))) := by cases hh; exact fx_rt
def eU (e : α → D) : Option α → D
  | none => .bad
  | some x => e x
theorem e_varU {i : Nat} {e : α → D} {v : Option α} {x : α} (h : v = some x) (hv : ρ.getD i .bad = eU e v) (hn : D.isBad (e x) = false) : evE Φ (.var i) ρ = some (e x) := by
  rw [evE]
  show D.ok (ρ.getD i .bad) = _
  rw [hv, h]
  exact ok_nb hn
theorem augx {i : Nat} {v x : Int} {s : CS} (h : some v = some x) (p : evS Φ s ρ = some (.nx (ρ.set i (.int v)))) : evS Φ s ρ = some (.nx (ρ.set i (.int x))) := by cases h; exact p
theorem uw {e : α → D} {v : Option α} {x : α} {c : CE} (h : v = some x) (p : evE Φ c ρ = some (eO e v)) : evE Φ c ρ = some (e x) := by rw [p, unO h]
theorem ift {t : Bool} {a b : Option α} {r : α} (hc : t = true) (h : (if t then a else b) = some r) : a = some r := by subst hc; exact h
theorem iff_ {t : Bool} {a b : Option α} {r : α} (hc : t = false) (h : (if t then a else b) = some r) : b = some r := by subst hc; exact h
theorem then_nx {o : St σ τ} {x : σ} {k : σ → Option γ} {r : τ → Option γ} {y : γ} (ho : o = .nx x) (h : thenO o k r = some y) : k x = some y := by subst ho; exact h
theorem then_rt {o : St σ τ} {x : τ} {k : σ → Option γ} {r : τ → Option γ} {y : γ} (ho : o = .rt x) (h : thenO o k r = some y) : r x = some y := by subst ho; exact h
theorem stp_N {E : σ → List D → Prop} {x : σ} (hN : ∃ ρ', evS Φ s ρ = some (.nx ρ') ∧ E x ρ') (h : ∀ ρ', E x ρ' → G (evSs Φ ss ρ')) : G (evSs Φ (.cons s ss) ρ) := by
  obtain ⟨ρ', h1, h2⟩ := hN
  exact stp h1 (h ρ' h2)
theorem stp_F {E : σ → List D → Prop} {er : τ → D} {o : St σ τ} (hF : FS E er o (evS Φ s ρ)) (hn : ∀ x, o = .nx x → ∀ ρ', E x ρ' → G (evSs Φ ss ρ')) (hr : ∀ r, o = .rt r → G (some (.rt (er r)))) : G (evSs Φ (.cons s ss) ρ) := by
  cases o with
  | nx x =>
    obtain ⟨ρ', h1, h2⟩ := hF
    exact stp h1 (hn x rfl ρ' h2)
  | bk x => exact hF.elim
  | rt r => exact stp_rt hF (hr r rfl)
theorem stp_for {tg : Tgt} {it : CI} {b : CSs} {e : α → D} {E : σ → List D → Prop} {step : σ → α → Option σ} {xs : List α} {s0 s1 : σ} (hs : foldO step xs s0 = some s1) (hi : evI Φ it ρ = some (xs.map e)) (h0 : E s0 ρ)
    (hb : ∀ s x s' ρ, E s ρ → step s x = some s' → NX E s' ((asgD tg (e x) ρ).bind fun ρ' => evSs Φ b ρ')) (h : ∀ ρ', E s1 ρ' → G (evSs Φ ss ρ')) : G (evSs Φ (.cons (.for_ tg it b) ss) ρ) := stp_N (for_N hs hi h0 hb) h
theorem stp_ifj {E : σ → List D → Prop} {x : σ} {c : CE} {a b : CSs} {t : Bool} (h : evT Φ c ρ = some t) (ha : t = true → NX E x (evSs Φ a ρ)) (hb : t = false → NX E x (evSs Φ b ρ)) (h2 : ∀ ρ', E x ρ' → G (evSs Φ ss ρ')) : G (evSs Φ (.cons (.ife c a b) ss) ρ) := stp_N (if_join h ha hb) h2
theorem stp_forX {tg : Tgt} {it : CI} {b : CSs} {e : α → D} {E : σ → List D → Prop} {er : τ → D} {step : σ → α → Option (St σ τ)} {xs : List α} {s0 : σ} {o : St σ τ} (hs : loopO step xs s0 = some o) (hi : evI Φ it ρ = some (xs.map e)) (h0 : E s0 ρ)
    (hb : ∀ s x o ρ, E s ρ → step s x = some o → FX E er o ((asgD tg (e x) ρ).bind fun ρ' => evSs Φ b ρ')) (hn : ∀ x, o = .nx x → ∀ ρ', E x ρ' → G (evSs Φ ss ρ')) (hr : ∀ r, o = .rt r → G (some (.rt (er r)))) : G (evSs Φ (.cons (.for_ tg it b) ss) ρ) := stp_F (for_X hs hi h0 hb) hn hr
theorem stp_wh {c : CE} {b : CSs} {E : σ → List D → Prop} {er : τ → D} {cn : σ → Option Bool} {bn : σ → Option (St σ τ)} {s0 : σ} {o : St σ τ} (hs : whO cn bn s0 = some o) (h0 : E s0 ρ)
    (hc : ∀ s t ρ, E s ρ → cn s = some t → evT Φ c ρ = some t) (hb : ∀ s o ρ, E s ρ → bn s = some o → FX E er o (evSs Φ b ρ)) (hn : ∀ x, o = .nx x → ∀ ρ', E x ρ' → G (evSs Φ ss ρ')) (hr : ∀ r, o = .rt r → G (some (.rt (er r)))) : G (evSs Φ (.cons (.whl c b) ss) ρ) := stp_F (wh_X hs h0 hc hb) hn hr
theorem fs_nil' {E : σ → List D → Prop} {e : τ → D} {v : σ} {x : St σ τ} (hh : some (.nx v) = some x) (h : E v ρ) : FS E e x (evSs Φ .nil ρ) := by cases hh; exact ⟨ρ, by rw [evSs], h⟩
theorem fs_ret' {E : σ → List D → Prop} {e : τ → D} {r : τ} {x : St σ τ} {c : CE} (hh : some (.rt r) = some x) (h : evE Φ c ρ = some (e r)) : FS E e x (evSs Φ (.cons (.ret c) ss) ρ) := by cases hh; exact fx_ret (E := E) h
theorem fs_rt' {E : σ → List D → Prop} {e : τ → D} {r : τ} {x : St σ τ} (hh : some (.rt r) = some x) : FS E e x (some (.rt (e r))) := by cases hh; exact rfl
theorem stp_ifX {E : σ → List D → Prop} {er : τ → D} {o : St σ τ} {c : CE} {a b : CSs} {t : Bool} (h : evT Φ c ρ = some t) (ha : t = true → FS E er o (evSs Φ a ρ)) (hb : t = false → FS E er o (evSs Φ b ρ))
    (hn : ∀ x, o = .nx x → ∀ ρ', E x ρ' → G (evSs Φ ss ρ')) (hr : ∀ r, o = .rt r → G (some (.rt (er r)))) : G (evSs Φ (.cons (.ife c a b) ss) ρ) := by
  refine stp_F (E := E) (er := er) (o := o) ?_ hn hr
  rw [evS, h, Option.bind_some]
  cases t with
  | true =>
    rw [if_pos rfl]
    exact ha rfl
  | false =>
    rw [if_neg (by decide)]
    exact hb rfl
theorem rtr {e : τ → D} {r y : τ} (h : some r = some y) : RT e y (some (.rt (e r))) := by cases h; exact .inl rfl
theorem lcN_ok {k : Nat} {elt : CE} {own : List (Str × Nat)} {tg : Tgt} {it : CI} {e : α → D} {e' : β → D} {g : α → Option β} {ρ1 : α → List D} {xs : List α} {zs : List β} (hm : lcO g xs = some zs) (hi : evI Φ it ρ = some (xs.map e))
    (ht : ∀ x, asgD tg (e x) (wipeD ρ (own.map (·.2))) = some (ρ1 x)) (he : ∀ x y, g x = some y → evE Φ elt (ρ1 x) = some (e' y)) : evE Φ (.lc k elt own tg it .no) ρ = some (eL e' zs) := by
  obtain ⟨ys, h1, h2⟩ := bnd hm
  exact e_lcN hi h1 h2 ht he
theorem lcP_ok {k : Nat} {elt c : CE} {own : List (Str × Nat)} {tg : Tgt} {it : CI} {e : α → D} {e' : β → D} {p : α → Bool} {g : α → Option β} {ρ1 : α → List D} {xs : List α} {zs : List β} (hm : lcP p g xs = some zs) (hi : evI Φ it ρ = some (xs.map e))
    (ht : ∀ x, asgD tg (e x) (wipeD ρ (own.map (·.2))) = some (ρ1 x)) (hp : ∀ x, evT Φ c (ρ1 x) = some (p x)) (he : ∀ x y, g x = some y → evE Φ elt (ρ1 x) = some (e' y)) : evE Φ (.lc k elt own tg it (.yes c)) ρ = some (eL e' zs) := by
  obtain ⟨ys, h1, h2⟩ := bnd hm
  exact e_lcP hi h1 h2 ht hp he
theorem lcM_ok {k : Nat} {elt c : CE} {own : List (Str × Nat)} {tg : Tgt} {it : CI} {e : α → D} {e' : β → D} {p : α → Option Bool} {g : α → Option β} {ρ1 : α → List D} {xs : List α} {zs : List β} (hm : lcM p g xs = some zs) (hi : evI Φ it ρ = some (xs.map e))
    (ht : ∀ x, asgD tg (e x) (wipeD ρ (own.map (·.2))) = some (ρ1 x)) (hp : ∀ x t, p x = some t → evT Φ c (ρ1 x) = some t) (he : ∀ x y, g x = some y → evE Φ elt (ρ1 x) = some (e' y)) : evE Φ (.lc k elt own tg it (.yes c)) ρ = some (eL e' zs) := by
  obtain ⟨ys, h1, h2⟩ := bnd hm
  exact e_lcM hi h1 h2 ht hp he
theorem lcF_ok {k : Nat} {elt : CE} {own : List (Str × Nat)} {tg tg1 : Tgt} {it it1 : CI} {c1 : CO} {e : α → D} {e' : β → D} {g : α → Option (List β)} {ρ1 : α → List D} {xs : List α} {zs : List β} (hm : lcF g xs = some zs) (hi : evI Φ it ρ = some (xs.map e))
    (ht : ∀ x, asgD tg (e x) (wipeD ρ (own.map (·.2))) = some (ρ1 x))
    (he : ∀ x y, g x = some y → ∃ ws : List D, evI Φ it1 (ρ1 x) = some ws ∧ Ev.collect (fun y => (asgD tg1 y (wipeD (ρ1 x) (tIx tg1))).bind fun ρ2 => (evC Φ c1 ρ2).bind fun t => if t then (evE Φ elt ρ2).map some else some none) ws = some (y.map e')) : evE Φ (.lc2 k elt own tg it .no tg1 it1 c1) ρ = some (eL e' zs) := by
  obtain ⟨ys, h1, h2⟩ := bnd hm
  exact e_lc2N (γ := α) (e1 := e) hi h1 h2 ht he
theorem lcG_ok {k : Nat} {elt c : CE} {own : List (Str × Nat)} {tg tg1 : Tgt} {it it1 : CI} {c1 : CO} {e : α → D} {e' : β → D} {p : α → Bool} {g : α → Option (List β)} {ρ1 : α → List D} {xs : List α} {zs : List β} (hm : lcF (fun x => if p x then g x else some []) xs = some zs) (hi : evI Φ it ρ = some (xs.map e))
    (ht : ∀ x, asgD tg (e x) (wipeD ρ (own.map (·.2))) = some (ρ1 x)) (hp : ∀ x, evT Φ c (ρ1 x) = some (p x))
    (he : ∀ x y, g x = some y → ∃ ws : List D, evI Φ it1 (ρ1 x) = some ws ∧ Ev.collect (fun y => (asgD tg1 y (wipeD (ρ1 x) (tIx tg1))).bind fun ρ2 => (evC Φ c1 ρ2).bind fun t => if t then (evE Φ elt ρ2).map some else some none) ws = some (y.map e')) : evE Φ (.lc2 k elt own tg it (.yes c) tg1 it1 c1) ρ = some (eL e' zs) := by
  obtain ⟨ys, h1, h2⟩ := bnd hm
  exact e_lc2P (γ := α) hi h1 h2 ht hp he
end
/-! ### the row -/
open Classical in
noncomputable def rowN (ns : List Int) (k : Int) : Option (List Int) :=
  if h : ∃ r : List Int, (r.length : Int) = k ∧ (∀ v ∈ r, inRow v) ∧ Pre.F__law_row [.scr (ns.map D.int), .int k] = some (.lst (r.map D.int)) then some (choose h) else none
theorem rowN_p {ns : List Int} {k : Int} {r : List Int} (h : rowN ns k = some r) : Pre.F__law_row [eC eI ns, .int k] = some (eL eI r) := by
  unfold rowN at h
  split at h
  · rename_i q
    have := Classical.choose_spec q
    cases h
    exact this.2.2
  · cases h
theorem rowN_ok {ns : List Int} (hl : ns.length ≤ 63) (k : Nat) (hk : k ≤ 1000) : ∃ r, rowN ns k = some r ∧ r.length = k ∧ ∀ v ∈ r, inRow v := by
  have q : ∃ r : List Int, (r.length : Int) = (k : Nat) ∧ (∀ v ∈ r, inRow v) ∧ Pre.F__law_row [.scr (ns.map D.int), .int (k : Nat)] = some (.lst (r.map D.int)) := by
    obtain ⟨r, h1, h2, h3⟩ := row_ok ns (by omega) k hk
    exact ⟨r, by omega, h2, h3⟩
  refine ⟨Classical.choose q, ?_, ?_, ?_⟩
  · unfold rowN
    rw [dif_pos q]
  · have := (Classical.choose_spec q).1
    omega
  · exact (Classical.choose_spec q).2.1
/-! ### likeness -/
def sm0 {α : Type} (_ : α) : Bool := true
def smT {α : Type} (s : α → Bool) (xs : List α) : Bool := decide (xs.length ≤ SL) && xs.all s
def smO {α : Type} (s : α → Bool) : Option α → Bool
  | none => true
  | some x => s x
def smc {α β : Type} (s : α → Bool) (r : β → Bool) (p : α × β) : Bool := s p.1 && r p.2
def OkS {α : Type} (d : Nat) (e : α → D) (s : α → Bool) : Prop := ∀ a, s a = true → okL d (e a)
def OkR {α : Type} (d : Nat) (r : α → List D) (s : α → Bool) (n : Nat) : Prop := ∀ a, s a = true → (r a).length = n ∧ ∀ x ∈ r a, okL d x
section
variable {α β : Type} {d : Nat}
theorem ok_I : OkS d eI sm0 := fun a _ => by unfold okL; trivial
theorem ok_B : OkS d eB sm0 := fun a _ => by unfold okL; trivial
theorem ok_N : OkS d eN sm0 := fun a _ => by unfold okL; trivial
theorem ok_O {e : α → D} {s : α → Bool} (h : OkS d e s) : OkS d (eO e) (smO s) := fun a q => by
  cases a with
  | none => unfold eO okL; trivial
  | some a => exact h a q
theorem ok_T {e : α → D} {s : α → Bool} (h : OkS d e s) : OkS (d + 1) (eT e) (smT s) := fun a q => by
  unfold smT at q
  rw [Bool.and_eq_true, decide_eq_true_eq, List.all_eq_true] at q
  show okL (d + 1) (.tup (a.map e))
  unfold okL
  refine ⟨by rw [List.length_map]; exact q.1, fun x hx => ?_⟩
  rw [List.mem_map] at hx
  obtain ⟨y, hy, rfl⟩ := hx
  exact h y (q.2 y hy)
theorem ok_r0 : OkR d r0 sm0 0 := fun a _ => ⟨rfl, fun x hx => by cases hx⟩
theorem ok_r1 {e : α → D} {s : α → Bool} (h : OkS d e s) : OkR d (r1 e) s 1 := fun a q => ⟨rfl, fun x hx => by
  have : x = e a := by simpa using hx
  rw [this]
  exact h a q⟩
theorem ok_rc {e : α → D} {s : α → Bool} {r : β → List D} {t : β → Bool} {n : Nat} (h : OkS d e s) (h2 : OkR d r t n) : OkR d (rc e r) (smc s t) (n + 1) := fun p q => by
  unfold smc at q
  rw [Bool.and_eq_true] at q
  have := h2 p.2 q.2
  refine ⟨by show (r p.2).length + 1 = _; rw [this.1], fun x hx => ?_⟩
  rcases List.mem_cons.mp hx with rfl | hx
  · exact h p.1 q.1
  · exact this.2 x hx
theorem ok_P {r : α → List D} {s : α → Bool} {n : Nat} (h : OkR d r s n) (hn : n ≤ 1000) : OkS (d + 1) (eP r) s := fun a q => by
  have := h a q
  show okL (d + 1) (.tup (r a))
  unfold okL
  exact ⟨by have hs : SL = 16777216 := rfl; omega, this.2⟩
def likeN {α : Type} [DecidableEq α] (s : α → Bool) (a b : α) : Option Bool := if a = b ∧ s a = true then some true else none
theorem likeN_p {α : Type} [DecidableEq α] {e : α → D} {s : α → Bool} {a b : α} {t : Bool} (ok : OkS 7 e s) (h : likeN s a b = some t) : Pre.F__law_like [e a, e b] = some (.bl t) := by
  unfold likeN at h
  split at h
  · cases h
    rename_i q
    obtain ⟨rfl, q⟩ := q
    exact like8 (ok a q)
  · cases h
theorem isint_I (a : Int) : Pre.F__law_is_int [eI a] = some (.bl true) := is_int a
theorem isint_O (a : Option Int) : Pre.F__law_is_int [eO eI a] = some (.bl a.isSome) := by
  cases a with
  | none => rfl
  | some a => exact is_int a
end
end Nv

namespace K17
open PySem PySem.Spec PyProof.Rows L2 Ev
def topS (i : Nat) : Stmt := PySem.Challenge.pw_gasheld_k17_whole_store_ways.main.body.getD i (.Pass ⟨0, 0, 0, 0⟩)
/-! store_steps -/
def C_store_steps : CSs := (.cons (.asg (.four (.nm 3) (.nm 4) (.nm 5) (.nm 6)) (.var 0)) (.cons (.par2 7 8 1 1 (.lst 0 .nil) (.lst 0 .nil)) (.cons (.for_ (.two (.nm 9) (.nm 10)) (.zip (.var 1) (.var 2)) (.cons (.ife (.cmp .ge (.var 9) (.var 10)) (.cons (.aug 6 false (.bi .min (.cons (.bin .sub (.var 9) (.var 10)) (.cons (.var 4) (.cons (.bin .sub (.var 3) (.var 6)) .nil))))) (.cons (.app 8 0 (.int 0)) .nil)) (.cons (.set 11 0 (.bi .min (.cons (.bin .sub (.var 10) (.var 9)) (.cons (.var 5) (.cons (.var 6) .nil))))) (.cons (.aug 6 true (.var 11)) (.cons (.app 8 0 (.bin .sub (.bin .sub (.var 10) (.var 9)) (.var 11))) .nil)))) (.cons (.app 7 0 (.var 6)) .nil))) (.cons (.ret (.tup (.cons (.bi .tupleL (.cons (.var 7) .nil)) (.cons (.bi .tupleL (.cons (.var 8) .nil)) .nil)))) .nil))))
abbrev N_store_steps : List Str := ["store", "got", "wanted", "room", "into", "out", "hold", "holds", "lacks", "come", "want", "given"]
def F_store_steps : List D → Option D := runD [] 12 3 C_store_steps
theorem ok_store_steps : okDef [] [] N_store_steps ["store", "got", "wanted"] 0 C_store_steps (topS 1) = true := by decide +kernel
/-! store_run -/
def C_store_run : CSs := (.cons (.ret (.idx (.call 0 (.cons (.var 0) (.cons (.var 1) (.cons (.var 2) .nil)))) (.int 0))) .nil)
abbrev N_store_run : List Str := ["store", "got", "wanted"]
def F_store_run : List D → Option D := runD [F_store_steps] 3 3 C_store_run
theorem ok_store_run : okDef ["store_steps"] [0] N_store_run ["store", "got", "wanted"] 0 C_store_run (topS 2) = true := by decide +kernel
/-! lacks_of -/
def C_lacks_of : CSs := (.cons (.ret (.idx (.call 0 (.cons (.var 0) (.cons (.var 1) (.cons (.var 2) .nil)))) (.int 1))) .nil)
abbrev N_lacks_of : List Str := ["store", "got", "wanted"]
def F_lacks_of : List D → Option D := runD [F_store_steps] 3 3 C_lacks_of
theorem ok_lacks_of : okDef ["store_steps"] [0] N_lacks_of ["store", "got", "wanted"] 0 C_lacks_of (topS 3) = true := by decide +kernel
/-! can_store -/
def C_can_store : CSs := (.cons (.ret (.not (.bi .any (.cons (.call 0 (.cons (.var 0) (.cons (.var 1) (.cons (.var 2) .nil)))) .nil)))) .nil)
abbrev N_can_store : List Str := ["store", "got", "wanted"]
def F_can_store : List D → Option D := runD [F_lacks_of] 3 3 C_can_store
theorem ok_can_store : okDef ["lacks_of"] [0] N_can_store ["store", "got", "wanted"] 0 C_can_store (topS 4) = true := by decide +kernel
/-! with_store_room -/
def C_with_store_room : CSs := (.cons (.ret (.tup (.cons (.var 1) (.cons (.idx (.var 0) (.int 1)) (.cons (.idx (.var 0) (.int 2)) (.cons (.bi .min (.cons (.idx (.var 0) (.int 3)) (.cons (.var 1) .nil))) .nil)))))) .nil)
abbrev N_with_store_room : List Str := ["store", "room"]
def F_with_store_room : List D → Option D := runD [] 2 2 C_with_store_room
theorem ok_with_store_room : okDef [] [] N_with_store_room ["store", "room"] 0 C_with_store_room (topS 5) = true := by decide +kernel
/-! least_room -/
def C_least_room : CSs := (.cons (.for_ (.nm 3) (.rg (.cons (.bin .add (.bin .add (.bi .max (.cons (.idx (.var 0) (.int 3)) (.cons (.int 0) .nil))) (.bi .sum (.cons (.var 1) .nil))) (.int 1)) .nil)) (.cons (.ife (.call 0 (.cons (.call 1 (.cons (.var 0) (.cons (.var 3) .nil))) (.cons (.var 1) (.cons (.var 2) .nil)))) (.cons (.ret (.var 3)) .nil) .nil) .nil)) (.cons (.ret .non) .nil))
abbrev N_least_room : List Str := ["store", "got", "wanted", "room"]
def F_least_room : List D → Option D := runD [F_can_store, F_with_store_room] 4 3 C_least_room
theorem ok_least_room : okDef ["can_store", "with_store_room"] [0, 0] N_least_room ["store", "got", "wanted"] 0 C_least_room (topS 6) = true := by decide +kernel
/-! least_first -/
def C_least_first : CSs := (.cons (.for_ (.nm 3) (.rg (.cons (.bin .add (.idx (.var 0) (.int 0)) (.int 1)) .nil)) (.cons (.ife (.call 0 (.cons (.bin .catT (.slc true (.var 0) .no (.yes (.int 3))) (.tup (.cons (.var 3) .nil))) (.cons (.var 1) (.cons (.var 2) .nil)))) (.cons (.ret (.var 3)) .nil) .nil) .nil)) (.cons (.ret .non) .nil))
abbrev N_least_first : List Str := ["store", "got", "wanted", "first"]
def F_least_first : List D → Option D := runD [F_can_store] 4 3 C_least_first
theorem ok_least_first : okDef ["can_store"] [0] N_least_first ["store", "got", "wanted"] 0 C_least_first (topS 7) = true := by decide +kernel
/-! reach_bounds -/
def C_reach_bounds : CSs := (.cons (.asg (.four (.nm 3) (.nm 4) (.nm 5) (.nm 6)) (.var 0)) (.cons (.par3 7 8 9 0 0 1 (.var 6) (.var 6) (.lst 0 .nil)) (.cons (.for_ (.two (.nm 10) (.nm 11)) (.zip (.var 1) (.var 2)) (.cons (.ife (.cmp .ge (.var 10) (.var 11)) (.cons (.set 8 0 (.bi .min (.cons (.var 3) (.cons (.bin .add (.var 8) (.bi .min (.cons (.bin .sub (.var 10) (.var 11)) (.cons (.var 4) .nil)))) .nil)))) .nil) (.cons (.set 12 0 (.bin .sub (.var 11) (.var 10))) (.cons (.ife (.or (.cmp .gt (.var 12) (.var 5)) (.cmp .gt (.var 12) (.var 8))) (.cons (.ret .non) .nil) .nil) (.cons (.par2 7 8 0 0 (.bin .sub (.bi .max (.cons (.var 7) (.cons (.var 12) .nil))) (.var 12)) (.bin .sub (.var 8) (.var 12))) .nil)))) (.cons (.app 9 0 (.tup (.cons (.var 7) (.cons (.var 8) .nil)))) .nil))) (.cons (.frz [9]) (.cons (.ret (.var 9)) .nil)))))
abbrev N_reach_bounds : List Str := ["store", "got", "wanted", "room", "into", "out", "first", "low", "high", "found", "come", "want", "need"]
def F_reach_bounds : List D → Option D := runD [] 13 3 C_reach_bounds
theorem ok_reach_bounds : okDef [] [] N_reach_bounds ["store", "got", "wanted"] 0 C_reach_bounds (topS 8) = true := by decide +kernel
/-! needs_behind -/
def C_needs_behind : CSs := (.cons (.par2 3 4 0 1 (.int 0) (.lst 0 .nil)) (.cons (.for_ (.two (.nm 5) (.nm 6)) (.rvs (.lzp (.var 1) (.var 2))) (.cons (.app 4 0 (.var 3)) (.cons (.set 3 0 (.ifx (.cmp .ge (.var 5) (.var 6)) (.bi .max (.cons (.int 0) (.cons (.bin .sub (.var 3) (.bi .min (.cons (.bin .sub (.var 5) (.var 6)) (.cons (.idx (.var 0) (.int 1)) .nil)))) .nil))) (.bin .sub (.bin .add (.var 3) (.var 6)) (.var 5)))) .nil))) (.cons (.ret (.rev (.var 4))) .nil)))
abbrev N_needs_behind : List Str := ["store", "got", "wanted", "need", "found", "come", "want"]
def F_needs_behind : List D → Option D := runD [] 7 3 C_needs_behind
theorem ok_needs_behind : okDef [] [] N_needs_behind ["store", "got", "wanted"] 1 C_needs_behind (topS 9) = true := by decide +kernel
/-! bounds_held -/
def C_bounds_held : CSs := (.cons (.par2 3 4 0 0 (.call 0 (.cons (.var 0) (.cons (.var 1) (.cons (.var 2) .nil)))) (.call 1 (.cons (.var 0) (.cons (.var 1) (.cons (.var 2) .nil))))) (.cons (.ife (.or (.isN (.var 3)) (.bi .any (.cons (.lc 0 (.cmp .gt (.var 5) (.var 7)) [("need", 5), ("low", 6), ("high", 7)] (.two (.nm 5) (.two (.nm 6) (.nm 7))) (.zip (.var 4) (.var 3)) .no) .nil))) (.cons (.ret .non) .nil) .nil) (.cons (.ret (.bi .tupleL (.cons (.lc 0 (.tup (.cons (.bi .max (.cons (.var 6) (.cons (.var 5) .nil))) (.cons (.var 7) .nil))) [("need", 5), ("low", 6), ("high", 7)] (.two (.nm 5) (.two (.nm 6) (.nm 7))) (.zip (.var 4) (.var 3)) .no) .nil))) .nil)))
abbrev N_bounds_held : List Str := ["store", "got", "wanted", "reach", "needs", "need", "low", "high"]
def F_bounds_held : List D → Option D := runD [F_reach_bounds, F_needs_behind] 8 3 C_bounds_held
theorem ok_bounds_held : okDef ["reach_bounds", "needs_behind"] [0, 1] N_bounds_held ["store", "got", "wanted"] 0 C_bounds_held (topS 10) = true := by decide +kernel
/-! _law_mixed -/
def C__law_mixed : CSs := (.cons (.set 2 0 (.int 0)) (.cons (.ife (.cmp .gt (.bi .len (.cons (.var 0) .nil)) (.int 0)) (.cons (.set 2 0 (.idx (.var 0) (.bin .mod (.var 1) (.bi .len (.cons (.var 0) .nil))))) .nil) .nil) (.cons (.set 3 0 (.bin .mod (.bi .int (.cons (.bin .add (.bin .add (.bin .mul (.var 2) (.int 48271)) (.bin .mul (.var 1) (.int 69621))) (.int 8191)) .nil)) (.int 2147483647))) (.cons (.set 4 0 (.bin .mod (.bi .int (.cons (.bin .add (.bin .add (.bin .mul (.var 3) (.var 3)) (.bin .fdiv (.var 3) (.int 7))) (.bin .mul (.var 1) (.int 16807))) .nil)) (.int 2147483629))) (.cons (.set 5 0 (.bin .mod (.bi .int (.cons (.bin .add (.bin .add (.bin .mul (.var 4) (.var 4)) (.bin .fdiv (.var 4) (.int 11))) (.int 40692)) .nil)) (.int 2147483563))) (.cons (.ret (.bin .mod (.bin .fdiv (.var 5) (.int 5)) (.int 1000003))) .nil))))))
abbrev N__law_mixed : List Str := ["script", "k", "cell", "first", "second", "third"]
def F__law_mixed : List D → Option D := runD [] 6 2 C__law_mixed
theorem ok__law_mixed : okDef [] [] N__law_mixed ["script", "k"] 0 C__law_mixed (topS 12) = true := by decide +kernel
/-! _law_row -/
def C__law_row : CSs := (.cons (.set 2 0 (.int 0)) (.cons (.ife (.and (.cmp .gt (.bi .len (.cons (.var 0) .nil)) (.int 0)) (.cmp .ge (.idx (.var 0) (.int 0)) (.bin .pow (.int 10) (.int 18)))) (.cons (.set 2 0 (.idx (.var 0) (.int 0))) .nil) .nil) (.cons (.set 3 1 (.lst 0 .nil)) (.cons (.for_ (.nm 4) (.rg (.cons (.var 1) .nil)) (.cons (.ife (.cmp .gt (.var 2) (.int 0)) (.cons (.app 3 0 (.bin .mod (.bi .int (.cons (.var 2) .nil)) (.int 1000))) (.cons (.set 2 0 (.bin .fdiv (.var 2) (.int 1000))) .nil)) (.cons (.app 3 0 (.call 0 (.cons (.var 0) (.cons (.var 4) .nil)))) .nil)) .nil)) (.cons (.ret (.var 3)) .nil)))))
abbrev N__law_row : List Str := ["script", "many", "big", "row", "k"]
def F__law_row : List D → Option D := runD [F__law_mixed] 5 2 C__law_row
theorem ok__law_row : okDef ["_law_mixed"] [0] N__law_row ["script", "many"] 1 C__law_row (topS 13) = true := by decide +kernel
/-! _law_is_int -/
def C__law_is_int : CSs := (.cons (.ret (.and (.isi .int (.var 0)) (.not (.isi .bool (.var 0))))) .nil)
abbrev N__law_is_int : List Str := ["value"]
def F__law_is_int : List D → Option D := runD [] 1 1 C__law_is_int
theorem ok__law_is_int : okDef [] [] N__law_is_int ["value"] 0 C__law_is_int (topS 14) = true := by decide +kernel
/-! _law_like -/
def C__law_like : CSs := (.cons (.ife (.isN (.var 1)) (.cons (.ret (.isN (.var 0))) .nil) .nil) (.cons (.ife (.isi .bool (.var 1)) (.cons (.ret (.and (.isi .bool (.var 0)) (.cmp .eq (.var 0) (.var 1)))) .nil) .nil) (.cons (.ife (.isi .tuple (.var 1)) (.cons (.ife (.or (.not (.isi .tuple (.var 0))) (.cmp .ne (.bi .len (.cons (.var 0) .nil)) (.bi .len (.cons (.var 1) .nil)))) (.cons (.ret (.bl false)) .nil) .nil) (.cons (.ret (.bi .all (.cons (.lc 0 (.call 0 (.cons (.idx (.var 0) (.var 2)) (.cons (.idx (.var 1) (.var 2)) .nil))) [("k", 2)] (.nm 2) (.rg (.cons (.bi .len (.cons (.var 1) .nil)) .nil)) .no) .nil))) .nil)) .nil) (.cons (.ife (.isi .str (.var 1)) (.cons (.ret (.and (.isi .str (.var 0)) (.cmp .eq (.var 0) (.var 1)))) .nil) .nil) (.cons (.ret (.and (.call 1 (.cons (.var 0) .nil)) (.cmp .eq (.var 0) (.var 1)))) .nil)))))
abbrev N__law_like : List Str := ["value", "due", "k"]
def F__law_like : List D → Option D := recD [F__law_is_int] 3 2 C__law_like 8
theorem ok__law_like : okDef ["_law_like", "_law_is_int"] [0, 0] N__law_like ["value", "due"] 0 C__law_like (topS 15) = true := by decide +kernel
/-! _law_steps -/
def C__law_steps : CSs := (.cons (.asg (.four (.nm 4) (.nm 5) (.nm 6) (.nm 7)) (.var 0)) (.cons (.par2 8 9 1 1 (.lst 0 .nil) (.lst 0 .nil)) (.cons (.for_ (.nm 3) (.rg (.cons (.bi .len (.cons (.var 1) .nil)) .nil)) (.cons (.set 10 0 (.bin .sub (.idx (.var 1) (.var 3)) (.idx (.var 2) (.var 3)))) (.cons (.ife (.cmp .ge (.var 10) (.int 0)) (.cons (.set 7 0 (.bin .add (.var 7) (.bi .min (.cons (.var 10) (.cons (.var 5) (.cons (.bin .sub (.var 4) (.var 7)) .nil)))))) (.cons (.app 9 0 (.int 0)) .nil)) (.cons (.set 11 0 (.bi .min (.cons (.neg (.var 10)) (.cons (.var 6) (.cons (.var 7) .nil))))) (.cons (.set 7 0 (.bin .sub (.var 7) (.var 11))) (.cons (.app 9 0 (.bin .sub (.neg (.var 10)) (.var 11))) .nil)))) (.cons (.app 8 0 (.var 7)) .nil)))) (.cons (.ret (.tup (.cons (.bi .tupleL (.cons (.var 8) .nil)) (.cons (.bi .tupleL (.cons (.var 9) .nil)) .nil)))) .nil))))
abbrev N__law_steps : List Str := ["store", "got", "wanted", "k", "room", "into", "out", "hold", "holds", "lacks", "over", "given"]
def F__law_steps : List D → Option D := runD [] 12 3 C__law_steps
theorem ok__law_steps : okDef [] [] N__law_steps ["store", "got", "wanted"] 0 C__law_steps (topS 16) = true := by decide +kernel
/-! _law_behind -/
def C__law_behind : CSs := (.cons (.asg (.four (.nm 3) (.nm 4) (.nm 5) (.nm 6)) (.var 0)) (.cons (.ife (.cmp .ge (.var 2) (.int 0)) (.cons (.ret (.rgs2 false (.var 1) (.bin .add (.bi .min (.cons (.var 3) (.cons (.bin .add (.var 1) (.bi .min (.cons (.var 2) (.cons (.var 4) .nil)))) .nil))) (.int 1)))) .nil) .nil) (.cons (.ret (.slc false (.lst 0 (.cons (.bin .add (.var 1) (.var 2)) .nil)) .no (.yes (.bi .int (.cons (.and (.cmp .le (.neg (.var 2)) (.var 5)) (.cmp .le (.neg (.var 2)) (.var 1))) .nil))))) .nil)))
abbrev N__law_behind : List Str := ["store", "hold", "over", "room", "into", "out", "first"]
def F__law_behind : List D → Option D := runD [] 7 3 C__law_behind
theorem ok__law_behind : okDef [] [] N__law_behind ["store", "hold", "over"] 1 C__law_behind (topS 17) = true := by decide +kernel
/-! _law_ways -/
def C__law_ways : CSs := (.cons (.set 3 0 (.bi .len (.cons (.var 1) .nil))) (.cons (.set 4 2 (.bin (.catL 1) (.lc 1 (.lst 0 .nil) [("hour", 6)] (.nm 6) (.rg (.cons (.var 3) .nil)) .no) (.lst 1 (.cons (.rgs1 false (.bin .add (.idx (.var 0) (.int 0)) (.int 1))) .nil)))) (.cons (.for_ (.nm 5) (.rg (.cons (.var 3) .nil)) (.cons (.set 6 0 (.bin .sub (.bin .sub (.var 3) (.int 1)) (.var 5))) (.cons (.for_ (.nm 7) (.rg (.cons (.bin .add (.idx (.var 0) (.int 0)) (.int 1)) .nil)) (.cons (.ife (.bi .any (.cons (.lc 0 (.cmp .mem (.var 11) (.idx (.var 4) (.bin .add (.var 6) (.int 1)))) [("after", 11)] (.nm 11) (.ex (.call 0 (.cons (.var 0) (.cons (.var 7) (.cons (.bin .sub (.idx (.var 1) (.var 6)) (.idx (.var 2) (.var 6))) .nil))))) .no) .nil)) (.cons (.app1 4 0 (.var 6) (.var 7)) .nil) .nil) .nil)) .nil))) (.cons (.par2 8 9 0 1 (.lst 0 (.cons (.idx (.var 0) (.int 3)) .nil)) (.lst 0 .nil)) (.cons (.ife (.cmp .nmem (.idx (.var 0) (.int 3)) (.idx (.var 4) (.int 0))) (.cons (.ret .non) .nil) .nil) (.cons (.for_ (.nm 6) (.rg (.cons (.var 3) .nil)) (.cons (.set 10 0 (.lst 0 .nil)) (.cons (.for_ (.nm 7) (.ex (.var 8)) (.cons (.set 10 0 (.bin (.catL 0) (.var 10) (.call 0 (.cons (.var 0) (.cons (.var 7) (.cons (.bin .sub (.idx (.var 1) (.var 6)) (.idx (.var 2) (.var 6))) .nil)))))) .nil)) (.cons (.set 8 0 (.lc 0 (.var 7) [("hold", 7)] (.nm 7) (.ex (.sst (.var 10))) (.yes (.cmp .mem (.var 7) (.idx (.var 4) (.bin .add (.var 6) (.int 1))))))) (.cons (.app 9 0 (.tup (.cons (.idx (.var 8) (.int 0)) (.cons (.idx (.var 8) (.neg (.int 1))) .nil)))) .nil))))) (.cons (.ret (.bi .tupleL (.cons (.var 9) .nil))) .nil)))))))
abbrev N__law_ways : List Str := ["store", "got", "wanted", "hours", "good", "turn", "hour", "hold", "now", "found", "later", "after"]
def F__law_ways : List D → Option D := runD [F__law_behind] 12 3 C__law_ways
theorem ok__law_ways : okDef ["_law_behind"] [1] N__law_ways ["store", "got", "wanted"] 0 C__law_ways (topS 18) = true := by decide +kernel
/-! _law_with_room -/
def C__law_with_room : CSs := (.cons (.ret (.tup (.cons (.var 1) (.cons (.idx (.var 0) (.int 1)) (.cons (.idx (.var 0) (.int 2)) (.cons (.bi .min (.cons (.var 1) (.cons (.idx (.var 0) (.int 3)) .nil))) .nil)))))) .nil)
abbrev N__law_with_room : List Str := ["store", "room"]
def F__law_with_room : List D → Option D := runD [] 2 2 C__law_with_room
theorem ok__law_with_room : okDef [] [] N__law_with_room ["store", "room"] 0 C__law_with_room (topS 19) = true := by decide +kernel
/-! _law_least -/
def C__law_least : CSs := (.cons (.set 3 1 (.lst 0 .nil)) (.cons (.for_ (.nm 4) (.rg (.cons (.bin .add (.bin .add (.idx (.var 0) (.int 3)) (.bi .sum (.cons (.var 1) .nil))) (.int 1)) .nil)) (.cons (.ife (.and (.cmp .eq (.bi .len (.cons (.var 3) .nil)) (.int 0)) (.not (.bi .any (.cons (.idx (.call 0 (.cons (.call 1 (.cons (.var 0) (.cons (.var 4) .nil))) (.cons (.var 1) (.cons (.var 2) .nil)))) (.int 1)) .nil)))) (.cons (.app 3 0 (.var 4)) .nil) .nil) .nil)) (.cons (.set 5 1 (.lst 0 .nil)) (.cons (.for_ (.nm 6) (.rg (.cons (.bin .add (.idx (.var 0) (.int 0)) (.int 1)) .nil)) (.cons (.ife (.and (.cmp .eq (.bi .len (.cons (.var 5) .nil)) (.int 0)) (.not (.bi .any (.cons (.idx (.call 0 (.cons (.bin .catT (.slc true (.var 0) .no (.yes (.int 3))) (.tup (.cons (.var 6) .nil))) (.cons (.var 1) (.cons (.var 2) .nil)))) (.int 1)) .nil)))) (.cons (.app 5 0 (.var 6)) .nil) .nil) .nil)) (.cons (.ret (.tup (.cons (.idx (.bin (.catL 0) (.var 3) (.lst 0 (.cons .non .nil))) (.int 0)) (.cons (.idx (.bin (.catL 0) (.var 5) (.lst 0 (.cons .non .nil))) (.int 0)) .nil)))) .nil)))))
abbrev N__law_least : List Str := ["store", "got", "wanted", "rooms", "room", "firsts", "first"]
def F__law_least : List D → Option D := runD [F__law_steps, F__law_with_room] 7 3 C__law_least
theorem ok__law_least : okDef ["_law_steps", "_law_with_room"] [0, 0] N__law_least ["store", "got", "wanted"] 0 C__law_least (topS 20) = true := by decide +kernel
/-! _law_served -/
def C__law_served : CSs := (.cons (.par2 4 5 0 1 (.idx (.var 1) (.int 3)) (.lst 0 .nil)) (.cons (.for_ (.nm 3) (.rg (.cons (.bi .len (.cons (.var 2) .nil)) .nil)) (.cons (.set 6 0 (.bi .min (.cons (.idx (.var 1) (.int 2)) (.cons (.var 4) .nil)))) (.cons (.set 7 0 (.bin .mod (.bi .int (.cons (.idx (.var 0) (.bin .add (.int 60) (.var 3))) .nil)) (.bin .add (.bin .add (.idx (.var 2) (.var 3)) (.var 6)) (.int 1)))) (.cons (.ife (.cmp .eq (.bin .mod (.bin .fdiv (.bi .int (.cons (.idx (.var 0) (.bin .add (.int 60) (.var 3))) .nil)) (.int 60)) (.int 3)) (.int 0)) (.cons (.set 7 0 (.bin .add (.idx (.var 2) (.var 3)) (.var 6))) .nil) .nil) (.cons (.app 5 0 (.var 7)) (.cons (.set 4 0 (.idx (.idx (.call 0 (.cons (.tup (.cons (.idx (.var 1) (.int 0)) (.cons (.idx (.var 1) (.int 1)) (.cons (.idx (.var 1) (.int 2)) (.cons (.var 4) .nil))))) (.cons (.tup (.cons (.idx (.var 2) (.var 3)) .nil)) (.cons (.tup (.cons (.var 7) .nil)) .nil)))) (.int 0)) (.int 0))) .nil)))))) (.cons (.ret (.var 5)) .nil)))
abbrev N__law_served : List Str := ["row", "store", "got", "k", "hold", "wanted", "more", "want"]
def F__law_served : List D → Option D := runD [F__law_steps] 8 3 C__law_served
theorem ok__law_served : okDef ["_law_steps"] [0] N__law_served ["row", "store", "got"] 1 C__law_served (topS 21) = true := by decide +kernel
/-! law -/
def C_law : CSs := (.cons (.set 1 0 (.call 0 (.cons (.var 0) (.cons (.int 90) .nil)))) (.cons (.par3 7 8 9 0 0 0 (.int 13) (.int 6) (.bin .add (.int 1) (.bin .mod (.bi .int (.cons (.idx (.var 1) (.int 0)) .nil)) (.int 6)))) (.cons (.ife (.cmp .eq (.bin .mod (.bi .int (.cons (.idx (.var 1) (.int 1)) .nil)) (.int 24)) (.int 21)) (.cons (.par3 7 8 9 0 0 0 (.int 100) (.int 41) (.bin .add (.int 12) (.bin .mod (.bi .int (.cons (.idx (.var 1) (.int 0)) .nil)) (.int 13)))) .nil) .nil) (.cons (.set 2 0 (.tup (.cons (.bin .mod (.bi .int (.cons (.idx (.var 1) (.int 2)) .nil)) (.var 7)) (.cons (.bin .mod (.bi .int (.cons (.idx (.var 1) (.int 3)) .nil)) (.var 8)) (.cons (.bin .mod (.bi .int (.cons (.idx (.var 1) (.int 4)) .nil)) (.var 8)) (.cons (.int 0) .nil)))))) (.cons (.set 2 0 (.tup (.cons (.idx (.var 2) (.int 0)) (.cons (.idx (.var 2) (.int 1)) (.cons (.idx (.var 2) (.int 2)) (.cons (.bin .mod (.bi .int (.cons (.idx (.var 1) (.int 5)) .nil)) (.bin .add (.idx (.var 2) (.int 0)) (.int 1))) .nil)))))) (.cons (.set 3 0 (.lc 0 (.bin .mod (.bi .int (.cons (.idx (.var 1) (.bin .add (.int 8) (.var 15))) .nil)) (.int 10)) [("k", 15)] (.nm 15) (.rg (.cons (.var 9) .nil)) .no)) (.cons (.set 4 1 (.lc 0 (.bin .mod (.bi .int (.cons (.idx (.var 1) (.bin .add (.int 33) (.var 15))) .nil)) (.int 10)) [("k", 15)] (.nm 15) (.rg (.cons (.var 9) .nil)) .no)) (.cons (.ife (.cmp .eq (.bin .mod (.bi .int (.cons (.idx (.var 1) (.int 6)) .nil)) (.int 2)) (.int 0)) (.cons (.set 4 1 (.call 1 (.cons (.var 1) (.cons (.var 2) (.cons (.var 3) .nil))))) (.cons (.set 10 0 (.bin .mod (.bi .int (.cons (.idx (.var 1) (.int 7)) .nil)) (.var 9))) (.cons (.sto 4 0 (.var 10) (.bin .add (.idx (.var 4) (.var 10)) (.bi .int (.cons (.cmp .eq (.bin .mod (.bin .fdiv (.bi .int (.cons (.idx (.var 1) (.int 6)) .nil)) (.int 2)) (.int 4)) (.int 0)) .nil)))) .nil))) .nil) (.cons (.par2 3 4 0 0 (.bi .tupleL (.cons (.var 3) .nil)) (.bi .tupleL (.cons (.var 4) .nil))) (.cons (.asg (.two (.nm 11) (.nm 12)) (.call 2 (.cons (.var 2) (.cons (.var 3) (.cons (.var 4) .nil))))) (.cons (.ife (.or (.not (.call 3 (.cons (.call 4 (.cons (.var 2) (.cons (.var 3) (.cons (.var 4) .nil)))) (.cons (.var 11) .nil)))) (.not (.call 3 (.cons (.call 5 (.cons (.var 2) (.cons (.var 3) (.cons (.var 4) .nil)))) (.cons (.var 12) .nil))))) (.cons (.ret (.bl false)) .nil) .nil) (.cons (.ife (.not (.call 3 (.cons (.call 6 (.cons (.var 2) (.cons (.var 3) (.cons (.var 4) .nil)))) (.cons (.not (.bi .any (.cons (.var 12) .nil))) .nil)))) (.cons (.ret (.bl false)) .nil) .nil) (.cons (.set 5 0 (.call 7 (.cons (.var 2) (.cons (.var 3) (.cons (.var 4) .nil))))) (.cons (.ife (.or (.not (.call 3 (.cons (.call 8 (.cons (.var 2) (.cons (.var 3) (.cons (.var 4) .nil)))) (.cons (.var 5) .nil)))) (.cmp .ne (.isN (.var 5)) (.bi .any (.cons (.var 12) .nil)))) (.cons (.ret (.bl false)) .nil) .nil) (.cons (.ife (.and (.noN (.var 5)) (.cmp .ne (.bi .tupleL (.cons (.lc 0 (.var 18) [("low", 17), ("high", 18)] (.two (.nm 17) (.nm 18)) (.ex (.var 5)) .no) .nil)) (.var 11))) (.cons (.ret (.bl false)) .nil) .nil) (.cons (.asg (.two (.nm 13) (.nm 14)) (.call 9 (.cons (.var 2) (.cons (.var 3) (.cons (.var 4) .nil))))) (.cons (.ife (.or (.not (.call 3 (.cons (.call 10 (.cons (.var 2) (.cons (.var 3) (.cons (.var 4) .nil)))) (.cons (.var 13) .nil)))) (.not (.call 3 (.cons (.call 11 (.cons (.var 2) (.cons (.var 3) (.cons (.var 4) .nil)))) (.cons (.var 14) .nil))))) (.cons (.ret (.bl false)) .nil) .nil) (.cons (.for_ (.nm 6) (.rg (.cons (.int 2) .nil)) (.cons (.ife (.and (.noN (.var 13)) (.cmp .ge (.var 13) (.var 6))) (.cons (.set 16 0 (.call 12 (.cons (.var 2) (.cons (.bin .sub (.var 13) (.var 6)) .nil)))) (.cons (.ife (.not (.call 3 (.cons (.call 6 (.cons (.var 16) (.cons (.var 3) (.cons (.var 4) .nil)))) (.cons (.cmp .eq (.var 6) (.int 0)) .nil)))) (.cons (.ret (.bl false)) .nil) .nil) .nil)) .nil) (.cons (.ife (.and (.noN (.var 14)) (.cmp .ge (.var 14) (.var 6))) (.cons (.set 16 0 (.bin .catT (.slc true (.var 2) .no (.yes (.int 3))) (.tup (.cons (.bin .sub (.var 14) (.var 6)) .nil)))) (.cons (.ife (.not (.call 3 (.cons (.call 6 (.cons (.var 16) (.cons (.var 3) (.cons (.var 4) .nil)))) (.cons (.cmp .eq (.var 6) (.int 0)) .nil)))) (.cons (.ret (.bl false)) .nil) .nil) (.cons (.ife (.not (.call 3 (.cons (.cmp .eq (.bi .sum (.cons (.call 5 (.cons (.var 16) (.cons (.var 3) (.cons (.var 4) .nil)))) .nil)) (.int 0)) (.cons (.cmp .eq (.var 6) (.int 0)) .nil)))) (.cons (.ret (.bl false)) .nil) .nil) .nil))) .nil) .nil))) (.cons (.ret (.bl true)) .nil)))))))))))))))))))
abbrev N_law : List Str := ["script", "row", "store", "got", "wanted", "due", "less", "most", "rate", "hours", "spot", "holds", "lacks", "room", "first", "k", "some", "low", "high"]
def F_law : List D → Option D := runD [F__law_row, F__law_served, F__law_steps, F__law_like, F_store_run, F_lacks_of, F_can_store, F__law_ways, F_bounds_held, F__law_least, F_least_room, F_least_first, F__law_with_room] 19 1 C_law
theorem ok_law : okDef ["_law_row", "_law_served", "_law_steps", "_law_like", "store_run", "lacks_of", "can_store", "_law_ways", "bounds_held", "_law_least", "least_room", "least_first", "_law_with_room"] [1, 1, 0, 0, 0, 0, 0, 0, 0, 0, 0, 0, 0] N_law ["script"] 0 C_law (topS 22) = true := by decide +kernel
end K17

namespace K17
open PySem PySem.Spec PyProof.Rows L2 Ev Nv
noncomputable section
def n__law_steps_L1 (p_store : (Int × Int × Int × Int)) (p_got : (List Int)) (p_wanted : (List Int)) (s35 : (Int × (List Int) × (List Int))) (x2 : Int) : Option (Int × (List Int) × (List Int)) :=
  Option.bind (atI p_got x2) fun (a39 : Int) => Option.bind (atI p_wanted x2) fun (a40 : Int) => Option.bind (some (a39 - a40)) fun (over41 : Int) => Option.bind (if (decide (0 ≤ over41)) then
      Option.bind (some (s35.1 + (min (min over41 p_store.2.1) (p_store.1 - s35.1)))) fun (hold47 : Int) => Option.bind (appO s35.2.2 0) fun (lacks48 : (List Int)) => some (hold47, lacks48)
    else
      Option.bind (some (min (min (-over41) p_store.2.2.1) s35.1)) fun (given49 : Int) => Option.bind (some (s35.1 - given49)) fun (hold50 : Int) => Option.bind (appO s35.2.2 ((-over41) - given49)) fun (lacks51 : (List Int)) => some (hold50, lacks51)) fun (s52 : (Int × (List Int))) => 
  Option.bind (appO s35.2.1 s52.1) fun (holds54 : (List Int)) => some (s52.1, holds54, s52.2)
def n__law_steps (p_store : (Int × Int × Int × Int)) (p_got : (List Int)) (p_wanted : (List Int)) : Option ((List Int) × (List Int)) :=
  Option.bind (rangeO 0 (p_got.length : Int)) fun (g1 : (List Int)) => Option.bind (foldO (n__law_steps_L1 p_store p_got p_wanted) g1 (p_store.2.2.2, [], [])) fun (s55 : (Int × (List Int) × (List Int))) =>
  some (s55.2.1, s55.2.2)
theorem p__law_steps {p_store : (Int × Int × Int × Int)} {p_got : (List Int)} {p_wanted : (List Int)} {r : ((List Int) × (List Int))} (hh : n__law_steps p_store p_got p_wanted = some r) : F__law_steps [(eP (rc eI (rc eI (rc eI (r1 eI))))) p_store, (eT eI) p_got, (eT eI) p_wanted] = some ((eP (rc (eT eI) (r1 (eT eI)))) r) := by
  unfold n__law_steps at hh
  refine Nv.run_RT (e := (eP (rc (eT eI) (r1 (eT eI))))) rfl ?_
  unfold C__law_steps
  refine Nv.stp (Nv.s_asg (Nv.e_var (d := (eP (rc eI (rc eI (rc eI (r1 eI))))) p_store) rfl) (Nv.pl_4 (Nv.pl_nm rfl) (Nv.pl_nm rfl) (Nv.pl_nm rfl) (Nv.pl_nm rfl))) ?_
  refine Nv.stp (Nv.s_par2 (Nv.e_lst Nv.es_nil) (Nv.e_lst Nv.es_nil)) ?_
  obtain ⟨g1, hg1, hh⟩ := Nv.bnd hh; obtain ⟨s55, hs55, hh⟩ := Nv.bnd hh
  refine Nv.stp_for (E := (fun (s : (Int × (List Int) × (List Int))) (ρ : List D) => ∃ j3 j10 j11 : D, ρ = [(eP (rc eI (rc eI (rc eI (r1 eI))))) p_store, (eT eI) p_got, (eT eI) p_wanted, j3, eI p_store.1, eI p_store.2.1, eI p_store.2.2.1, eI s.1, (eL eI) s.2.1, (eL eI) s.2.2, j10, j11])) (e := eI) hs55 (Nv.i_rng1 (Nv.e_bi (Nv.es_cons (Nv.e_var (d := (eT eI) p_got) rfl) Nv.es_nil) (Nv.b_lenT (e := eI))) hg1) ⟨D.bad, D.bad, D.bad, rfl⟩ ?_ ?_
  · rintro s35 x2 s' ρ ⟨j36, j37, j38, rfl⟩ hh
    unfold n__law_steps_L1 at hh
    refine Nv.tgb (Nv.tg_nm rfl) ?_
    obtain ⟨a39, ha39, hh⟩ := Nv.bnd hh; obtain ⟨a40, ha40, hh⟩ := Nv.bnd hh; obtain ⟨over41, hover41, hh⟩ := Nv.bnd hh; refine Nv.stp (Nv.s_set (Nv.sv (e := eI) (v := (a39 - a40)) hover41 (Nv.e_op (Nv.e_idx (Nv.e_var (d := (eT eI) p_got) rfl) (Nv.e_var (d := eI x2) rfl) (Nv.ix_T (e := eI) ha39)) (Nv.e_idx (Nv.e_var (d := (eT eI) p_wanted) rfl) (Nv.e_var (d := eI x2) rfl) (Nv.ix_T (e := eI) ha40)) rfl))) ?_
    obtain ⟨s52, hs52, hh⟩ := Nv.bnd hh
    refine Nv.stp_ifj (E := (fun (s : (Int × (List Int))) (ρ : List D) => ∃ j11 : D, ρ = [(eP (rc eI (rc eI (rc eI (r1 eI))))) p_store, (eT eI) p_got, (eT eI) p_wanted, eI x2, eI p_store.1, eI p_store.2.1, eI p_store.2.2.1, eI s.1, (eL eI) s35.2.1, (eL eI) s.2, eI over41, j11])) (x := s52) (Nv.t_cmp (Nv.e_var (d := eI over41) rfl) Nv.e_int rfl) (fun hc => ?_) (fun hc => ?_) ?_
    · have hh := Nv.ift hc hs52
      obtain ⟨hold47, hhold47, hh⟩ := Nv.bnd hh; refine Nv.stp (Nv.s_set (Nv.sv (e := eI) (v := (s35.1 + (min (min over41 p_store.2.1) (p_store.1 - s35.1)))) hhold47 (Nv.e_op (Nv.e_var (d := eI s35.1) rfl) (Nv.e_bi (Nv.es_cons (Nv.e_var (d := eI over41) rfl) (Nv.es_cons (Nv.e_var (d := eI p_store.2.1) rfl) (Nv.es_cons (Nv.e_op (Nv.e_var (d := eI p_store.1) rfl) (Nv.e_var (d := eI s35.1) rfl) rfl) Nv.es_nil))) Nv.b_min3) rfl))) ?_
      obtain ⟨lacks48, hlacks48, hh⟩ := Nv.bnd hh; refine Nv.stp (Nv.s_app (e := eI) (xs := s35.2.2) rfl Nv.e_int hlacks48) ?_
      exact Nv.nx_nil' hh ⟨j38, rfl⟩
    · have hh := Nv.iff_ hc hs52
      obtain ⟨given49, hgiven49, hh⟩ := Nv.bnd hh; refine Nv.stp (Nv.s_set (Nv.sv (e := eI) (v := (min (min (-over41) p_store.2.2.1) s35.1)) hgiven49 (Nv.e_bi (Nv.es_cons (Nv.e_neg (Nv.e_var (d := eI over41) rfl)) (Nv.es_cons (Nv.e_var (d := eI p_store.2.2.1) rfl) (Nv.es_cons (Nv.e_var (d := eI s35.1) rfl) Nv.es_nil))) Nv.b_min3))) ?_
      obtain ⟨hold50, hhold50, hh⟩ := Nv.bnd hh; refine Nv.stp (Nv.s_set (Nv.sv (e := eI) (v := (s35.1 - given49)) hhold50 (Nv.e_op (Nv.e_var (d := eI s35.1) rfl) (Nv.e_var (d := eI given49) rfl) rfl))) ?_
      obtain ⟨lacks51, hlacks51, hh⟩ := Nv.bnd hh; refine Nv.stp (Nv.s_app (e := eI) (xs := s35.2.2) rfl (Nv.e_op (Nv.e_neg (Nv.e_var (d := eI over41) rfl)) (Nv.e_var (d := eI given49) rfl) rfl) hlacks51) ?_
      exact Nv.nx_nil' hh ⟨eI given49, rfl⟩
    rintro ρ' ⟨j53, rfl⟩
    obtain ⟨holds54, hholds54, hh⟩ := Nv.bnd hh; refine Nv.stp (Nv.s_app (e := eI) (xs := s35.2.1) rfl (Nv.e_var (d := eI s52.1) rfl) hholds54) ?_
    exact Nv.nx_nil' hh ⟨eI x2, eI over41, j53, rfl⟩
  · rintro ρ' ⟨j56, j57, j58, rfl⟩
    exact Nv.rt_ret (e := (eP (rc (eT eI) (r1 (eT eI))))) (Nv.sv (e := (eP (rc (eT eI) (r1 (eT eI))))) (v := (s55.2.1, s55.2.2)) hh (Nv.e_tup (Nv.es_cons (Nv.e_bi (Nv.es_cons (Nv.e_var (d := (eL eI) s55.2.1) rfl) Nv.es_nil) Nv.b_tupL) (Nv.es_cons (Nv.e_bi (Nv.es_cons (Nv.e_var (d := (eL eI) s55.2.2) rfl) Nv.es_nil) Nv.b_tupL) Nv.es_nil))))
def n__law_served_L1 (p_row : (List Int)) (p_store : (Int × Int × Int × Int)) (p_got : (List Int)) (s31 : (Int × (List Int))) (x2 : Int) : Option (Int × (List Int)) :=
  Option.bind (some (min p_store.2.2.1 s31.1)) fun (more35 : Int) => Option.bind (atI p_row (60 + x2)) fun (a36 : Int) => Option.bind (atI p_got x2) fun (a37 : Int) => Option.bind (modO a36 ((a37 + more35) + 1)) fun (q38 : Int) => Option.bind (atI p_row (60 + x2)) fun (a39 : Int) => Option.bind (if (decide (((a39 / 60) % 3) = 0)) then
      Option.bind (atI p_got x2) fun (a42 : Int) => Option.bind (some (a42 + more35)) fun (want43 : Int) => some want43
    else
      some q38) fun (s44 : Int) => 
  Option.bind (appO s31.2 s44) fun (wanted45 : (List Int)) => Option.bind (atI p_got x2) fun (a46 : Int) => Option.bind (n__law_steps (p_store.1, p_store.2.1, p_store.2.2.1, s31.1) [a46] [s44]) fun (y47 : ((List Int) × (List Int))) => Option.bind (atI y47.1 0) fun (a48 : Int) => some (a48, wanted45)
def n__law_served (p_row : (List Int)) (p_store : (Int × Int × Int × Int)) (p_got : (List Int)) : Option (List Int) :=
  Option.bind (rangeO 0 (p_got.length : Int)) fun (g1 : (List Int)) => Option.bind (foldO (n__law_served_L1 p_row p_store p_got) g1 (p_store.2.2.2, [])) fun (s49 : (Int × (List Int))) =>
  some s49.2
theorem p__law_served {p_row : (List Int)} {p_store : (Int × Int × Int × Int)} {p_got : (List Int)} {r : (List Int)} (hh : n__law_served p_row p_store p_got = some r) : F__law_served [(eL eI) p_row, (eP (rc eI (rc eI (rc eI (r1 eI))))) p_store, (eL eI) p_got] = some ((eL eI) r) := by
  unfold n__law_served at hh
  refine Nv.run_RT (e := (eL eI)) rfl ?_
  unfold C__law_served
  refine Nv.stp (Nv.s_par2 (Nv.e_idx (d := eI p_store.2.2.2) (Nv.e_var (d := (eP (rc eI (rc eI (rc eI (r1 eI))))) p_store) rfl) Nv.e_int rfl) (Nv.e_lst Nv.es_nil)) ?_
  obtain ⟨g1, hg1, hh⟩ := Nv.bnd hh; obtain ⟨s49, hs49, hh⟩ := Nv.bnd hh
  refine Nv.stp_for (E := (fun (s : (Int × (List Int))) (ρ : List D) => ∃ j3 j6 j7 : D, ρ = [(eL eI) p_row, (eP (rc eI (rc eI (rc eI (r1 eI))))) p_store, (eL eI) p_got, j3, eI s.1, (eL eI) s.2, j6, j7])) (e := eI) hs49 (Nv.i_rng1 (Nv.e_bi (Nv.es_cons (Nv.e_var (d := (eL eI) p_got) rfl) Nv.es_nil) (Nv.b_lenL (e := eI))) hg1) ⟨D.bad, D.bad, D.bad, rfl⟩ ?_ ?_
  · rintro s31 x2 s' ρ ⟨j32, j33, j34, rfl⟩ hh
    unfold n__law_served_L1 at hh
    refine Nv.tgb (Nv.tg_nm rfl) ?_
    obtain ⟨more35, hmore35, hh⟩ := Nv.bnd hh; refine Nv.stp (Nv.s_set (Nv.sv (e := eI) (v := (min p_store.2.2.1 s31.1)) hmore35 (Nv.e_bi (Nv.es_cons (Nv.e_idx (d := eI p_store.2.2.1) (Nv.e_var (d := (eP (rc eI (rc eI (rc eI (r1 eI))))) p_store) rfl) Nv.e_int rfl) (Nv.es_cons (Nv.e_var (d := eI s31.1) rfl) Nv.es_nil)) Nv.b_min2))) ?_
    obtain ⟨a36, ha36, hh⟩ := Nv.bnd hh; obtain ⟨a37, ha37, hh⟩ := Nv.bnd hh; obtain ⟨q38, hq38, hh⟩ := Nv.bnd hh; refine Nv.stp (Nv.s_set (Nv.e_op (Nv.e_bi (Nv.es_cons (Nv.e_idx (Nv.e_var (d := (eL eI) p_row) rfl) (Nv.e_op Nv.e_int (Nv.e_var (d := eI x2) rfl) rfl) (Nv.ix_L (e := eI) ha36)) Nv.es_nil) Nv.b_intI) (Nv.e_op (Nv.e_op (Nv.e_idx (Nv.e_var (d := (eL eI) p_got) rfl) (Nv.e_var (d := eI x2) rfl) (Nv.ix_L (e := eI) ha37)) (Nv.e_var (d := eI more35) rfl) rfl) Nv.e_int rfl) (Nv.o_modO hq38))) ?_
    obtain ⟨a39, ha39, hh⟩ := Nv.bnd hh; obtain ⟨s44, hs44, hh⟩ := Nv.bnd hh
    refine Nv.stp_ifj (E := (fun (s : Int) (ρ : List D) => ρ = [(eL eI) p_row, (eP (rc eI (rc eI (rc eI (r1 eI))))) p_store, (eL eI) p_got, eI x2, eI s31.1, (eL eI) s31.2, eI more35, eI s])) (x := s44) (Nv.t_cmp (Nv.e_op (Nv.e_op (Nv.e_bi (Nv.es_cons (Nv.e_idx (Nv.e_var (d := (eL eI) p_row) rfl) (Nv.e_op Nv.e_int (Nv.e_var (d := eI x2) rfl) rfl) (Nv.ix_L (e := eI) ha39)) Nv.es_nil) Nv.b_intI) Nv.e_int (Nv.o_divL (b := 60) (by decide) (by decide))) Nv.e_int (Nv.o_modL (b := 3) (by decide))) Nv.e_int (Nv.eq_ok Nv.eq_I ((a39 / 60) % 3) 0)) (fun hc => ?_) (fun hc => ?_) ?_
    · have hh := Nv.ift hc hs44
      obtain ⟨a42, ha42, hh⟩ := Nv.bnd hh; obtain ⟨want43, hwant43, hh⟩ := Nv.bnd hh; refine Nv.stp (Nv.s_set (Nv.sv (e := eI) (v := (a42 + more35)) hwant43 (Nv.e_op (Nv.e_idx (Nv.e_var (d := (eL eI) p_got) rfl) (Nv.e_var (d := eI x2) rfl) (Nv.ix_L (e := eI) ha42)) (Nv.e_var (d := eI more35) rfl) rfl))) ?_
      exact Nv.nx_nil' hh rfl
    · have hh := Nv.iff_ hc hs44
      exact Nv.nx_nil' hh rfl
    rintro ρ' rfl
    obtain ⟨wanted45, hwanted45, hh⟩ := Nv.bnd hh; refine Nv.stp (Nv.s_app (e := eI) (xs := s31.2) rfl (Nv.e_var (d := eI s44) rfl) hwanted45) ?_
    obtain ⟨a46, ha46, hh⟩ := Nv.bnd hh; obtain ⟨y47, hy47, hh⟩ := Nv.bnd hh; obtain ⟨a48, ha48, hh⟩ := Nv.bnd hh; refine Nv.stp (Nv.s_set (Nv.e_idx (Nv.e_idx (d := (eT eI) y47.1) (Nv.e_fn (Nv.es_cons (Nv.cv (d' := (eP (rc eI (rc eI (rc eI (r1 eI))))) (p_store.1, p_store.2.1, p_store.2.2.1, s31.1)) (Nv.e_tup (Nv.es_cons (Nv.e_idx (d := eI p_store.1) (Nv.e_var (d := (eP (rc eI (rc eI (rc eI (r1 eI))))) p_store) rfl) Nv.e_int rfl) (Nv.es_cons (Nv.e_idx (d := eI p_store.2.1) (Nv.e_var (d := (eP (rc eI (rc eI (rc eI (r1 eI))))) p_store) rfl) Nv.e_int rfl) (Nv.es_cons (Nv.e_idx (d := eI p_store.2.2.1) (Nv.e_var (d := (eP (rc eI (rc eI (rc eI (r1 eI))))) p_store) rfl) Nv.e_int rfl) (Nv.es_cons (Nv.e_var (d := eI s31.1) rfl) Nv.es_nil))))) rfl) (Nv.es_cons (Nv.cv (d' := (eT eI) [a46]) (Nv.e_tup (Nv.es_cons (Nv.e_idx (Nv.e_var (d := (eL eI) p_got) rfl) (Nv.e_var (d := eI x2) rfl) (Nv.ix_L (e := eI) ha46)) Nv.es_nil)) rfl) (Nv.es_cons (Nv.cv (d' := (eT eI) [s44]) (Nv.e_tup (Nv.es_cons (Nv.e_var (d := eI s44) rfl) Nv.es_nil)) rfl) Nv.es_nil))) rfl (p__law_steps hy47)) Nv.e_int rfl) Nv.e_int (Nv.ix_T (e := eI) ha48))) ?_
    exact Nv.nx_nil' hh ⟨eI x2, eI more35, eI s44, rfl⟩
  · rintro ρ' ⟨j50, j51, j52, rfl⟩
    exact Nv.rt_ret (e := (eL eI)) (Nv.sv (e := (eL eI)) (v := s49.2) hh (Nv.e_var (d := (eL eI) s49.2) rfl))
def n_store_steps_L1 (p_store : (Int × Int × Int × Int)) (s28 : (Int × (List Int) × (List Int))) (x1 : (Int × Int)) : Option (Int × (List Int) × (List Int)) :=
  Option.bind (if (decide (x1.2 ≤ x1.1)) then
      Option.bind (some (s28.1 + (min (min (x1.1 - x1.2) p_store.2.1) (p_store.1 - s28.1)))) fun (hold37 : Int) => Option.bind (appO s28.2.2 0) fun (lacks38 : (List Int)) => some (hold37, lacks38)
    else
      Option.bind (some (min (min (x1.2 - x1.1) p_store.2.2.1) s28.1)) fun (given39 : Int) => Option.bind (some (s28.1 - given39)) fun (hold40 : Int) => Option.bind (appO s28.2.2 ((x1.2 - x1.1) - given39)) fun (lacks41 : (List Int)) => some (hold40, lacks41)) fun (s42 : (Int × (List Int))) => 
  Option.bind (appO s28.2.1 s42.1) fun (holds44 : (List Int)) => some (s42.1, holds44, s42.2)
def n_store_steps (p_store : (Int × Int × Int × Int)) (p_got : (List Int)) (p_wanted : (List Int)) : Option ((List Int) × (List Int)) :=
  Option.bind (foldO (n_store_steps_L1 p_store) (p_got.zip p_wanted) (p_store.2.2.2, [], [])) fun (s45 : (Int × (List Int) × (List Int))) =>
  some (s45.2.1, s45.2.2)
theorem p_store_steps {p_store : (Int × Int × Int × Int)} {p_got : (List Int)} {p_wanted : (List Int)} {r : ((List Int) × (List Int))} (hh : n_store_steps p_store p_got p_wanted = some r) : F_store_steps [(eP (rc eI (rc eI (rc eI (r1 eI))))) p_store, (eT eI) p_got, (eT eI) p_wanted] = some ((eP (rc (eT eI) (r1 (eT eI)))) r) := by
  unfold n_store_steps at hh
  refine Nv.run_RT (e := (eP (rc (eT eI) (r1 (eT eI))))) rfl ?_
  unfold C_store_steps
  refine Nv.stp (Nv.s_asg (Nv.e_var (d := (eP (rc eI (rc eI (rc eI (r1 eI))))) p_store) rfl) (Nv.pl_4 (Nv.pl_nm rfl) (Nv.pl_nm rfl) (Nv.pl_nm rfl) (Nv.pl_nm rfl))) ?_
  refine Nv.stp (Nv.s_par2 (Nv.e_lst Nv.es_nil) (Nv.e_lst Nv.es_nil)) ?_
  obtain ⟨s45, hs45, hh⟩ := Nv.bnd hh
  refine Nv.stp_for (E := (fun (s : (Int × (List Int) × (List Int))) (ρ : List D) => ∃ j9 j10 j11 : D, ρ = [(eP (rc eI (rc eI (rc eI (r1 eI))))) p_store, (eT eI) p_got, (eT eI) p_wanted, eI p_store.1, eI p_store.2.1, eI p_store.2.2.1, eI s.1, (eL eI) s.2.1, (eL eI) s.2.2, j9, j10, j11])) (e := (eP (rc eI (r1 eI)))) hs45 (Nv.i_zipT (e := eI) (f := eI) (Nv.e_var (d := (eT eI) p_got) rfl) (Nv.e_var (d := (eT eI) p_wanted) rfl)) ⟨D.bad, D.bad, D.bad, rfl⟩ ?_ ?_
  · rintro s28 x1 s' ρ ⟨j29, j30, j31, rfl⟩ hh
    unfold n_store_steps_L1 at hh
    refine Nv.tgb (Nv.tg_2 (Nv.tg_nm rfl) (Nv.tg_nm rfl)) ?_
    obtain ⟨s42, hs42, hh⟩ := Nv.bnd hh
    refine Nv.stp_ifj (E := (fun (s : (Int × (List Int))) (ρ : List D) => ∃ j11 : D, ρ = [(eP (rc eI (rc eI (rc eI (r1 eI))))) p_store, (eT eI) p_got, (eT eI) p_wanted, eI p_store.1, eI p_store.2.1, eI p_store.2.2.1, eI s.1, (eL eI) s28.2.1, (eL eI) s.2, eI x1.1, eI x1.2, j11])) (x := s42) (Nv.t_cmp (Nv.e_var (d := eI x1.1) rfl) (Nv.e_var (d := eI x1.2) rfl) rfl) (fun hc => ?_) (fun hc => ?_) ?_
    · have hh := Nv.ift hc hs42
      obtain ⟨hold37, hhold37, hh⟩ := Nv.bnd hh; refine Nv.stp (Nv.augx hhold37 (Nv.s_augA (a := s28.1) rfl (Nv.e_bi (Nv.es_cons (Nv.e_op (Nv.e_var (d := eI x1.1) rfl) (Nv.e_var (d := eI x1.2) rfl) rfl) (Nv.es_cons (Nv.e_var (d := eI p_store.2.1) rfl) (Nv.es_cons (Nv.e_op (Nv.e_var (d := eI p_store.1) rfl) (Nv.e_var (d := eI s28.1) rfl) rfl) Nv.es_nil))) Nv.b_min3))) ?_
      obtain ⟨lacks38, hlacks38, hh⟩ := Nv.bnd hh; refine Nv.stp (Nv.s_app (e := eI) (xs := s28.2.2) rfl Nv.e_int hlacks38) ?_
      exact Nv.nx_nil' hh ⟨j31, rfl⟩
    · have hh := Nv.iff_ hc hs42
      obtain ⟨given39, hgiven39, hh⟩ := Nv.bnd hh; refine Nv.stp (Nv.s_set (Nv.sv (e := eI) (v := (min (min (x1.2 - x1.1) p_store.2.2.1) s28.1)) hgiven39 (Nv.e_bi (Nv.es_cons (Nv.e_op (Nv.e_var (d := eI x1.2) rfl) (Nv.e_var (d := eI x1.1) rfl) rfl) (Nv.es_cons (Nv.e_var (d := eI p_store.2.2.1) rfl) (Nv.es_cons (Nv.e_var (d := eI s28.1) rfl) Nv.es_nil))) Nv.b_min3))) ?_
      obtain ⟨hold40, hhold40, hh⟩ := Nv.bnd hh; refine Nv.stp (Nv.augx hhold40 (Nv.s_augS (a := s28.1) rfl (Nv.e_var (d := eI given39) rfl))) ?_
      obtain ⟨lacks41, hlacks41, hh⟩ := Nv.bnd hh; refine Nv.stp (Nv.s_app (e := eI) (xs := s28.2.2) rfl (Nv.e_op (Nv.e_op (Nv.e_var (d := eI x1.2) rfl) (Nv.e_var (d := eI x1.1) rfl) rfl) (Nv.e_var (d := eI given39) rfl) rfl) hlacks41) ?_
      exact Nv.nx_nil' hh ⟨eI given39, rfl⟩
    rintro ρ' ⟨j43, rfl⟩
    obtain ⟨holds44, hholds44, hh⟩ := Nv.bnd hh; refine Nv.stp (Nv.s_app (e := eI) (xs := s28.2.1) rfl (Nv.e_var (d := eI s42.1) rfl) hholds44) ?_
    exact Nv.nx_nil' hh ⟨eI x1.1, eI x1.2, j43, rfl⟩
  · rintro ρ' ⟨j46, j47, j48, rfl⟩
    exact Nv.rt_ret (e := (eP (rc (eT eI) (r1 (eT eI))))) (Nv.sv (e := (eP (rc (eT eI) (r1 (eT eI))))) (v := (s45.2.1, s45.2.2)) hh (Nv.e_tup (Nv.es_cons (Nv.e_bi (Nv.es_cons (Nv.e_var (d := (eL eI) s45.2.1) rfl) Nv.es_nil) Nv.b_tupL) (Nv.es_cons (Nv.e_bi (Nv.es_cons (Nv.e_var (d := (eL eI) s45.2.2) rfl) Nv.es_nil) Nv.b_tupL) Nv.es_nil))))
def n_store_run (p_store : (Int × Int × Int × Int)) (p_got : (List Int)) (p_wanted : (List Int)) : Option (List Int) :=
  Option.bind (n_store_steps p_store p_got p_wanted) fun (y1 : ((List Int) × (List Int))) => some y1.1
theorem p_store_run {p_store : (Int × Int × Int × Int)} {p_got : (List Int)} {p_wanted : (List Int)} {r : (List Int)} (hh : n_store_run p_store p_got p_wanted = some r) : F_store_run [(eP (rc eI (rc eI (rc eI (r1 eI))))) p_store, (eT eI) p_got, (eT eI) p_wanted] = some ((eT eI) r) := by
  unfold n_store_run at hh
  refine Nv.run_RT (e := (eT eI)) rfl ?_
  unfold C_store_run
  obtain ⟨y1, hy1, hh⟩ := Nv.bnd hh; exact Nv.rt_ret (e := (eT eI)) (Nv.sv (e := (eT eI)) (v := y1.1) hh (Nv.e_idx (d := (eT eI) y1.1) (Nv.e_fn (Nv.es_cons (Nv.e_var (d := (eP (rc eI (rc eI (rc eI (r1 eI))))) p_store) rfl) (Nv.es_cons (Nv.e_var (d := (eT eI) p_got) rfl) (Nv.es_cons (Nv.e_var (d := (eT eI) p_wanted) rfl) Nv.es_nil))) rfl (p_store_steps hy1)) Nv.e_int rfl))
def n_lacks_of (p_store : (Int × Int × Int × Int)) (p_got : (List Int)) (p_wanted : (List Int)) : Option (List Int) :=
  Option.bind (n_store_steps p_store p_got p_wanted) fun (y1 : ((List Int) × (List Int))) => some y1.2
theorem p_lacks_of {p_store : (Int × Int × Int × Int)} {p_got : (List Int)} {p_wanted : (List Int)} {r : (List Int)} (hh : n_lacks_of p_store p_got p_wanted = some r) : F_lacks_of [(eP (rc eI (rc eI (rc eI (r1 eI))))) p_store, (eT eI) p_got, (eT eI) p_wanted] = some ((eT eI) r) := by
  unfold n_lacks_of at hh
  refine Nv.run_RT (e := (eT eI)) rfl ?_
  unfold C_lacks_of
  obtain ⟨y1, hy1, hh⟩ := Nv.bnd hh; exact Nv.rt_ret (e := (eT eI)) (Nv.sv (e := (eT eI)) (v := y1.2) hh (Nv.e_idx (d := (eT eI) y1.2) (Nv.e_fn (Nv.es_cons (Nv.e_var (d := (eP (rc eI (rc eI (rc eI (r1 eI))))) p_store) rfl) (Nv.es_cons (Nv.e_var (d := (eT eI) p_got) rfl) (Nv.es_cons (Nv.e_var (d := (eT eI) p_wanted) rfl) Nv.es_nil))) rfl (p_store_steps hy1)) Nv.e_int rfl))
def n_can_store (p_store : (Int × Int × Int × Int)) (p_got : (List Int)) (p_wanted : (List Int)) : Option Bool :=
  Option.bind (n_lacks_of p_store p_got p_wanted) fun (y1 : (List Int)) => some (!(y1.any (· != 0)))
theorem p_can_store {p_store : (Int × Int × Int × Int)} {p_got : (List Int)} {p_wanted : (List Int)} {r : Bool} (hh : n_can_store p_store p_got p_wanted = some r) : F_can_store [(eP (rc eI (rc eI (rc eI (r1 eI))))) p_store, (eT eI) p_got, (eT eI) p_wanted] = some (eB r) := by
  unfold n_can_store at hh
  refine Nv.run_RT (e := eB) rfl ?_
  unfold C_can_store
  obtain ⟨y1, hy1, hh⟩ := Nv.bnd hh; exact Nv.rt_ret (e := eB) (Nv.sv (e := eB) (v := (!(y1.any (· != 0)))) hh (Nv.e_not (Nv.e_bi (Nv.es_cons (Nv.e_fn (Nv.es_cons (Nv.e_var (d := (eP (rc eI (rc eI (rc eI (r1 eI))))) p_store) rfl) (Nv.es_cons (Nv.e_var (d := (eT eI) p_got) rfl) (Nv.es_cons (Nv.e_var (d := (eT eI) p_wanted) rfl) Nv.es_nil))) rfl (p_lacks_of hy1)) Nv.es_nil) (Nv.b_anyI (xs := y1) rfl))))
def n__law_behind (p_store : (Int × Int × Int × Int)) (p_hold : Int) (p_over : Int) : Option (List Int) :=
  if (decide (0 ≤ p_over)) then
    Option.bind (rangeO p_hold ((min p_store.1 (p_hold + (min p_over p_store.2.1))) + 1)) fun (g1 : (List Int)) => Option.bind (lenO g1) fun (l2 : (List Int)) => some l2
  else
    some (cutL [(p_hold + p_over)] none (some (if ((decide ((-p_over) ≤ p_store.2.2.1)) && (decide ((-p_over) ≤ p_hold))) then (1 : Int) else 0)))
theorem p__law_behind {p_store : (Int × Int × Int × Int)} {p_hold : Int} {p_over : Int} {r : (List Int)} (hh : n__law_behind p_store p_hold p_over = some r) : F__law_behind [(eP (rc eI (rc eI (rc eI (r1 eI))))) p_store, eI p_hold, eI p_over] = some ((eL eI) r) := by
  unfold n__law_behind at hh
  refine Nv.run_RT (e := (eL eI)) rfl ?_
  unfold C__law_behind
  refine Nv.stp (Nv.s_asg (Nv.e_var (d := (eP (rc eI (rc eI (rc eI (r1 eI))))) p_store) rfl) (Nv.pl_4 (Nv.pl_nm rfl) (Nv.pl_nm rfl) (Nv.pl_nm rfl) (Nv.pl_nm rfl))) ?_
  refine Nv.stp_if (Nv.t_cmp (Nv.e_var (d := eI p_over) rfl) Nv.e_int rfl) (fun hc => ?_) (fun hc => ?_)
  · have hh := Nv.ift hc hh
    obtain ⟨g1, hg1, hh⟩ := Nv.bnd hh; obtain ⟨l2, hl2, hh⟩ := Nv.bnd hh; exact Nv.rt_ret (e := (eL eI)) (Nv.sv (e := (eL eI)) (v := l2) hh (Nv.cv (d' := (eL eI) l2) (Nv.e_rgs2 (Nv.e_var (d := eI p_hold) rfl) (Nv.e_op (Nv.e_bi (Nv.es_cons (Nv.e_var (d := eI p_store.1) rfl) (Nv.es_cons (Nv.e_op (Nv.e_var (d := eI p_hold) rfl) (Nv.e_bi (Nv.es_cons (Nv.e_var (d := eI p_over) rfl) (Nv.es_cons (Nv.e_var (d := eI p_store.2.1) rfl) Nv.es_nil)) Nv.b_min2) rfl) Nv.es_nil)) Nv.b_min2) Nv.e_int rfl) hg1 hl2) rfl))
  · have hh := Nv.iff_ hc hh
    exact Nv.rt_ret (e := (eL eI)) (Nv.sv (e := (eL eI)) (v := (cutL [(p_hold + p_over)] none (some (if ((decide ((-p_over) ≤ p_store.2.2.1)) && (decide ((-p_over) ≤ p_hold))) then (1 : Int) else 0)))) hh (Nv.e_slc (Nv.cv (d' := (eL eI) [(p_hold + p_over)]) (Nv.e_lst (Nv.es_cons (Nv.e_op (Nv.e_var (d := eI p_hold) rfl) (Nv.e_var (d := eI p_over) rfl) rfl) Nv.es_nil)) rfl) Nv.o_no (Nv.o_yes (Nv.e_bi (Nv.es_cons (Nv.e_and (Nv.e_cmp (Nv.e_neg (Nv.e_var (d := eI p_over) rfl)) (Nv.e_var (d := eI p_store.2.2.1) rfl) rfl) fun _ => (Nv.e_cmp (Nv.e_neg (Nv.e_var (d := eI p_over) rfl)) (Nv.e_var (d := eI p_hold) rfl) rfl)) Nv.es_nil) Nv.b_intB)) (Nv.sl_L (e := eI))))
def n__law_ways_L2 (p_store : (Int × Int × Int × Int)) (p_got : (List Int)) (p_wanted : (List Int)) (hour98 : Int) (s127 : (List (List Int))) (x100 : Int) : Option (List (List Int)) :=
  Option.bind (atI p_got hour98) fun (a129 : Int) => Option.bind (atI p_wanted hour98) fun (a130 : Int) => Option.bind (n__law_behind p_store x100 (a129 - a130)) fun (y131 : (List Int)) => Option.bind (lcO (fun (x132 : Int) => Option.bind (atI s127 (hour98 + 1)) fun (a133 : (List Int)) => some (decide (x132 ∈ a133))) y131) fun (z134 : (List Bool)) => if (z134.any id) then
    Option.bind (atI s127 hour98) fun (a135 : (List Int)) => Option.bind (appO a135 x100) fun (w136 : (List Int)) => Option.bind (setI s127 hour98 w136) fun (good137 : (List (List Int))) => some good137
  else
    some s127
def n__law_ways_L1 (p_store : (Int × Int × Int × Int)) (p_got : (List Int)) (p_wanted : (List Int)) (hours1 : Int) (s94 : (List (List Int))) (x9 : Int) : Option (List (List Int)) :=
  Option.bind (some ((hours1 - 1) - x9)) fun (hour98 : Int) => Option.bind (rangeO 0 (p_store.1 + 1)) fun (g99 : (List Int)) => Option.bind (foldO (n__law_ways_L2 p_store p_got p_wanted hour98) g99 s94) fun (s138 : (List (List Int))) =>
  some s138
def n__law_ways_L4 (p_store : (Int × Int × Int × Int)) (p_got : (List Int)) (p_wanted : (List Int)) (x146 : Int) (s208 : (List Int)) (x199 : Int) : Option (List Int) :=
  Option.bind (atI p_got x146) fun (a210 : Int) => Option.bind (atI p_wanted x146) fun (a211 : Int) => Option.bind (n__law_behind p_store x199 (a210 - a211)) fun (y212 : (List Int)) => Option.bind (catO s208 y212) fun (c213 : (List Int)) => some c213
def n__law_ways_L3 (p_store : (Int × Int × Int × Int)) (p_got : (List Int)) (p_wanted : (List Int)) (s140 : (List (List Int))) (s195 : ((List Int) × (List (Int × Int)))) (x146 : Int) : Option ((List Int) × (List (Int × Int))) :=
  Option.bind (foldO (n__law_ways_L4 p_store p_got p_wanted x146) s195.1 []) fun (s214 : (List Int)) =>
  Option.bind (sstO s214) fun (u216 : (List Int)) => Option.bind (lcM (fun (x217 : Int) => Option.bind (atI s140 (x146 + 1)) fun (a218 : (List Int)) => some (decide (x217 ∈ a218))) (fun (x217 : Int) => some x217) u216) fun (z219 : (List Int)) => Option.bind (atI z219 0) fun (a220 : Int) => Option.bind (atI z219 (-1)) fun (a221 : Int) => Option.bind (appO s195.2 (a220, a221)) fun (found222 : (List (Int × Int))) => some (z219, found222)
def n__law_ways (p_store : (Int × Int × Int × Int)) (p_got : (List Int)) (p_wanted : (List Int)) : Option (Option (List (Int × Int))) :=
  Option.bind (some (p_got.length : Int)) fun (hours1 : Int) => Option.bind (rangeO 0 hours1) fun (g2 : (List Int)) => Option.bind (lcO (fun (x3 : Int) => some ([] : List Int)) g2) fun (z4 : (List (List Int))) => Option.bind (rangeO 0 (p_store.1 + 1)) fun (g5 : (List Int)) => Option.bind (lenO g5) fun (l6 : (List Int)) => Option.bind (catO z4 [l6]) fun (c7 : (List (List Int))) => Option.bind (rangeO 0 hours1) fun (g8 : (List Int)) => Option.bind (foldO (n__law_ways_L1 p_store p_got p_wanted hours1) g8 c7) fun (s140 : (List (List Int))) =>
  Option.bind (atI s140 0) fun (a144 : (List Int)) => if (!(decide (p_store.2.2.2 ∈ a144))) then
    some (none : Option (List (Int × Int)))
  else
    Option.bind (rangeO 0 hours1) fun (g145 : (List Int)) => Option.bind (foldO (n__law_ways_L3 p_store p_got p_wanted s140) g145 ([p_store.2.2.2], [])) fun (s223 : ((List Int) × (List (Int × Int)))) =>
    some (some s223.2)
theorem p__law_ways {p_store : (Int × Int × Int × Int)} {p_got : (List Int)} {p_wanted : (List Int)} {r : (Option (List (Int × Int)))} (hh : n__law_ways p_store p_got p_wanted = some r) : F__law_ways [(eP (rc eI (rc eI (rc eI (r1 eI))))) p_store, (eT eI) p_got, (eT eI) p_wanted] = some ((eO (eT (eP (rc eI (r1 eI))))) r) := by
  unfold n__law_ways at hh
  refine Nv.run_RT (e := (eO (eT (eP (rc eI (r1 eI)))))) rfl ?_
  unfold C__law_ways
  obtain ⟨hours1, hhours1, hh⟩ := Nv.bnd hh; refine Nv.stp (Nv.s_set (Nv.sv (e := eI) (v := (p_got.length : Int)) hhours1 (Nv.e_bi (Nv.es_cons (Nv.e_var (d := (eT eI) p_got) rfl) Nv.es_nil) (Nv.b_lenT (e := eI))))) ?_
  obtain ⟨g2, hg2, hh⟩ := Nv.bnd hh; obtain ⟨z4, hz4, hh⟩ := Nv.bnd hh; obtain ⟨g5, hg5, hh⟩ := Nv.bnd hh; obtain ⟨l6, hl6, hh⟩ := Nv.bnd hh; obtain ⟨c7, hc7, hh⟩ := Nv.bnd hh; refine Nv.stp (Nv.s_set (Nv.e_op (Nv.cv (d' := (eL (eL eI)) z4) (Nv.lcN_ok (e := eI) (e' := (eL eI)) (ρ1 := fun x3 => [(eP (rc eI (rc eI (rc eI (r1 eI))))) p_store, (eT eI) p_got, (eT eI) p_wanted, eI hours1, D.bad, D.bad, eI x3, D.bad, D.bad, D.bad, D.bad, D.bad]) hz4 (Nv.i_rng1 (Nv.e_var (d := eI hours1) rfl) hg2) (fun x3 => (Nv.tg_nm rfl)) (fun x3 y hh => by exact Nv.sv (e := (eL eI)) (v := []) hh (Nv.e_lst Nv.es_nil))) rfl) (Nv.cv (d' := (eL (eL eI)) [l6]) (Nv.e_lst (Nv.es_cons (Nv.cv (d' := (eL eI) l6) (Nv.e_rgs1 (Nv.e_op (Nv.e_idx (d := eI p_store.1) (Nv.e_var (d := (eP (rc eI (rc eI (rc eI (r1 eI))))) p_store) rfl) Nv.e_int rfl) Nv.e_int rfl) hg5 hl6) rfl) Nv.es_nil)) rfl) (Nv.o_catL (e := (eL eI)) hc7))) ?_
  obtain ⟨g8, hg8, hh⟩ := Nv.bnd hh; obtain ⟨s140, hs140, hh⟩ := Nv.bnd hh
  refine Nv.stp_for (E := (fun (s : (List (List Int))) (ρ : List D) => ∃ j5 j6 j7 : D, ρ = [(eP (rc eI (rc eI (rc eI (r1 eI))))) p_store, (eT eI) p_got, (eT eI) p_wanted, eI hours1, (eL (eL eI)) s, j5, j6, j7, D.bad, D.bad, D.bad, D.bad])) (e := eI) hs140 (Nv.i_rng1 (Nv.e_var (d := eI hours1) rfl) hg8) ⟨D.bad, D.bad, D.bad, rfl⟩ ?_ ?_
  · rintro s94 x9 s' ρ ⟨j95, j96, j97, rfl⟩ hh
    unfold n__law_ways_L1 at hh
    refine Nv.tgb (Nv.tg_nm rfl) ?_
    obtain ⟨hour98, hhour98, hh⟩ := Nv.bnd hh; refine Nv.stp (Nv.s_set (Nv.sv (e := eI) (v := ((hours1 - 1) - x9)) hhour98 (Nv.e_op (Nv.e_op (Nv.e_var (d := eI hours1) rfl) Nv.e_int rfl) (Nv.e_var (d := eI x9) rfl) rfl))) ?_
    obtain ⟨g99, hg99, hh⟩ := Nv.bnd hh; obtain ⟨s138, hs138, hh⟩ := Nv.bnd hh
    refine Nv.stp_for (E := (fun (s : (List (List Int))) (ρ : List D) => ∃ j7 : D, ρ = [(eP (rc eI (rc eI (rc eI (r1 eI))))) p_store, (eT eI) p_got, (eT eI) p_wanted, eI hours1, (eL (eL eI)) s, eI x9, eI hour98, j7, D.bad, D.bad, D.bad, D.bad])) (e := eI) hs138 (Nv.i_rng1 (Nv.e_op (Nv.e_idx (d := eI p_store.1) (Nv.e_var (d := (eP (rc eI (rc eI (rc eI (r1 eI))))) p_store) rfl) Nv.e_int rfl) Nv.e_int rfl) hg99) ⟨j97, rfl⟩ ?_ ?_
    · rintro s127 x100 s' ρ ⟨j128, rfl⟩ hh
      unfold n__law_ways_L2 at hh
      refine Nv.tgb (Nv.tg_nm rfl) ?_
      obtain ⟨a129, ha129, hh⟩ := Nv.bnd hh; obtain ⟨a130, ha130, hh⟩ := Nv.bnd hh; obtain ⟨y131, hy131, hh⟩ := Nv.bnd hh; obtain ⟨z134, hz134, hh⟩ := Nv.bnd hh; refine Nv.stp_if (Nv.t_bi (Nv.e_bi (Nv.es_cons (Nv.lcN_ok (e := eI) (e' := eB) (ρ1 := fun x132 => [(eP (rc eI (rc eI (rc eI (r1 eI))))) p_store, (eT eI) p_got, (eT eI) p_wanted, eI hours1, (eL (eL eI)) s127, eI x9, eI hour98, eI x100, D.bad, D.bad, D.bad, eI x132]) hz134 (Nv.i_ex (xs := y131.map eI) (Nv.e_fn (Nv.es_cons (Nv.e_var (d := (eP (rc eI (rc eI (rc eI (r1 eI))))) p_store) rfl) (Nv.es_cons (Nv.e_var (d := eI x100) rfl) (Nv.es_cons (Nv.cv (d' := eI (a129 - a130)) (Nv.e_op (Nv.e_idx (Nv.e_var (d := (eT eI) p_got) rfl) (Nv.e_var (d := eI hour98) rfl) (Nv.ix_T (e := eI) ha129)) (Nv.e_idx (Nv.e_var (d := (eT eI) p_wanted) rfl) (Nv.e_var (d := eI hour98) rfl) (Nv.ix_T (e := eI) ha130)) rfl) rfl) Nv.es_nil))) rfl (p__law_behind hy131)) rfl) (fun x132 => (Nv.tg_nm rfl)) (fun x132 y hh => by obtain ⟨a133, ha133, hh⟩ := Nv.bnd hh; exact Nv.sv (e := eB) (v := (decide (x132 ∈ a133))) hh (Nv.e_cmp (Nv.e_var (d := eI x132) rfl) (Nv.e_idx (Nv.e_var (d := (eL (eL eI)) s127) rfl) (Nv.e_op (Nv.e_var (d := eI hour98) rfl) Nv.e_int rfl) (Nv.ix_L (e := (eL eI)) ha133)) (Nv.mem_L Nv.eq_I x132 a133)))) Nv.es_nil) (Nv.b_anyB (xs := z134) rfl)) Nv.tru_B) (fun hc => ?_) (fun hc => ?_)
      · have hh := Nv.ift hc hh
        obtain ⟨a135, ha135, hh⟩ := Nv.bnd hh; obtain ⟨w136, hw136, hh⟩ := Nv.bnd hh; obtain ⟨good137, hgood137, hh⟩ := Nv.bnd hh; refine Nv.stp (Nv.s_app1 (e := eI) (xs := s127) rfl (Nv.e_var (d := eI hour98) rfl) (Nv.e_var (d := eI x100) rfl) ha135 hw136 hgood137) ?_
        exact Nv.nx_nil' hh ⟨eI x100, rfl⟩
      · have hh := Nv.iff_ hc hh
        exact Nv.nx_nil' hh ⟨eI x100, rfl⟩
    · rintro ρ' ⟨j139, rfl⟩
      exact Nv.nx_nil' hh ⟨eI x9, eI hour98, j139, rfl⟩
  · rintro ρ' ⟨j141, j142, j143, rfl⟩
    refine Nv.stp (Nv.s_par2 (Nv.cv (d' := (eL eI) [p_store.2.2.2]) (Nv.e_lst (Nv.es_cons (Nv.e_idx (d := eI p_store.2.2.2) (Nv.e_var (d := (eP (rc eI (rc eI (rc eI (r1 eI))))) p_store) rfl) Nv.e_int rfl) Nv.es_nil)) rfl) (Nv.e_lst Nv.es_nil)) ?_
    obtain ⟨a144, ha144, hh⟩ := Nv.bnd hh; refine Nv.stp_if (Nv.t_cmp (Nv.e_idx (d := eI p_store.2.2.2) (Nv.e_var (d := (eP (rc eI (rc eI (rc eI (r1 eI))))) p_store) rfl) Nv.e_int rfl) (Nv.e_idx (Nv.e_var (d := (eL (eL eI)) s140) rfl) Nv.e_int (Nv.ix_L (e := (eL eI)) ha144)) (Nv.nmem_L Nv.eq_I p_store.2.2.2 a144)) (fun hc => ?_) (fun hc => ?_)
    · have hh := Nv.ift hc hh
      exact Nv.rt_ret (e := (eO (eT (eP (rc eI (r1 eI)))))) (Nv.sv (e := (eO (eT (eP (rc eI (r1 eI)))))) (v := none) hh (Nv.cv (d' := (eO (eT (eP (rc eI (r1 eI))))) none) Nv.e_non rfl))
    · have hh := Nv.iff_ hc hh
      obtain ⟨g145, hg145, hh⟩ := Nv.bnd hh; obtain ⟨s223, hs223, hh⟩ := Nv.bnd hh
      refine Nv.stp_for (E := (fun (s : ((List Int) × (List (Int × Int)))) (ρ : List D) => ∃ j6 j7 j10 : D, ρ = [(eP (rc eI (rc eI (rc eI (r1 eI))))) p_store, (eT eI) p_got, (eT eI) p_wanted, eI hours1, (eL (eL eI)) s140, j141, j6, j7, (eL eI) s.1, (eL (eP (rc eI (r1 eI)))) s.2, j10, D.bad])) (e := eI) hs223 (Nv.i_rng1 (Nv.e_var (d := eI hours1) rfl) hg145) ⟨j142, j143, D.bad, rfl⟩ ?_ ?_
      · rintro s195 x146 s' ρ ⟨j196, j197, j198, rfl⟩ hh
        unfold n__law_ways_L3 at hh
        refine Nv.tgb (Nv.tg_nm rfl) ?_
        refine Nv.stp (Nv.s_set (Nv.e_lst Nv.es_nil)) ?_
        obtain ⟨s214, hs214, hh⟩ := Nv.bnd hh
        refine Nv.stp_for (E := (fun (s : (List Int)) (ρ : List D) => ∃ j7 : D, ρ = [(eP (rc eI (rc eI (rc eI (r1 eI))))) p_store, (eT eI) p_got, (eT eI) p_wanted, eI hours1, (eL (eL eI)) s140, j141, eI x146, j7, (eL eI) s195.1, (eL (eP (rc eI (r1 eI)))) s195.2, (eL eI) s, D.bad])) (e := eI) hs214 (Nv.i_ex (xs := s195.1.map eI) (Nv.e_var (d := (eL eI) s195.1) rfl) rfl) ⟨j197, rfl⟩ ?_ ?_
        · rintro s208 x199 s' ρ ⟨j209, rfl⟩ hh
          unfold n__law_ways_L4 at hh
          refine Nv.tgb (Nv.tg_nm rfl) ?_
          obtain ⟨a210, ha210, hh⟩ := Nv.bnd hh; obtain ⟨a211, ha211, hh⟩ := Nv.bnd hh; obtain ⟨y212, hy212, hh⟩ := Nv.bnd hh; obtain ⟨c213, hc213, hh⟩ := Nv.bnd hh; refine Nv.stp (Nv.s_set (Nv.e_op (Nv.e_var (d := (eL eI) s208) rfl) (Nv.e_fn (Nv.es_cons (Nv.e_var (d := (eP (rc eI (rc eI (rc eI (r1 eI))))) p_store) rfl) (Nv.es_cons (Nv.e_var (d := eI x199) rfl) (Nv.es_cons (Nv.cv (d' := eI (a210 - a211)) (Nv.e_op (Nv.e_idx (Nv.e_var (d := (eT eI) p_got) rfl) (Nv.e_var (d := eI x146) rfl) (Nv.ix_T (e := eI) ha210)) (Nv.e_idx (Nv.e_var (d := (eT eI) p_wanted) rfl) (Nv.e_var (d := eI x146) rfl) (Nv.ix_T (e := eI) ha211)) rfl) rfl) Nv.es_nil))) rfl (p__law_behind hy212)) (Nv.o_catL (e := eI) hc213))) ?_
          exact Nv.nx_nil' hh ⟨eI x199, rfl⟩
        · rintro ρ' ⟨j215, rfl⟩
          obtain ⟨u216, hu216, hh⟩ := Nv.bnd hh; obtain ⟨z219, hz219, hh⟩ := Nv.bnd hh; refine Nv.stp (Nv.s_set (Nv.lcM_ok (e := eI) (e' := eI) (ρ1 := fun x217 => [(eP (rc eI (rc eI (rc eI (r1 eI))))) p_store, (eT eI) p_got, (eT eI) p_wanted, eI hours1, (eL (eL eI)) s140, j141, eI x146, eI x217, (eL eI) s195.1, (eL (eP (rc eI (r1 eI)))) s195.2, (eL eI) s214, D.bad]) hz219 (Nv.i_ex (xs := u216.map eI) (Nv.e_sst (xs := s214) (Nv.e_var (d := (eL eI) s214) rfl) hu216) rfl) (fun x217 => (Nv.tg_nm rfl)) (fun x217 t hh => by obtain ⟨a218, ha218, hh⟩ := Nv.bnd hh; exact Nv.tsv hh (Nv.t_cmp (Nv.e_var (d := eI x217) rfl) (Nv.e_idx (Nv.e_var (d := (eL (eL eI)) s140) rfl) (Nv.e_op (Nv.e_var (d := eI x146) rfl) Nv.e_int rfl) (Nv.ix_L (e := (eL eI)) ha218)) (Nv.mem_L Nv.eq_I x217 a218))) (fun x217 y hh => by exact Nv.sv (e := eI) (v := x217) hh (Nv.e_var (d := eI x217) rfl)))) ?_
          obtain ⟨a220, ha220, hh⟩ := Nv.bnd hh; obtain ⟨a221, ha221, hh⟩ := Nv.bnd hh; obtain ⟨found222, hfound222, hh⟩ := Nv.bnd hh; refine Nv.stp (Nv.s_app (e := (eP (rc eI (r1 eI)))) (xs := s195.2) rfl (Nv.cv (d' := (eP (rc eI (r1 eI))) (a220, a221)) (Nv.e_tup (Nv.es_cons (Nv.e_idx (Nv.e_var (d := (eL eI) z219) rfl) Nv.e_int (Nv.ix_L (e := eI) ha220)) (Nv.es_cons (Nv.e_idx (Nv.e_var (d := (eL eI) z219) rfl) (Nv.e_neg Nv.e_int) (Nv.ix_L (e := eI) ha221)) Nv.es_nil))) rfl) hfound222) ?_
          exact Nv.nx_nil' hh ⟨eI x146, j215, (eL eI) s214, rfl⟩
      · rintro ρ' ⟨j224, j225, j226, rfl⟩
        exact Nv.rt_ret (e := (eO (eT (eP (rc eI (r1 eI)))))) (Nv.sv (e := (eO (eT (eP (rc eI (r1 eI)))))) (v := (some s223.2)) hh (Nv.cv (d' := (eO (eT (eP (rc eI (r1 eI))))) (some s223.2)) (Nv.e_bi (Nv.es_cons (Nv.e_var (d := (eL (eP (rc eI (r1 eI)))) s223.2) rfl) Nv.es_nil) Nv.b_tupL) rfl))
def n_reach_bounds_L1 (p_store : (Int × Int × Int × Int)) (s14 : (Int × Int × (List (Int × Int)))) (x1 : (Int × Int)) : Option (St (Int × Int × (List (Int × Int))) (Option (List (Int × Int)))) :=
  if (decide (x1.2 ≤ x1.1)) then
    Option.bind (some (min p_store.1 (s14.2.1 + (min (x1.1 - x1.2) p_store.2.1)))) fun (high18 : Int) => Option.bind (appO s14.2.2 (s14.1, high18)) fun (found19 : (List (Int × Int))) => some (.nx (s14.1, high18, found19))
  else
    Option.bind (some (x1.2 - x1.1)) fun (need20 : Int) => if ((decide (p_store.2.2.1 < need20)) || (decide (s14.2.1 < need20))) then
      some (.rt (none : Option (List (Int × Int))))
    else
      Option.bind (some ((max s14.1 need20) - need20)) fun (low21 : Int) => Option.bind (some (s14.2.1 - need20)) fun (high22 : Int) => Option.bind (appO s14.2.2 (low21, high22)) fun (found23 : (List (Int × Int))) => some (.nx (low21, high22, found23))
def n_reach_bounds (p_store : (Int × Int × Int × Int)) (p_got : (List Int)) (p_wanted : (List Int)) : Option (Option (List (Int × Int))) :=
  Option.bind (loopO (τ := (Option (List (Int × Int)))) (n_reach_bounds_L1 p_store) (p_got.zip p_wanted) (p_store.2.2.2, p_store.2.2.2, [])) fun o24 => thenO o24 (fun s25 =>
    some (some s25.2.2)) (fun (r29 : (Option (List (Int × Int)))) => some r29)
theorem p_reach_bounds {p_store : (Int × Int × Int × Int)} {p_got : (List Int)} {p_wanted : (List Int)} {r : (Option (List (Int × Int)))} (hh : n_reach_bounds p_store p_got p_wanted = some r) : F_reach_bounds [(eP (rc eI (rc eI (rc eI (r1 eI))))) p_store, (eT eI) p_got, (eT eI) p_wanted] = some ((eO (eL (eP (rc eI (r1 eI))))) r) := by
  unfold n_reach_bounds at hh
  refine Nv.run_RT (e := (eO (eL (eP (rc eI (r1 eI)))))) rfl ?_
  unfold C_reach_bounds
  refine Nv.stp (Nv.s_asg (Nv.e_var (d := (eP (rc eI (rc eI (rc eI (r1 eI))))) p_store) rfl) (Nv.pl_4 (Nv.pl_nm rfl) (Nv.pl_nm rfl) (Nv.pl_nm rfl) (Nv.pl_nm rfl))) ?_
  refine Nv.stp (Nv.s_par3 (Nv.e_var (d := eI p_store.2.2.2) rfl) (Nv.e_var (d := eI p_store.2.2.2) rfl) (Nv.e_lst Nv.es_nil)) ?_
  obtain ⟨o24, ho24, hh⟩ := Nv.bnd hh
  refine Nv.stp_forX (E := (fun (s : (Int × Int × (List (Int × Int)))) (ρ : List D) => ∃ j10 j11 j12 : D, ρ = [(eP (rc eI (rc eI (rc eI (r1 eI))))) p_store, (eT eI) p_got, (eT eI) p_wanted, eI p_store.1, eI p_store.2.1, eI p_store.2.2.1, eI p_store.2.2.2, eI s.1, eI s.2.1, (eL (eP (rc eI (r1 eI)))) s.2.2, j10, j11, j12])) (er := (eO (eL (eP (rc eI (r1 eI)))))) (e := (eP (rc eI (r1 eI)))) ho24 (Nv.i_zipT (e := eI) (f := eI) (Nv.e_var (d := (eT eI) p_got) rfl) (Nv.e_var (d := (eT eI) p_wanted) rfl)) ⟨D.bad, D.bad, D.bad, rfl⟩ ?_ (fun s25 hq => ?_) (fun r29 hq => ?_)
  · rintro s14 x1 o ρ ⟨j15, j16, j17, rfl⟩ hh
    unfold n_reach_bounds_L1 at hh
    refine Nv.tgb (Nv.tg_2 (Nv.tg_nm rfl) (Nv.tg_nm rfl)) ?_
    refine Nv.stp_if (Nv.t_cmp (Nv.e_var (d := eI x1.1) rfl) (Nv.e_var (d := eI x1.2) rfl) rfl) (fun hc => ?_) (fun hc => ?_)
    · have hh := Nv.ift hc hh
      obtain ⟨high18, hhigh18, hh⟩ := Nv.bnd hh; refine Nv.stp (Nv.s_set (Nv.sv (e := eI) (v := (min p_store.1 (s14.2.1 + (min (x1.1 - x1.2) p_store.2.1)))) hhigh18 (Nv.e_bi (Nv.es_cons (Nv.e_var (d := eI p_store.1) rfl) (Nv.es_cons (Nv.e_op (Nv.e_var (d := eI s14.2.1) rfl) (Nv.e_bi (Nv.es_cons (Nv.e_op (Nv.e_var (d := eI x1.1) rfl) (Nv.e_var (d := eI x1.2) rfl) rfl) (Nv.es_cons (Nv.e_var (d := eI p_store.2.1) rfl) Nv.es_nil)) Nv.b_min2) rfl) Nv.es_nil)) Nv.b_min2))) ?_
      obtain ⟨found19, hfound19, hh⟩ := Nv.bnd hh; refine Nv.stp (Nv.s_app (e := (eP (rc eI (r1 eI)))) (xs := s14.2.2) rfl (Nv.cv (d' := (eP (rc eI (r1 eI))) (s14.1, high18)) (Nv.e_tup (Nv.es_cons (Nv.e_var (d := eI s14.1) rfl) (Nv.es_cons (Nv.e_var (d := eI high18) rfl) Nv.es_nil))) rfl) hfound19) ?_
      exact Nv.fx_nil' hh ⟨eI x1.1, eI x1.2, j17, rfl⟩
    · have hh := Nv.iff_ hc hh
      obtain ⟨need20, hneed20, hh⟩ := Nv.bnd hh; refine Nv.stp (Nv.s_set (Nv.sv (e := eI) (v := (x1.2 - x1.1)) hneed20 (Nv.e_op (Nv.e_var (d := eI x1.2) rfl) (Nv.e_var (d := eI x1.1) rfl) rfl))) ?_
      refine Nv.stp_if (Nv.t_or (Nv.t_cmp (Nv.e_var (d := eI need20) rfl) (Nv.e_var (d := eI p_store.2.2.1) rfl) rfl) fun _ => (Nv.t_cmp (Nv.e_var (d := eI need20) rfl) (Nv.e_var (d := eI s14.2.1) rfl) rfl)) (fun hc => ?_) (fun hc => ?_)
      · have hh := Nv.ift hc hh
        exact Nv.fx_ret' (e := (eO (eL (eP (rc eI (r1 eI)))))) (r := none) hh (Nv.cv (d' := (eO (eL (eP (rc eI (r1 eI))))) none) Nv.e_non rfl)
      · have hh := Nv.iff_ hc hh
        obtain ⟨low21, hlow21, hh⟩ := Nv.bnd hh; obtain ⟨high22, hhigh22, hh⟩ := Nv.bnd hh; refine Nv.stp (Nv.s_par2 (Nv.sv (e := eI) (v := ((max s14.1 need20) - need20)) hlow21 (Nv.e_op (Nv.e_bi (Nv.es_cons (Nv.e_var (d := eI s14.1) rfl) (Nv.es_cons (Nv.e_var (d := eI need20) rfl) Nv.es_nil)) Nv.b_max2) (Nv.e_var (d := eI need20) rfl) rfl)) (Nv.sv (e := eI) (v := (s14.2.1 - need20)) hhigh22 (Nv.e_op (Nv.e_var (d := eI s14.2.1) rfl) (Nv.e_var (d := eI need20) rfl) rfl))) ?_
        obtain ⟨found23, hfound23, hh⟩ := Nv.bnd hh; refine Nv.stp (Nv.s_app (e := (eP (rc eI (r1 eI)))) (xs := s14.2.2) rfl (Nv.cv (d' := (eP (rc eI (r1 eI))) (low21, high22)) (Nv.e_tup (Nv.es_cons (Nv.e_var (d := eI low21) rfl) (Nv.es_cons (Nv.e_var (d := eI high22) rfl) Nv.es_nil))) rfl) hfound23) ?_
        exact Nv.fx_nil' hh ⟨eI x1.1, eI x1.2, eI need20, rfl⟩
  · have hh := Nv.then_nx hq hh
    rintro ρ' ⟨j26, j27, j28, rfl⟩
    refine Nv.stp Nv.s_frz ?_
    exact Nv.rt_ret (e := (eO (eL (eP (rc eI (r1 eI)))))) (Nv.sv (e := (eO (eL (eP (rc eI (r1 eI)))))) (v := (some s25.2.2)) hh (Nv.cv (d' := (eO (eL (eP (rc eI (r1 eI))))) (some s25.2.2)) (Nv.e_var (d := (eL (eP (rc eI (r1 eI)))) s25.2.2) rfl) rfl))
  · have hh := Nv.then_rt hq hh
    exact Nv.rtr (e := (eO (eL (eP (rc eI (r1 eI)))))) hh
def n_needs_behind_L1 (p_store : (Int × Int × Int × Int)) (s7 : (Int × (List Int))) (x2 : (Int × Int)) : Option (Int × (List Int)) :=
  Option.bind (appO s7.2 s7.1) fun (found10 : (List Int)) => Option.bind (some (if (decide (x2.2 ≤ x2.1)) then (max 0 (s7.1 - (min (x2.1 - x2.2) p_store.2.1))) else ((s7.1 + x2.2) - x2.1))) fun (need11 : Int) => some (need11, found10)
def n_needs_behind (p_store : (Int × Int × Int × Int)) (p_got : (List Int)) (p_wanted : (List Int)) : Option (List Int) :=
  Option.bind (lzpO p_got p_wanted) fun (z1 : (List (Int × Int))) => Option.bind (foldO (n_needs_behind_L1 p_store) (z1.reverse) (0, [])) fun (s12 : (Int × (List Int))) =>
  some (s12.2.reverse)
theorem p_needs_behind {p_store : (Int × Int × Int × Int)} {p_got : (List Int)} {p_wanted : (List Int)} {r : (List Int)} (hh : n_needs_behind p_store p_got p_wanted = some r) : F_needs_behind [(eP (rc eI (rc eI (rc eI (r1 eI))))) p_store, (eT eI) p_got, (eT eI) p_wanted] = some ((eL eI) r) := by
  unfold n_needs_behind at hh
  refine Nv.run_RT (e := (eL eI)) rfl ?_
  unfold C_needs_behind
  refine Nv.stp (Nv.s_par2 Nv.e_int (Nv.e_lst Nv.es_nil)) ?_
  obtain ⟨z1, hz1, hh⟩ := Nv.bnd hh; obtain ⟨s12, hs12, hh⟩ := Nv.bnd hh
  refine Nv.stp_for (E := (fun (s : (Int × (List Int))) (ρ : List D) => ∃ j5 j6 : D, ρ = [(eP (rc eI (rc eI (rc eI (r1 eI))))) p_store, (eT eI) p_got, (eT eI) p_wanted, eI s.1, (eL eI) s.2, j5, j6])) (e := (eP (rc eI (r1 eI)))) hs12 (Nv.i_rvs (e := (eP (rc eI (r1 eI)))) (Nv.e_lzp (e := eI) (f := eI) (xs := p_got) (ys := p_wanted) (Nv.e_var (d := (eT eI) p_got) rfl) (Nv.e_var (d := (eT eI) p_wanted) rfl) hz1) rfl) ⟨D.bad, D.bad, rfl⟩ ?_ ?_
  · rintro s7 x2 s' ρ ⟨j8, j9, rfl⟩ hh
    unfold n_needs_behind_L1 at hh
    refine Nv.tgb (Nv.tg_2 (Nv.tg_nm rfl) (Nv.tg_nm rfl)) ?_
    obtain ⟨found10, hfound10, hh⟩ := Nv.bnd hh; refine Nv.stp (Nv.s_app (e := eI) (xs := s7.2) rfl (Nv.e_var (d := eI s7.1) rfl) hfound10) ?_
    obtain ⟨need11, hneed11, hh⟩ := Nv.bnd hh; refine Nv.stp (Nv.s_set (Nv.sv (e := eI) (v := (if (decide (x2.2 ≤ x2.1)) then (max 0 (s7.1 - (min (x2.1 - x2.2) p_store.2.1))) else ((s7.1 + x2.2) - x2.1))) hneed11 (Nv.e_ifx (e := eI) (Nv.t_cmp (Nv.e_var (d := eI x2.1) rfl) (Nv.e_var (d := eI x2.2) rfl) rfl) (fun _ => (Nv.cv (d' := eI (max 0 (s7.1 - (min (x2.1 - x2.2) p_store.2.1)))) (Nv.e_bi (Nv.es_cons Nv.e_int (Nv.es_cons (Nv.e_op (Nv.e_var (d := eI s7.1) rfl) (Nv.e_bi (Nv.es_cons (Nv.e_op (Nv.e_var (d := eI x2.1) rfl) (Nv.e_var (d := eI x2.2) rfl) rfl) (Nv.es_cons (Nv.e_idx (d := eI p_store.2.1) (Nv.e_var (d := (eP (rc eI (rc eI (rc eI (r1 eI))))) p_store) rfl) Nv.e_int rfl) Nv.es_nil)) Nv.b_min2) rfl) Nv.es_nil)) Nv.b_max2) rfl)) fun _ => (Nv.cv (d' := eI ((s7.1 + x2.2) - x2.1)) (Nv.e_op (Nv.e_op (Nv.e_var (d := eI s7.1) rfl) (Nv.e_var (d := eI x2.2) rfl) rfl) (Nv.e_var (d := eI x2.1) rfl) rfl) rfl)))) ?_
    exact Nv.nx_nil' hh ⟨eI x2.1, eI x2.2, rfl⟩
  · rintro ρ' ⟨j13, j14, rfl⟩
    exact Nv.rt_ret (e := (eL eI)) (Nv.sv (e := (eL eI)) (v := s12.2.reverse) hh (Nv.e_rev (e := eI) (Nv.e_var (d := (eL eI) s12.2) rfl)))
def n_bounds_held (p_store : (Int × Int × Int × Int)) (p_got : (List Int)) (p_wanted : (List Int)) : Option (Option (List (Int × Int))) :=
  Option.bind (n_reach_bounds p_store p_got p_wanted) fun (y1 : (Option (List (Int × Int)))) => Option.bind (n_needs_behind p_store p_got p_wanted) fun (y2 : (List Int)) => Option.bind (if y1.isNone then some true else (Option.bind (y1) fun (x3 : (List (Int × Int))) => Option.bind (lcO (fun (x4 : (Int × (Int × Int))) => some (decide (x4.2.2 < x4.1))) (y2.zip x3)) fun (z5 : (List Bool)) => some (z5.any id))) fun (t6 : Bool) => if t6 then
    some (none : Option (List (Int × Int)))
  else
    Option.bind (y1) fun (x7 : (List (Int × Int))) => Option.bind (lcO (fun (x8 : (Int × (Int × Int))) => some ((max x8.2.1 x8.1), x8.2.2)) (y2.zip x7)) fun (z9 : (List (Int × Int))) => some (some z9)
theorem p_bounds_held {p_store : (Int × Int × Int × Int)} {p_got : (List Int)} {p_wanted : (List Int)} {r : (Option (List (Int × Int)))} (hh : n_bounds_held p_store p_got p_wanted = some r) : F_bounds_held [(eP (rc eI (rc eI (rc eI (r1 eI))))) p_store, (eT eI) p_got, (eT eI) p_wanted] = some ((eO (eT (eP (rc eI (r1 eI))))) r) := by
  unfold n_bounds_held at hh
  refine Nv.run_RT (e := (eO (eT (eP (rc eI (r1 eI)))))) rfl ?_
  unfold C_bounds_held
  obtain ⟨y1, hy1, hh⟩ := Nv.bnd hh; obtain ⟨y2, hy2, hh⟩ := Nv.bnd hh; refine Nv.stp (Nv.s_par2 (Nv.e_fn (Nv.es_cons (Nv.e_var (d := (eP (rc eI (rc eI (rc eI (r1 eI))))) p_store) rfl) (Nv.es_cons (Nv.e_var (d := (eT eI) p_got) rfl) (Nv.es_cons (Nv.e_var (d := (eT eI) p_wanted) rfl) Nv.es_nil))) rfl (p_reach_bounds hy1)) (Nv.e_fn (Nv.es_cons (Nv.e_var (d := (eP (rc eI (rc eI (rc eI (r1 eI))))) p_store) rfl) (Nv.es_cons (Nv.e_var (d := (eT eI) p_got) rfl) (Nv.es_cons (Nv.e_var (d := (eT eI) p_wanted) rfl) Nv.es_nil))) rfl (p_needs_behind hy2))) ?_
  obtain ⟨t6, ht6, hh⟩ := Nv.bnd hh; refine Nv.stp_if (Nv.t_orM (Nv.t_isN (Nv.e_var (d := (eO (eL (eP (rc eI (r1 eI))))) y1) (Nv.ok_nb (Nv.nbO (fun _ => rfl) y1))) (Nv.nonO (fun _ => rfl) y1)) ht6 fun hh => by obtain ⟨x3, hx3, hh⟩ := Nv.bnd hh; obtain ⟨z5, hz5, hh⟩ := Nv.bnd hh; exact Nv.tsv hh (Nv.t_bi (Nv.e_bi (Nv.es_cons (Nv.lcN_ok (e := (eP (rc eI (r1 (eP (rc eI (r1 eI))))))) (e' := eB) (ρ1 := fun x4 => [(eP (rc eI (rc eI (rc eI (r1 eI))))) p_store, (eT eI) p_got, (eT eI) p_wanted, (eO (eL (eP (rc eI (r1 eI))))) y1, (eL eI) y2, eI x4.1, eI x4.2.1, eI x4.2.2]) hz5 (Nv.i_zipL (e := eI) (f := (eP (rc eI (r1 eI)))) (Nv.e_var (d := (eL eI) y2) rfl) (Nv.uw (e := (eL (eP (rc eI (r1 eI))))) hx3 (Nv.e_var (d := (eO (eL (eP (rc eI (r1 eI))))) y1) (Nv.ok_nb (Nv.nbO (fun _ => rfl) y1))))) (fun x4 => (Nv.tg_2 (Nv.tg_nm rfl) (Nv.tg_2 (Nv.tg_nm rfl) (Nv.tg_nm rfl)))) (fun x4 y hh => by exact Nv.sv (e := eB) (v := (decide (x4.2.2 < x4.1))) hh (Nv.e_cmp (Nv.e_var (d := eI x4.1) rfl) (Nv.e_var (d := eI x4.2.2) rfl) rfl))) Nv.es_nil) (Nv.b_anyB (xs := z5) rfl)) Nv.tru_B)) (fun hc => ?_) (fun hc => ?_)
  · have hh := Nv.ift hc hh
    exact Nv.rt_ret (e := (eO (eT (eP (rc eI (r1 eI)))))) (Nv.sv (e := (eO (eT (eP (rc eI (r1 eI)))))) (v := none) hh (Nv.cv (d' := (eO (eT (eP (rc eI (r1 eI))))) none) Nv.e_non rfl))
  · have hh := Nv.iff_ hc hh
    obtain ⟨x7, hx7, hh⟩ := Nv.bnd hh; obtain ⟨z9, hz9, hh⟩ := Nv.bnd hh; exact Nv.rt_ret (e := (eO (eT (eP (rc eI (r1 eI)))))) (Nv.sv (e := (eO (eT (eP (rc eI (r1 eI)))))) (v := (some z9)) hh (Nv.cv (d' := (eO (eT (eP (rc eI (r1 eI))))) (some z9)) (Nv.e_bi (Nv.es_cons (Nv.lcN_ok (e := (eP (rc eI (r1 (eP (rc eI (r1 eI))))))) (e' := (eP (rc eI (r1 eI)))) (ρ1 := fun x8 => [(eP (rc eI (rc eI (rc eI (r1 eI))))) p_store, (eT eI) p_got, (eT eI) p_wanted, (eO (eL (eP (rc eI (r1 eI))))) y1, (eL eI) y2, eI x8.1, eI x8.2.1, eI x8.2.2]) hz9 (Nv.i_zipL (e := eI) (f := (eP (rc eI (r1 eI)))) (Nv.e_var (d := (eL eI) y2) rfl) (Nv.uw (e := (eL (eP (rc eI (r1 eI))))) hx7 (Nv.e_var (d := (eO (eL (eP (rc eI (r1 eI))))) y1) (Nv.ok_nb (Nv.nbO (fun _ => rfl) y1))))) (fun x8 => (Nv.tg_2 (Nv.tg_nm rfl) (Nv.tg_2 (Nv.tg_nm rfl) (Nv.tg_nm rfl)))) (fun x8 y hh => by exact Nv.sv (e := (eP (rc eI (r1 eI)))) (v := ((max x8.2.1 x8.1), x8.2.2)) hh (Nv.e_tup (Nv.es_cons (Nv.e_bi (Nv.es_cons (Nv.e_var (d := eI x8.2.1) rfl) (Nv.es_cons (Nv.e_var (d := eI x8.1) rfl) Nv.es_nil)) Nv.b_max2) (Nv.es_cons (Nv.e_var (d := eI x8.2.2) rfl) Nv.es_nil))))) Nv.es_nil) Nv.b_tupL) rfl))
def n__law_with_room (p_store : (Int × Int × Int × Int)) (p_room : Int) : Option (Int × Int × Int × Int) :=
  some (p_room, p_store.2.1, p_store.2.2.1, (min p_room p_store.2.2.2))
theorem p__law_with_room {p_store : (Int × Int × Int × Int)} {p_room : Int} {r : (Int × Int × Int × Int)} (hh : n__law_with_room p_store p_room = some r) : F__law_with_room [(eP (rc eI (rc eI (rc eI (r1 eI))))) p_store, eI p_room] = some ((eP (rc eI (rc eI (rc eI (r1 eI))))) r) := by
  unfold n__law_with_room at hh
  refine Nv.run_RT (e := (eP (rc eI (rc eI (rc eI (r1 eI)))))) rfl ?_
  unfold C__law_with_room
  exact Nv.rt_ret (e := (eP (rc eI (rc eI (rc eI (r1 eI)))))) (Nv.sv (e := (eP (rc eI (rc eI (rc eI (r1 eI)))))) (v := (p_room, p_store.2.1, p_store.2.2.1, (min p_room p_store.2.2.2))) hh (Nv.e_tup (Nv.es_cons (Nv.e_var (d := eI p_room) rfl) (Nv.es_cons (Nv.e_idx (d := eI p_store.2.1) (Nv.e_var (d := (eP (rc eI (rc eI (rc eI (r1 eI))))) p_store) rfl) Nv.e_int rfl) (Nv.es_cons (Nv.e_idx (d := eI p_store.2.2.1) (Nv.e_var (d := (eP (rc eI (rc eI (rc eI (r1 eI))))) p_store) rfl) Nv.e_int rfl) (Nv.es_cons (Nv.e_bi (Nv.es_cons (Nv.e_var (d := eI p_room) rfl) (Nv.es_cons (Nv.e_idx (d := eI p_store.2.2.2) (Nv.e_var (d := (eP (rc eI (rc eI (rc eI (r1 eI))))) p_store) rfl) Nv.e_int rfl) Nv.es_nil)) Nv.b_min2) Nv.es_nil))))))
def n__law_least_L1 (p_store : (Int × Int × Int × Int)) (p_got : (List Int)) (p_wanted : (List Int)) (s15 : (List Int)) (x2 : Int) : Option (List Int) :=
  Option.bind (if (decide ((s15.length : Int) = 0)) then (Option.bind (n__law_with_room p_store x2) fun (y17 : (Int × Int × Int × Int)) => Option.bind (n__law_steps y17 p_got p_wanted) fun (y18 : ((List Int) × (List Int))) => some (!(y18.2.any (· != 0)))) else some false) fun (t19 : Bool) => if t19 then
    Option.bind (appO s15 x2) fun (rooms20 : (List Int)) => some rooms20
  else
    some s15
def n__law_least_L2 (p_store : (Int × Int × Int × Int)) (p_got : (List Int)) (p_wanted : (List Int)) (s35 : (List Int)) (x24 : Int) : Option (List Int) :=
  Option.bind (if (decide ((s35.length : Int) = 0)) then (Option.bind (n__law_steps (p_store.1, p_store.2.1, p_store.2.2.1, x24) p_got p_wanted) fun (y37 : ((List Int) × (List Int))) => some (!(y37.2.any (· != 0)))) else some false) fun (t38 : Bool) => if t38 then
    Option.bind (appO s35 x24) fun (firsts39 : (List Int)) => some firsts39
  else
    some s35
def n__law_least (p_store : (Int × Int × Int × Int)) (p_got : (List Int)) (p_wanted : (List Int)) : Option ((Option Int) × (Option Int)) :=
  Option.bind (rangeO 0 ((p_store.2.2.2 + p_got.sum) + 1)) fun (g1 : (List Int)) => Option.bind (foldO (n__law_least_L1 p_store p_got p_wanted) g1 []) fun (s21 : (List Int)) =>
  Option.bind (rangeO 0 (p_store.1 + 1)) fun (g23 : (List Int)) => Option.bind (foldO (n__law_least_L2 p_store p_got p_wanted) g23 []) fun (s40 : (List Int)) =>
  Option.bind (catO (s21.map fun (q : Int) => (some q)) [none]) fun (c42 : (List (Option Int))) => Option.bind (atI c42 0) fun (a43 : (Option Int)) => Option.bind (catO (s40.map fun (q : Int) => (some q)) [none]) fun (c44 : (List (Option Int))) => Option.bind (atI c44 0) fun (a45 : (Option Int)) => some (a43, a45)
theorem p__law_least {p_store : (Int × Int × Int × Int)} {p_got : (List Int)} {p_wanted : (List Int)} {r : ((Option Int) × (Option Int))} (hh : n__law_least p_store p_got p_wanted = some r) : F__law_least [(eP (rc eI (rc eI (rc eI (r1 eI))))) p_store, (eT eI) p_got, (eT eI) p_wanted] = some ((eP (rc (eO eI) (r1 (eO eI)))) r) := by
  unfold n__law_least at hh
  refine Nv.run_RT (e := (eP (rc (eO eI) (r1 (eO eI))))) rfl ?_
  unfold C__law_least
  refine Nv.stp (Nv.s_set (Nv.e_lst Nv.es_nil)) ?_
  obtain ⟨g1, hg1, hh⟩ := Nv.bnd hh; obtain ⟨s21, hs21, hh⟩ := Nv.bnd hh
  refine Nv.stp_for (E := (fun (s : (List Int)) (ρ : List D) => ∃ j4 : D, ρ = [(eP (rc eI (rc eI (rc eI (r1 eI))))) p_store, (eT eI) p_got, (eT eI) p_wanted, (eL eI) s, j4, D.bad, D.bad])) (e := eI) hs21 (Nv.i_rng1 (Nv.e_op (Nv.e_op (Nv.e_idx (d := eI p_store.2.2.2) (Nv.e_var (d := (eP (rc eI (rc eI (rc eI (r1 eI))))) p_store) rfl) Nv.e_int rfl) (Nv.e_bi (Nv.es_cons (Nv.e_var (d := (eT eI) p_got) rfl) Nv.es_nil) (Nv.b_sum (xs := p_got) rfl)) rfl) Nv.e_int rfl) hg1) ⟨D.bad, rfl⟩ ?_ ?_
  · rintro s15 x2 s' ρ ⟨j16, rfl⟩ hh
    unfold n__law_least_L1 at hh
    refine Nv.tgb (Nv.tg_nm rfl) ?_
    obtain ⟨t19, ht19, hh⟩ := Nv.bnd hh; refine Nv.stp_if (Nv.t_andM (Nv.t_cmp (Nv.e_bi (Nv.es_cons (Nv.e_var (d := (eL eI) s15) rfl) Nv.es_nil) (Nv.b_lenL (e := eI))) Nv.e_int (Nv.eq_ok Nv.eq_I (s15.length : Int) 0)) ht19 fun hh => by obtain ⟨y17, hy17, hh⟩ := Nv.bnd hh; obtain ⟨y18, hy18, hh⟩ := Nv.bnd hh; exact Nv.tsv hh (Nv.t_not (Nv.t_bi (Nv.e_bi (Nv.es_cons (Nv.e_idx (d := (eT eI) y18.2) (Nv.e_fn (Nv.es_cons (Nv.cv (d' := (eP (rc eI (rc eI (rc eI (r1 eI))))) y17) (Nv.e_fn (Nv.es_cons (Nv.e_var (d := (eP (rc eI (rc eI (rc eI (r1 eI))))) p_store) rfl) (Nv.es_cons (Nv.e_var (d := eI x2) rfl) Nv.es_nil)) rfl (p__law_with_room hy17)) rfl) (Nv.es_cons (Nv.e_var (d := (eT eI) p_got) rfl) (Nv.es_cons (Nv.e_var (d := (eT eI) p_wanted) rfl) Nv.es_nil))) rfl (p__law_steps hy18)) Nv.e_int rfl) Nv.es_nil) (Nv.b_anyI (xs := y18.2) rfl)) Nv.tru_B))) (fun hc => ?_) (fun hc => ?_)
    · have hh := Nv.ift hc hh
      obtain ⟨rooms20, hrooms20, hh⟩ := Nv.bnd hh; refine Nv.stp (Nv.s_app (e := eI) (xs := s15) rfl (Nv.e_var (d := eI x2) rfl) hrooms20) ?_
      exact Nv.nx_nil' hh ⟨eI x2, rfl⟩
    · have hh := Nv.iff_ hc hh
      exact Nv.nx_nil' hh ⟨eI x2, rfl⟩
  · rintro ρ' ⟨j22, rfl⟩
    refine Nv.stp (Nv.s_set (Nv.e_lst Nv.es_nil)) ?_
    obtain ⟨g23, hg23, hh⟩ := Nv.bnd hh; obtain ⟨s40, hs40, hh⟩ := Nv.bnd hh
    refine Nv.stp_for (E := (fun (s : (List Int)) (ρ : List D) => ∃ j6 : D, ρ = [(eP (rc eI (rc eI (rc eI (r1 eI))))) p_store, (eT eI) p_got, (eT eI) p_wanted, (eL eI) s21, j22, (eL eI) s, j6])) (e := eI) hs40 (Nv.i_rng1 (Nv.e_op (Nv.e_idx (d := eI p_store.1) (Nv.e_var (d := (eP (rc eI (rc eI (rc eI (r1 eI))))) p_store) rfl) Nv.e_int rfl) Nv.e_int rfl) hg23) ⟨D.bad, rfl⟩ ?_ ?_
    · rintro s35 x24 s' ρ ⟨j36, rfl⟩ hh
      unfold n__law_least_L2 at hh
      refine Nv.tgb (Nv.tg_nm rfl) ?_
      obtain ⟨t38, ht38, hh⟩ := Nv.bnd hh; refine Nv.stp_if (Nv.t_andM (Nv.t_cmp (Nv.e_bi (Nv.es_cons (Nv.e_var (d := (eL eI) s35) rfl) Nv.es_nil) (Nv.b_lenL (e := eI))) Nv.e_int (Nv.eq_ok Nv.eq_I (s35.length : Int) 0)) ht38 fun hh => by obtain ⟨y37, hy37, hh⟩ := Nv.bnd hh; exact Nv.tsv hh (Nv.t_not (Nv.t_bi (Nv.e_bi (Nv.es_cons (Nv.e_idx (d := (eT eI) y37.2) (Nv.e_fn (Nv.es_cons (Nv.cv (d' := (eP (rc eI (rc eI (rc eI (r1 eI))))) (p_store.1, p_store.2.1, p_store.2.2.1, x24)) (Nv.e_op (d := (eP (rc eI (rc eI (rc eI (r1 eI))))) (p_store.1, p_store.2.1, p_store.2.2.1, x24)) (Nv.e_slc (d := (eP (rc eI (rc eI (r1 eI)))) (p_store.1, p_store.2.1, p_store.2.2.1)) (Nv.e_var (d := (eP (rc eI (rc eI (rc eI (r1 eI))))) p_store) rfl) Nv.o_no (Nv.o_yes Nv.e_int) rfl) (Nv.e_tup (Nv.es_cons (Nv.e_var (d := eI x24) rfl) Nv.es_nil)) rfl) rfl) (Nv.es_cons (Nv.e_var (d := (eT eI) p_got) rfl) (Nv.es_cons (Nv.e_var (d := (eT eI) p_wanted) rfl) Nv.es_nil))) rfl (p__law_steps hy37)) Nv.e_int rfl) Nv.es_nil) (Nv.b_anyI (xs := y37.2) rfl)) Nv.tru_B))) (fun hc => ?_) (fun hc => ?_)
      · have hh := Nv.ift hc hh
        obtain ⟨firsts39, hfirsts39, hh⟩ := Nv.bnd hh; refine Nv.stp (Nv.s_app (e := eI) (xs := s35) rfl (Nv.e_var (d := eI x24) rfl) hfirsts39) ?_
        exact Nv.nx_nil' hh ⟨eI x24, rfl⟩
      · have hh := Nv.iff_ hc hh
        exact Nv.nx_nil' hh ⟨eI x24, rfl⟩
    · rintro ρ' ⟨j41, rfl⟩
      obtain ⟨c42, hc42, hh⟩ := Nv.bnd hh; obtain ⟨a43, ha43, hh⟩ := Nv.bnd hh; obtain ⟨c44, hc44, hh⟩ := Nv.bnd hh; obtain ⟨a45, ha45, hh⟩ := Nv.bnd hh; exact Nv.rt_ret (e := (eP (rc (eO eI) (r1 (eO eI))))) (Nv.sv (e := (eP (rc (eO eI) (r1 (eO eI))))) (v := (a43, a45)) hh (Nv.e_tup (Nv.es_cons (Nv.e_idx (Nv.e_op (Nv.cv (d' := (eL (eO eI)) (s21.map fun (q : Int) => (some q))) (Nv.e_var (d := (eL eI) s21) rfl) (Nv.co_L (e := eI) (e' := (eO eI)) (f := fun (q : Int) => (some q)) (fun _ => rfl) s21)) (Nv.cv (d' := (eL (eO eI)) [none]) (Nv.cv (d' := (eL eN) [()]) (Nv.e_lst (Nv.es_cons Nv.e_non Nv.es_nil)) rfl) rfl) (Nv.o_catL (e := (eO eI)) hc42)) Nv.e_int (Nv.ix_L (e := (eO eI)) ha43)) (Nv.es_cons (Nv.e_idx (Nv.e_op (Nv.cv (d' := (eL (eO eI)) (s40.map fun (q : Int) => (some q))) (Nv.e_var (d := (eL eI) s40) rfl) (Nv.co_L (e := eI) (e' := (eO eI)) (f := fun (q : Int) => (some q)) (fun _ => rfl) s40)) (Nv.cv (d' := (eL (eO eI)) [none]) (Nv.cv (d' := (eL eN) [()]) (Nv.e_lst (Nv.es_cons Nv.e_non Nv.es_nil)) rfl) rfl) (Nv.o_catL (e := (eO eI)) hc44)) Nv.e_int (Nv.ix_L (e := (eO eI)) ha45)) Nv.es_nil))))
def n_with_store_room (p_store : (Int × Int × Int × Int)) (p_room : Int) : Option (Int × Int × Int × Int) :=
  some (p_room, p_store.2.1, p_store.2.2.1, (min p_store.2.2.2 p_room))
theorem p_with_store_room {p_store : (Int × Int × Int × Int)} {p_room : Int} {r : (Int × Int × Int × Int)} (hh : n_with_store_room p_store p_room = some r) : F_with_store_room [(eP (rc eI (rc eI (rc eI (r1 eI))))) p_store, eI p_room] = some ((eP (rc eI (rc eI (rc eI (r1 eI))))) r) := by
  unfold n_with_store_room at hh
  refine Nv.run_RT (e := (eP (rc eI (rc eI (rc eI (r1 eI)))))) rfl ?_
  unfold C_with_store_room
  exact Nv.rt_ret (e := (eP (rc eI (rc eI (rc eI (r1 eI)))))) (Nv.sv (e := (eP (rc eI (rc eI (rc eI (r1 eI)))))) (v := (p_room, p_store.2.1, p_store.2.2.1, (min p_store.2.2.2 p_room))) hh (Nv.e_tup (Nv.es_cons (Nv.e_var (d := eI p_room) rfl) (Nv.es_cons (Nv.e_idx (d := eI p_store.2.1) (Nv.e_var (d := (eP (rc eI (rc eI (rc eI (r1 eI))))) p_store) rfl) Nv.e_int rfl) (Nv.es_cons (Nv.e_idx (d := eI p_store.2.2.1) (Nv.e_var (d := (eP (rc eI (rc eI (rc eI (r1 eI))))) p_store) rfl) Nv.e_int rfl) (Nv.es_cons (Nv.e_bi (Nv.es_cons (Nv.e_idx (d := eI p_store.2.2.2) (Nv.e_var (d := (eP (rc eI (rc eI (rc eI (r1 eI))))) p_store) rfl) Nv.e_int rfl) (Nv.es_cons (Nv.e_var (d := eI p_room) rfl) Nv.es_nil)) Nv.b_min2) Nv.es_nil))))))
def n_least_room_L1 (p_store : (Int × Int × Int × Int)) (p_got : (List Int)) (p_wanted : (List Int)) (s7 : Unit) (x2 : Int) : Option (St Unit (Option Int)) :=
  Option.bind (n_with_store_room p_store x2) fun (y9 : (Int × Int × Int × Int)) => Option.bind (n_can_store y9 p_got p_wanted) fun (y10 : Bool) => if y10 then
    some (.rt (some x2))
  else
    some (.nx ())
def n_least_room (p_store : (Int × Int × Int × Int)) (p_got : (List Int)) (p_wanted : (List Int)) : Option (Option Int) :=
  Option.bind (rangeO 0 (((max p_store.2.2.2 0) + p_got.sum) + 1)) fun (g1 : (List Int)) => Option.bind (loopO (τ := (Option Int)) (n_least_room_L1 p_store p_got p_wanted) g1 ()) fun o11 => thenO o11 (fun s12 =>
    some (none : Option Int)) (fun (r14 : (Option Int)) => some r14)
theorem p_least_room {p_store : (Int × Int × Int × Int)} {p_got : (List Int)} {p_wanted : (List Int)} {r : (Option Int)} (hh : n_least_room p_store p_got p_wanted = some r) : F_least_room [(eP (rc eI (rc eI (rc eI (r1 eI))))) p_store, (eT eI) p_got, (eT eI) p_wanted] = some ((eO eI) r) := by
  unfold n_least_room at hh
  refine Nv.run_RT (e := (eO eI)) rfl ?_
  unfold C_least_room
  obtain ⟨g1, hg1, hh⟩ := Nv.bnd hh; obtain ⟨o11, ho11, hh⟩ := Nv.bnd hh
  refine Nv.stp_forX (E := (fun (s : Unit) (ρ : List D) => ∃ j3 : D, ρ = [(eP (rc eI (rc eI (rc eI (r1 eI))))) p_store, (eT eI) p_got, (eT eI) p_wanted, j3])) (er := (eO eI)) (e := eI) ho11 (Nv.i_rng1 (Nv.e_op (Nv.e_op (Nv.e_bi (Nv.es_cons (Nv.e_idx (d := eI p_store.2.2.2) (Nv.e_var (d := (eP (rc eI (rc eI (rc eI (r1 eI))))) p_store) rfl) Nv.e_int rfl) (Nv.es_cons Nv.e_int Nv.es_nil)) Nv.b_max2) (Nv.e_bi (Nv.es_cons (Nv.e_var (d := (eT eI) p_got) rfl) Nv.es_nil) (Nv.b_sum (xs := p_got) rfl)) rfl) Nv.e_int rfl) hg1) ⟨D.bad, rfl⟩ ?_ (fun s12 hq => ?_) (fun r14 hq => ?_)
  · rintro s7 x2 o ρ ⟨j8, rfl⟩ hh
    unfold n_least_room_L1 at hh
    refine Nv.tgb (Nv.tg_nm rfl) ?_
    obtain ⟨y9, hy9, hh⟩ := Nv.bnd hh; obtain ⟨y10, hy10, hh⟩ := Nv.bnd hh; refine Nv.stp_if (Nv.t_fn (Nv.e_fn (Nv.es_cons (Nv.cv (d' := (eP (rc eI (rc eI (rc eI (r1 eI))))) y9) (Nv.e_fn (Nv.es_cons (Nv.e_var (d := (eP (rc eI (rc eI (rc eI (r1 eI))))) p_store) rfl) (Nv.es_cons (Nv.e_var (d := eI x2) rfl) Nv.es_nil)) rfl (p_with_store_room hy9)) rfl) (Nv.es_cons (Nv.e_var (d := (eT eI) p_got) rfl) (Nv.es_cons (Nv.e_var (d := (eT eI) p_wanted) rfl) Nv.es_nil))) rfl (p_can_store hy10)) Nv.tru_B) (fun hc => ?_) (fun hc => ?_)
    · have hh := Nv.ift hc hh
      exact Nv.fx_ret' (e := (eO eI)) (r := (some x2)) hh (Nv.cv (d' := (eO eI) (some x2)) (Nv.e_var (d := eI x2) rfl) rfl)
    · have hh := Nv.iff_ hc hh
      exact Nv.fx_nil' hh ⟨eI x2, rfl⟩
  · have hh := Nv.then_nx hq hh
    rintro ρ' ⟨j13, rfl⟩
    exact Nv.rt_ret (e := (eO eI)) (Nv.sv (e := (eO eI)) (v := none) hh (Nv.cv (d' := (eO eI) none) Nv.e_non rfl))
  · have hh := Nv.then_rt hq hh
    exact Nv.rtr (e := (eO eI)) hh
def n_least_first_L1 (p_store : (Int × Int × Int × Int)) (p_got : (List Int)) (p_wanted : (List Int)) (s5 : Unit) (x2 : Int) : Option (St Unit (Option Int)) :=
  Option.bind (n_can_store (p_store.1, p_store.2.1, p_store.2.2.1, x2) p_got p_wanted) fun (y7 : Bool) => if y7 then
    some (.rt (some x2))
  else
    some (.nx ())
def n_least_first (p_store : (Int × Int × Int × Int)) (p_got : (List Int)) (p_wanted : (List Int)) : Option (Option Int) :=
  Option.bind (rangeO 0 (p_store.1 + 1)) fun (g1 : (List Int)) => Option.bind (loopO (τ := (Option Int)) (n_least_first_L1 p_store p_got p_wanted) g1 ()) fun o8 => thenO o8 (fun s9 =>
    some (none : Option Int)) (fun (r11 : (Option Int)) => some r11)
theorem p_least_first {p_store : (Int × Int × Int × Int)} {p_got : (List Int)} {p_wanted : (List Int)} {r : (Option Int)} (hh : n_least_first p_store p_got p_wanted = some r) : F_least_first [(eP (rc eI (rc eI (rc eI (r1 eI))))) p_store, (eT eI) p_got, (eT eI) p_wanted] = some ((eO eI) r) := by
  unfold n_least_first at hh
  refine Nv.run_RT (e := (eO eI)) rfl ?_
  unfold C_least_first
  obtain ⟨g1, hg1, hh⟩ := Nv.bnd hh; obtain ⟨o8, ho8, hh⟩ := Nv.bnd hh
  refine Nv.stp_forX (E := (fun (s : Unit) (ρ : List D) => ∃ j3 : D, ρ = [(eP (rc eI (rc eI (rc eI (r1 eI))))) p_store, (eT eI) p_got, (eT eI) p_wanted, j3])) (er := (eO eI)) (e := eI) ho8 (Nv.i_rng1 (Nv.e_op (Nv.e_idx (d := eI p_store.1) (Nv.e_var (d := (eP (rc eI (rc eI (rc eI (r1 eI))))) p_store) rfl) Nv.e_int rfl) Nv.e_int rfl) hg1) ⟨D.bad, rfl⟩ ?_ (fun s9 hq => ?_) (fun r11 hq => ?_)
  · rintro s5 x2 o ρ ⟨j6, rfl⟩ hh
    unfold n_least_first_L1 at hh
    refine Nv.tgb (Nv.tg_nm rfl) ?_
    obtain ⟨y7, hy7, hh⟩ := Nv.bnd hh; refine Nv.stp_if (Nv.t_fn (Nv.e_fn (Nv.es_cons (Nv.cv (d' := (eP (rc eI (rc eI (rc eI (r1 eI))))) (p_store.1, p_store.2.1, p_store.2.2.1, x2)) (Nv.e_op (d := (eP (rc eI (rc eI (rc eI (r1 eI))))) (p_store.1, p_store.2.1, p_store.2.2.1, x2)) (Nv.e_slc (d := (eP (rc eI (rc eI (r1 eI)))) (p_store.1, p_store.2.1, p_store.2.2.1)) (Nv.e_var (d := (eP (rc eI (rc eI (rc eI (r1 eI))))) p_store) rfl) Nv.o_no (Nv.o_yes Nv.e_int) rfl) (Nv.e_tup (Nv.es_cons (Nv.e_var (d := eI x2) rfl) Nv.es_nil)) rfl) rfl) (Nv.es_cons (Nv.e_var (d := (eT eI) p_got) rfl) (Nv.es_cons (Nv.e_var (d := (eT eI) p_wanted) rfl) Nv.es_nil))) rfl (p_can_store hy7)) Nv.tru_B) (fun hc => ?_) (fun hc => ?_)
    · have hh := Nv.ift hc hh
      exact Nv.fx_ret' (e := (eO eI)) (r := (some x2)) hh (Nv.cv (d' := (eO eI) (some x2)) (Nv.e_var (d := eI x2) rfl) rfl)
    · have hh := Nv.iff_ hc hh
      exact Nv.fx_nil' hh ⟨eI x2, rfl⟩
  · have hh := Nv.then_nx hq hh
    rintro ρ' ⟨j10, rfl⟩
    exact Nv.rt_ret (e := (eO eI)) (Nv.sv (e := (eO eI)) (v := none) hh (Nv.cv (d' := (eO eI) none) Nv.e_non rfl))
  · have hh := Nv.then_rt hq hh
    exact Nv.rtr (e := (eO eI)) hh
def n_law_L1 (store19 : (Int × Int × Int × Int)) (z23 : (List Int)) (s41 : (List Int)) (y58 : ((Option Int) × (Option Int))) (s110 : Unit) (x65 : Int) : Option (St Unit Bool) :=
  Option.bind (if (!y58.1.isNone) then (Option.bind (y58.1) fun (x113 : Int) => some (decide (x65 ≤ x113))) else some false) fun (t114 : Bool) => if t114 then
    Option.bind (y58.1) fun (x115 : Int) => Option.bind (n__law_with_room store19 (x115 - x65)) fun (y116 : (Int × Int × Int × Int)) => Option.bind (n_can_store y116 z23 s41) fun (y117 : Bool) => Option.bind (likeN sm0 y117 (decide (x65 = 0))) fun (l118 : Bool) => if (!l118) then
      some (.rt false)
    else
      Option.bind (if (!y58.2.isNone) then (Option.bind (y58.2) fun (x119 : Int) => some (decide (x65 ≤ x119))) else some false) fun (t120 : Bool) => if t120 then
        Option.bind (y58.2) fun (x121 : Int) => Option.bind (some (store19.1, store19.2.1, store19.2.2.1, (x121 - x65))) fun (some122 : (Int × Int × Int × Int)) => Option.bind (n_can_store some122 z23 s41) fun (y123 : Bool) => Option.bind (likeN sm0 y123 (decide (x65 = 0))) fun (l124 : Bool) => if (!l124) then
          some (.rt false)
        else
          Option.bind (n_lacks_of some122 z23 s41) fun (y125 : (List Int)) => Option.bind (likeN sm0 (decide (y125.sum = 0)) (decide (x65 = 0))) fun (l126 : Bool) => if (!l126) then
            some (.rt false)
          else
            some (.nx ())
      else
        some (.nx ())
  else
    Option.bind (if (!y58.2.isNone) then (Option.bind (y58.2) fun (x127 : Int) => some (decide (x65 ≤ x127))) else some false) fun (t128 : Bool) => if t128 then
      Option.bind (y58.2) fun (x129 : Int) => Option.bind (some (store19.1, store19.2.1, store19.2.2.1, (x129 - x65))) fun (some130 : (Int × Int × Int × Int)) => Option.bind (n_can_store some130 z23 s41) fun (y131 : Bool) => Option.bind (likeN sm0 y131 (decide (x65 = 0))) fun (l132 : Bool) => if (!l132) then
        some (.rt false)
      else
        Option.bind (n_lacks_of some130 z23 s41) fun (y133 : (List Int)) => Option.bind (likeN sm0 (decide (y133.sum = 0)) (decide (x65 = 0))) fun (l134 : Bool) => if (!l134) then
          some (.rt false)
        else
          some (.nx ())
    else
      some (.nx ())
def n_law (p_script : (List Int)) : Option Bool :=
  Option.bind (rowN p_script 90) fun (row1 : (List Int)) => Option.bind (atI row1 0) fun (a2 : Int) => Option.bind (some (1 + (a2 % 6))) fun (hours3 : Int) => Option.bind (atI row1 1) fun (a4 : Int) => Option.bind (if (decide ((a4 % 24) = 21)) then
      Option.bind (atI row1 0) fun (a7 : Int) => Option.bind (some (12 + (a7 % 13))) fun (hours8 : Int) => some (100, 41, hours8)
    else
      some (13, 6, hours3)) fun (s9 : (Int × Int × Int)) => 
  Option.bind (atI row1 2) fun (a10 : Int) => Option.bind (modO a10 s9.1) fun (q11 : Int) => Option.bind (atI row1 3) fun (a12 : Int) => Option.bind (modO a12 s9.2.1) fun (q13 : Int) => Option.bind (atI row1 4) fun (a14 : Int) => Option.bind (modO a14 s9.2.1) fun (q15 : Int) => Option.bind (some (q11, q13, q15, 0)) fun (store16 : (Int × Int × Int × Int)) => Option.bind (atI row1 5) fun (a17 : Int) => Option.bind (modO a17 (store16.1 + 1)) fun (q18 : Int) => Option.bind (some (store16.1, store16.2.1, store16.2.2.1, q18)) fun (store19 : (Int × Int × Int × Int)) => Option.bind (rangeO 0 s9.2.2) fun (g20 : (List Int)) => Option.bind (lcO (fun (x21 : Int) => Option.bind (atI row1 (8 + x21)) fun (a22 : Int) => some (a22 % 10)) g20) fun (z23 : (List Int)) => Option.bind (rangeO 0 s9.2.2) fun (g24 : (List Int)) => Option.bind (lcO (fun (x25 : Int) => Option.bind (atI row1 (33 + x25)) fun (a26 : Int) => some (a26 % 10)) g24) fun (z27 : (List Int)) => Option.bind (atI row1 6) fun (a28 : Int) => Option.bind (if (decide ((a28 % 2) = 0)) then
      Option.bind (n__law_served row1 store19 z23) fun (y35 : (List Int)) => Option.bind (atI row1 7) fun (a36 : Int) => Option.bind (modO a36 s9.2.2) fun (q37 : Int) => Option.bind (atI y35 q37) fun (a38 : Int) => Option.bind (atI row1 6) fun (a39 : Int) => Option.bind (setI y35 q37 (a38 + (if (decide (((a39 / 2) % 4) = 0)) then (1 : Int) else 0))) fun (wanted40 : (List Int)) => some wanted40
    else
      some z27) fun (s41 : (List Int)) => 
  Option.bind (n__law_steps store19 z23 s41) fun (y43 : ((List Int) × (List Int))) => Option.bind (n_store_run store19 z23 s41) fun (y44 : (List Int)) => Option.bind (likeN (smT sm0) y44 y43.1) fun (l45 : Bool) => Option.bind (if (!l45) then some true else (Option.bind (n_lacks_of store19 z23 s41) fun (y46 : (List Int)) => Option.bind (likeN (smT sm0) y46 y43.2) fun (l47 : Bool) => some (!l47))) fun (t48 : Bool) => if t48 then
    some false
  else
    Option.bind (n_can_store store19 z23 s41) fun (y49 : Bool) => Option.bind (likeN sm0 y49 (!(y43.2.any (· != 0)))) fun (l50 : Bool) => if (!l50) then
      some false
    else
      Option.bind (n__law_ways store19 z23 s41) fun (y51 : (Option (List (Int × Int)))) => Option.bind (n_bounds_held store19 z23 s41) fun (y52 : (Option (List (Int × Int)))) => Option.bind (likeN (smO (smT (smc sm0 sm0))) y52 y51) fun (l53 : Bool) => if ((!l53) || (!(y51.isNone == (y43.2.any (· != 0))))) then
        some false
      else
        Option.bind (if (!y51.isNone) then (Option.bind (y51) fun (x54 : (List (Int × Int))) => Option.bind (lcO (fun (x55 : (Int × Int)) => some x55.2) x54) fun (z56 : (List Int)) => some (!(decide (z56 = y43.1)))) else some false) fun (t57 : Bool) => if t57 then
          some false
        else
          Option.bind (n__law_least store19 z23 s41) fun (y58 : ((Option Int) × (Option Int))) => Option.bind (n_least_room store19 z23 s41) fun (y59 : (Option Int)) => Option.bind (likeN (smO sm0) y59 y58.1) fun (l60 : Bool) => Option.bind (if (!l60) then some true else (Option.bind (n_least_first store19 z23 s41) fun (y61 : (Option Int)) => Option.bind (likeN (smO sm0) y61 y58.2) fun (l62 : Bool) => some (!l62))) fun (t63 : Bool) => if t63 then
            some false
          else
            Option.bind (rangeO 0 2) fun (g64 : (List Int)) => Option.bind (loopO (τ := Bool) (n_law_L1 store19 z23 s41 y58) g64 ()) fun o135 => thenO o135 (fun s136 =>
              some true) (fun (r139 : Bool) => some r139)
theorem p_law {p_script : (List Int)} {r : Bool} (hh : n_law p_script = some r) : F_law [(eC eI) p_script] = some (eB r) := by
  unfold n_law at hh
  refine Nv.run_RT (e := eB) rfl ?_
  unfold C_law
  obtain ⟨row1, hrow1, hh⟩ := Nv.bnd hh; refine Nv.stp (Nv.s_set (Nv.e_fn (Nv.es_cons (Nv.e_var (d := (eC eI) p_script) rfl) (Nv.es_cons Nv.e_int Nv.es_nil)) rfl (Nv.rowN_p hrow1))) ?_
  obtain ⟨a2, ha2, hh⟩ := Nv.bnd hh; obtain ⟨hours3, hhours3, hh⟩ := Nv.bnd hh; refine Nv.stp (Nv.s_par3 Nv.e_int Nv.e_int (Nv.sv (e := eI) (v := (1 + (a2 % 6))) hhours3 (Nv.e_op Nv.e_int (Nv.e_op (Nv.e_bi (Nv.es_cons (Nv.e_idx (Nv.e_var (d := (eL eI) row1) rfl) Nv.e_int (Nv.ix_L (e := eI) ha2)) Nv.es_nil) Nv.b_intI) Nv.e_int (Nv.o_modL (b := 6) (by decide))) rfl))) ?_
  obtain ⟨a4, ha4, hh⟩ := Nv.bnd hh; obtain ⟨s9, hs9, hh⟩ := Nv.bnd hh
  refine Nv.stp_ifj (E := (fun (s : (Int × Int × Int)) (ρ : List D) => ρ = [(eC eI) p_script, (eL eI) row1, D.bad, D.bad, D.bad, D.bad, D.bad, eI s.1, eI s.2.1, eI s.2.2, D.bad, D.bad, D.bad, D.bad, D.bad, D.bad, D.bad, D.bad, D.bad])) (x := s9) (Nv.t_cmp (Nv.e_op (Nv.e_bi (Nv.es_cons (Nv.e_idx (Nv.e_var (d := (eL eI) row1) rfl) Nv.e_int (Nv.ix_L (e := eI) ha4)) Nv.es_nil) Nv.b_intI) Nv.e_int (Nv.o_modL (b := 24) (by decide))) Nv.e_int (Nv.eq_ok Nv.eq_I (a4 % 24) 21)) (fun hc => ?_) (fun hc => ?_) ?_
  · have hh := Nv.ift hc hs9
    obtain ⟨a7, ha7, hh⟩ := Nv.bnd hh; obtain ⟨hours8, hhours8, hh⟩ := Nv.bnd hh; refine Nv.stp (Nv.s_par3 Nv.e_int Nv.e_int (Nv.sv (e := eI) (v := (12 + (a7 % 13))) hhours8 (Nv.e_op Nv.e_int (Nv.e_op (Nv.e_bi (Nv.es_cons (Nv.e_idx (Nv.e_var (d := (eL eI) row1) rfl) Nv.e_int (Nv.ix_L (e := eI) ha7)) Nv.es_nil) Nv.b_intI) Nv.e_int (Nv.o_modL (b := 13) (by decide))) rfl))) ?_
    exact Nv.nx_nil' hh rfl
  · have hh := Nv.iff_ hc hs9
    exact Nv.nx_nil' hh rfl
  rintro ρ' rfl
  obtain ⟨a10, ha10, hh⟩ := Nv.bnd hh; obtain ⟨q11, hq11, hh⟩ := Nv.bnd hh; obtain ⟨a12, ha12, hh⟩ := Nv.bnd hh; obtain ⟨q13, hq13, hh⟩ := Nv.bnd hh; obtain ⟨a14, ha14, hh⟩ := Nv.bnd hh; obtain ⟨q15, hq15, hh⟩ := Nv.bnd hh; obtain ⟨store16, hstore16, hh⟩ := Nv.bnd hh; refine Nv.stp (Nv.s_set (Nv.sv (e := (eP (rc eI (rc eI (rc eI (r1 eI)))))) (v := (q11, q13, q15, 0)) hstore16 (Nv.e_tup (Nv.es_cons (Nv.e_op (Nv.e_bi (Nv.es_cons (Nv.e_idx (Nv.e_var (d := (eL eI) row1) rfl) Nv.e_int (Nv.ix_L (e := eI) ha10)) Nv.es_nil) Nv.b_intI) (Nv.e_var (d := eI s9.1) rfl) (Nv.o_modO hq11)) (Nv.es_cons (Nv.e_op (Nv.e_bi (Nv.es_cons (Nv.e_idx (Nv.e_var (d := (eL eI) row1) rfl) Nv.e_int (Nv.ix_L (e := eI) ha12)) Nv.es_nil) Nv.b_intI) (Nv.e_var (d := eI s9.2.1) rfl) (Nv.o_modO hq13)) (Nv.es_cons (Nv.e_op (Nv.e_bi (Nv.es_cons (Nv.e_idx (Nv.e_var (d := (eL eI) row1) rfl) Nv.e_int (Nv.ix_L (e := eI) ha14)) Nv.es_nil) Nv.b_intI) (Nv.e_var (d := eI s9.2.1) rfl) (Nv.o_modO hq15)) (Nv.es_cons Nv.e_int Nv.es_nil))))))) ?_
  obtain ⟨a17, ha17, hh⟩ := Nv.bnd hh; obtain ⟨q18, hq18, hh⟩ := Nv.bnd hh; obtain ⟨store19, hstore19, hh⟩ := Nv.bnd hh; refine Nv.stp (Nv.s_set (Nv.sv (e := (eP (rc eI (rc eI (rc eI (r1 eI)))))) (v := (store16.1, store16.2.1, store16.2.2.1, q18)) hstore19 (Nv.e_tup (Nv.es_cons (Nv.e_idx (d := eI store16.1) (Nv.e_var (d := (eP (rc eI (rc eI (rc eI (r1 eI))))) store16) rfl) Nv.e_int rfl) (Nv.es_cons (Nv.e_idx (d := eI store16.2.1) (Nv.e_var (d := (eP (rc eI (rc eI (rc eI (r1 eI))))) store16) rfl) Nv.e_int rfl) (Nv.es_cons (Nv.e_idx (d := eI store16.2.2.1) (Nv.e_var (d := (eP (rc eI (rc eI (rc eI (r1 eI))))) store16) rfl) Nv.e_int rfl) (Nv.es_cons (Nv.e_op (Nv.e_bi (Nv.es_cons (Nv.e_idx (Nv.e_var (d := (eL eI) row1) rfl) Nv.e_int (Nv.ix_L (e := eI) ha17)) Nv.es_nil) Nv.b_intI) (Nv.e_op (Nv.e_idx (d := eI store16.1) (Nv.e_var (d := (eP (rc eI (rc eI (rc eI (r1 eI))))) store16) rfl) Nv.e_int rfl) Nv.e_int rfl) (Nv.o_modO hq18)) Nv.es_nil))))))) ?_
  obtain ⟨g20, hg20, hh⟩ := Nv.bnd hh; obtain ⟨z23, hz23, hh⟩ := Nv.bnd hh; refine Nv.stp (Nv.s_set (Nv.lcN_ok (e := eI) (e' := eI) (ρ1 := fun x21 => [(eC eI) p_script, (eL eI) row1, (eP (rc eI (rc eI (rc eI (r1 eI))))) store19, D.bad, D.bad, D.bad, D.bad, eI s9.1, eI s9.2.1, eI s9.2.2, D.bad, D.bad, D.bad, D.bad, D.bad, eI x21, D.bad, D.bad, D.bad]) hz23 (Nv.i_rng1 (Nv.e_var (d := eI s9.2.2) rfl) hg20) (fun x21 => (Nv.tg_nm rfl)) (fun x21 y hh => by obtain ⟨a22, ha22, hh⟩ := Nv.bnd hh; exact Nv.sv (e := eI) (v := (a22 % 10)) hh (Nv.e_op (Nv.e_bi (Nv.es_cons (Nv.e_idx (Nv.e_var (d := (eL eI) row1) rfl) (Nv.e_op Nv.e_int (Nv.e_var (d := eI x21) rfl) rfl) (Nv.ix_L (e := eI) ha22)) Nv.es_nil) Nv.b_intI) Nv.e_int (Nv.o_modL (b := 10) (by decide)))))) ?_
  obtain ⟨g24, hg24, hh⟩ := Nv.bnd hh; obtain ⟨z27, hz27, hh⟩ := Nv.bnd hh; refine Nv.stp (Nv.s_set (Nv.lcN_ok (e := eI) (e' := eI) (ρ1 := fun x25 => [(eC eI) p_script, (eL eI) row1, (eP (rc eI (rc eI (rc eI (r1 eI))))) store19, (eL eI) z23, D.bad, D.bad, D.bad, eI s9.1, eI s9.2.1, eI s9.2.2, D.bad, D.bad, D.bad, D.bad, D.bad, eI x25, D.bad, D.bad, D.bad]) hz27 (Nv.i_rng1 (Nv.e_var (d := eI s9.2.2) rfl) hg24) (fun x25 => (Nv.tg_nm rfl)) (fun x25 y hh => by obtain ⟨a26, ha26, hh⟩ := Nv.bnd hh; exact Nv.sv (e := eI) (v := (a26 % 10)) hh (Nv.e_op (Nv.e_bi (Nv.es_cons (Nv.e_idx (Nv.e_var (d := (eL eI) row1) rfl) (Nv.e_op Nv.e_int (Nv.e_var (d := eI x25) rfl) rfl) (Nv.ix_L (e := eI) ha26)) Nv.es_nil) Nv.b_intI) Nv.e_int (Nv.o_modL (b := 10) (by decide)))))) ?_
  obtain ⟨a28, ha28, hh⟩ := Nv.bnd hh; obtain ⟨s41, hs41, hh⟩ := Nv.bnd hh
  refine Nv.stp_ifj (E := (fun (s : (List Int)) (ρ : List D) => ∃ j10 : D, ρ = [(eC eI) p_script, (eL eI) row1, (eP (rc eI (rc eI (rc eI (r1 eI))))) store19, (eL eI) z23, (eL eI) s, D.bad, D.bad, eI s9.1, eI s9.2.1, eI s9.2.2, j10, D.bad, D.bad, D.bad, D.bad, D.bad, D.bad, D.bad, D.bad])) (x := s41) (Nv.t_cmp (Nv.e_op (Nv.e_bi (Nv.es_cons (Nv.e_idx (Nv.e_var (d := (eL eI) row1) rfl) Nv.e_int (Nv.ix_L (e := eI) ha28)) Nv.es_nil) Nv.b_intI) Nv.e_int (Nv.o_modL (b := 2) (by decide))) Nv.e_int (Nv.eq_ok Nv.eq_I (a28 % 2) 0)) (fun hc => ?_) (fun hc => ?_) ?_
  · have hh := Nv.ift hc hs41
    obtain ⟨y35, hy35, hh⟩ := Nv.bnd hh; refine Nv.stp (Nv.s_set (Nv.e_fn (Nv.es_cons (Nv.e_var (d := (eL eI) row1) rfl) (Nv.es_cons (Nv.e_var (d := (eP (rc eI (rc eI (rc eI (r1 eI))))) store19) rfl) (Nv.es_cons (Nv.e_var (d := (eL eI) z23) rfl) Nv.es_nil))) rfl (p__law_served hy35))) ?_
    obtain ⟨a36, ha36, hh⟩ := Nv.bnd hh; obtain ⟨q37, hq37, hh⟩ := Nv.bnd hh; refine Nv.stp (Nv.s_set (Nv.e_op (Nv.e_bi (Nv.es_cons (Nv.e_idx (Nv.e_var (d := (eL eI) row1) rfl) Nv.e_int (Nv.ix_L (e := eI) ha36)) Nv.es_nil) Nv.b_intI) (Nv.e_var (d := eI s9.2.2) rfl) (Nv.o_modO hq37))) ?_
    obtain ⟨a38, ha38, hh⟩ := Nv.bnd hh; obtain ⟨a39, ha39, hh⟩ := Nv.bnd hh; obtain ⟨wanted40, hwanted40, hh⟩ := Nv.bnd hh; refine Nv.stp (Nv.s_sto (e := eI) (xs := y35) rfl (Nv.e_var (d := eI q37) rfl) (Nv.cv (d' := eI (a38 + (if (decide (((a39 / 2) % 4) = 0)) then (1 : Int) else 0))) (Nv.e_op (Nv.e_idx (Nv.e_var (d := (eL eI) y35) rfl) (Nv.e_var (d := eI q37) rfl) (Nv.ix_L (e := eI) ha38)) (Nv.e_bi (Nv.es_cons (Nv.e_cmp (Nv.e_op (Nv.e_op (Nv.e_bi (Nv.es_cons (Nv.e_idx (Nv.e_var (d := (eL eI) row1) rfl) Nv.e_int (Nv.ix_L (e := eI) ha39)) Nv.es_nil) Nv.b_intI) Nv.e_int (Nv.o_divL (b := 2) (by decide) (by decide))) Nv.e_int (Nv.o_modL (b := 4) (by decide))) Nv.e_int (Nv.eq_ok Nv.eq_I ((a39 / 2) % 4) 0)) Nv.es_nil) Nv.b_intB) rfl) rfl) hwanted40) ?_
    exact Nv.nx_nil' hh ⟨eI q37, rfl⟩
  · have hh := Nv.iff_ hc hs41
    exact Nv.nx_nil' hh ⟨D.bad, rfl⟩
  rintro ρ' ⟨j42, rfl⟩
  refine Nv.stp (Nv.s_par2 (Nv.e_bi (Nv.es_cons (Nv.e_var (d := (eL eI) z23) rfl) Nv.es_nil) Nv.b_tupL) (Nv.e_bi (Nv.es_cons (Nv.e_var (d := (eL eI) s41) rfl) Nv.es_nil) Nv.b_tupL)) ?_
  obtain ⟨y43, hy43, hh⟩ := Nv.bnd hh; refine Nv.stp (Nv.s_asg (Nv.e_fn (Nv.es_cons (Nv.e_var (d := (eP (rc eI (rc eI (rc eI (r1 eI))))) store19) rfl) (Nv.es_cons (Nv.e_var (d := (eT eI) z23) rfl) (Nv.es_cons (Nv.e_var (d := (eT eI) s41) rfl) Nv.es_nil))) rfl (p__law_steps hy43)) (Nv.pl_2 (Nv.pl_nm rfl) (Nv.pl_nm rfl))) ?_
  obtain ⟨y44, hy44, hh⟩ := Nv.bnd hh; obtain ⟨l45, hl45, hh⟩ := Nv.bnd hh; obtain ⟨t48, ht48, hh⟩ := Nv.bnd hh; refine Nv.stp_if (Nv.t_orM (Nv.t_not (Nv.t_fn (Nv.e_fn (Nv.es_cons (Nv.cv (d' := (eT eI) y44) (Nv.e_fn (Nv.es_cons (Nv.e_var (d := (eP (rc eI (rc eI (rc eI (r1 eI))))) store19) rfl) (Nv.es_cons (Nv.e_var (d := (eT eI) z23) rfl) (Nv.es_cons (Nv.e_var (d := (eT eI) s41) rfl) Nv.es_nil))) rfl (p_store_run hy44)) rfl) (Nv.es_cons (Nv.e_var (d := (eT eI) y43.1) rfl) Nv.es_nil)) rfl (Nv.likeN_p (e := (eT eI)) (Nv.ok_T Nv.ok_I) hl45)) Nv.tru_B)) ht48 fun hh => by obtain ⟨y46, hy46, hh⟩ := Nv.bnd hh; obtain ⟨l47, hl47, hh⟩ := Nv.bnd hh; exact Nv.tsv hh (Nv.t_not (Nv.t_fn (Nv.e_fn (Nv.es_cons (Nv.cv (d' := (eT eI) y46) (Nv.e_fn (Nv.es_cons (Nv.e_var (d := (eP (rc eI (rc eI (rc eI (r1 eI))))) store19) rfl) (Nv.es_cons (Nv.e_var (d := (eT eI) z23) rfl) (Nv.es_cons (Nv.e_var (d := (eT eI) s41) rfl) Nv.es_nil))) rfl (p_lacks_of hy46)) rfl) (Nv.es_cons (Nv.e_var (d := (eT eI) y43.2) rfl) Nv.es_nil)) rfl (Nv.likeN_p (e := (eT eI)) (Nv.ok_T Nv.ok_I) hl47)) Nv.tru_B))) (fun hc => ?_) (fun hc => ?_)
  · have hh := Nv.ift hc hh
    exact Nv.rt_ret (e := eB) (Nv.sv (e := eB) (v := false) hh Nv.e_bl)
  · have hh := Nv.iff_ hc hh
    obtain ⟨y49, hy49, hh⟩ := Nv.bnd hh; obtain ⟨l50, hl50, hh⟩ := Nv.bnd hh; refine Nv.stp_if (Nv.t_not (Nv.t_fn (Nv.e_fn (Nv.es_cons (Nv.cv (d' := eB y49) (Nv.e_fn (Nv.es_cons (Nv.e_var (d := (eP (rc eI (rc eI (rc eI (r1 eI))))) store19) rfl) (Nv.es_cons (Nv.e_var (d := (eT eI) z23) rfl) (Nv.es_cons (Nv.e_var (d := (eT eI) s41) rfl) Nv.es_nil))) rfl (p_can_store hy49)) rfl) (Nv.es_cons (Nv.cv (d' := eB (!(y43.2.any (· != 0)))) (Nv.e_not (Nv.e_bi (Nv.es_cons (Nv.e_var (d := (eT eI) y43.2) rfl) Nv.es_nil) (Nv.b_anyI (xs := y43.2) rfl))) rfl) Nv.es_nil)) rfl (Nv.likeN_p (e := eB) Nv.ok_B hl50)) Nv.tru_B)) (fun hc => ?_) (fun hc => ?_)
    · have hh := Nv.ift hc hh
      exact Nv.rt_ret (e := eB) (Nv.sv (e := eB) (v := false) hh Nv.e_bl)
    · have hh := Nv.iff_ hc hh
      obtain ⟨y51, hy51, hh⟩ := Nv.bnd hh; refine Nv.stp (Nv.s_set (Nv.e_fn (Nv.es_cons (Nv.e_var (d := (eP (rc eI (rc eI (rc eI (r1 eI))))) store19) rfl) (Nv.es_cons (Nv.e_var (d := (eT eI) z23) rfl) (Nv.es_cons (Nv.e_var (d := (eT eI) s41) rfl) Nv.es_nil))) rfl (p__law_ways hy51))) ?_
      obtain ⟨y52, hy52, hh⟩ := Nv.bnd hh; obtain ⟨l53, hl53, hh⟩ := Nv.bnd hh; refine Nv.stp_if (Nv.t_or (Nv.t_not (Nv.t_fn (Nv.e_fn (Nv.es_cons (Nv.cv (d' := (eO (eT (eP (rc eI (r1 eI))))) y52) (Nv.e_fn (Nv.es_cons (Nv.e_var (d := (eP (rc eI (rc eI (rc eI (r1 eI))))) store19) rfl) (Nv.es_cons (Nv.e_var (d := (eT eI) z23) rfl) (Nv.es_cons (Nv.e_var (d := (eT eI) s41) rfl) Nv.es_nil))) rfl (p_bounds_held hy52)) rfl) (Nv.es_cons (Nv.e_var (d := (eO (eT (eP (rc eI (r1 eI))))) y51) (Nv.ok_nb (Nv.nbO (fun _ => rfl) y51))) Nv.es_nil)) rfl (Nv.likeN_p (e := (eO (eT (eP (rc eI (r1 eI)))))) (Nv.ok_O (Nv.ok_T (Nv.ok_P (Nv.ok_rc Nv.ok_I (Nv.ok_r1 Nv.ok_I)) (by decide)))) hl53)) Nv.tru_B)) fun _ => (Nv.t_cmp (Nv.e_isN (Nv.e_var (d := (eO (eT (eP (rc eI (r1 eI))))) y51) (Nv.ok_nb (Nv.nbO (fun _ => rfl) y51))) (Nv.nonO (fun _ => rfl) y51)) (Nv.e_bi (Nv.es_cons (Nv.e_var (d := (eT eI) y43.2) rfl) Nv.es_nil) (Nv.b_anyI (xs := y43.2) rfl)) (Nv.ne_B _ _))) (fun hc => ?_) (fun hc => ?_)
      · have hh := Nv.ift hc hh
        exact Nv.rt_ret (e := eB) (Nv.sv (e := eB) (v := false) hh Nv.e_bl)
      · have hh := Nv.iff_ hc hh
        obtain ⟨t57, ht57, hh⟩ := Nv.bnd hh; refine Nv.stp_if (Nv.t_andM (Nv.t_noN (Nv.e_var (d := (eO (eT (eP (rc eI (r1 eI))))) y51) (Nv.ok_nb (Nv.nbO (fun _ => rfl) y51))) (Nv.nonO (fun _ => rfl) y51)) ht57 fun hh => by obtain ⟨x54, hx54, hh⟩ := Nv.bnd hh; obtain ⟨z56, hz56, hh⟩ := Nv.bnd hh; exact Nv.tsv hh (Nv.t_cmp (Nv.e_bi (Nv.es_cons (Nv.lcN_ok (e := (eP (rc eI (r1 eI)))) (e' := eI) (ρ1 := fun x55 => [(eC eI) p_script, (eL eI) row1, (eP (rc eI (rc eI (rc eI (r1 eI))))) store19, (eT eI) z23, (eT eI) s41, (eO (eT (eP (rc eI (r1 eI))))) y51, D.bad, eI s9.1, eI s9.2.1, eI s9.2.2, j42, (eT eI) y43.1, (eT eI) y43.2, D.bad, D.bad, D.bad, D.bad, eI x55.1, eI x55.2]) hz56 (Nv.i_ex (xs := x54.map (eP (rc eI (r1 eI)))) (Nv.uw (e := (eT (eP (rc eI (r1 eI))))) hx54 (Nv.e_var (d := (eO (eT (eP (rc eI (r1 eI))))) y51) (Nv.ok_nb (Nv.nbO (fun _ => rfl) y51)))) rfl) (fun x55 => (Nv.tg_2 (Nv.tg_nm rfl) (Nv.tg_nm rfl))) (fun x55 y hh => by exact Nv.sv (e := eI) (v := x55.2) hh (Nv.e_var (d := eI x55.2) rfl))) Nv.es_nil) Nv.b_tupL) (Nv.e_var (d := (eT eI) y43.1) rfl) (Nv.ne_ok (Nv.eq_T Nv.eq_I) z56 y43.1))) (fun hc => ?_) (fun hc => ?_)
        · have hh := Nv.ift hc hh
          exact Nv.rt_ret (e := eB) (Nv.sv (e := eB) (v := false) hh Nv.e_bl)
        · have hh := Nv.iff_ hc hh
          obtain ⟨y58, hy58, hh⟩ := Nv.bnd hh; refine Nv.stp (Nv.s_asg (Nv.e_fn (Nv.es_cons (Nv.e_var (d := (eP (rc eI (rc eI (rc eI (r1 eI))))) store19) rfl) (Nv.es_cons (Nv.e_var (d := (eT eI) z23) rfl) (Nv.es_cons (Nv.e_var (d := (eT eI) s41) rfl) Nv.es_nil))) rfl (p__law_least hy58)) (Nv.pl_2 (Nv.pl_nm (Nv.nbO (fun _ => rfl) y58.1)) (Nv.pl_nm (Nv.nbO (fun _ => rfl) y58.2)))) ?_
          obtain ⟨y59, hy59, hh⟩ := Nv.bnd hh; obtain ⟨l60, hl60, hh⟩ := Nv.bnd hh; obtain ⟨t63, ht63, hh⟩ := Nv.bnd hh; refine Nv.stp_if (Nv.t_orM (Nv.t_not (Nv.t_fn (Nv.e_fn (Nv.es_cons (Nv.cv (d' := (eO eI) y59) (Nv.e_fn (Nv.es_cons (Nv.e_var (d := (eP (rc eI (rc eI (rc eI (r1 eI))))) store19) rfl) (Nv.es_cons (Nv.e_var (d := (eT eI) z23) rfl) (Nv.es_cons (Nv.e_var (d := (eT eI) s41) rfl) Nv.es_nil))) rfl (p_least_room hy59)) rfl) (Nv.es_cons (Nv.e_var (d := (eO eI) y58.1) (Nv.ok_nb (Nv.nbO (fun _ => rfl) y58.1))) Nv.es_nil)) rfl (Nv.likeN_p (e := (eO eI)) (Nv.ok_O Nv.ok_I) hl60)) Nv.tru_B)) ht63 fun hh => by obtain ⟨y61, hy61, hh⟩ := Nv.bnd hh; obtain ⟨l62, hl62, hh⟩ := Nv.bnd hh; exact Nv.tsv hh (Nv.t_not (Nv.t_fn (Nv.e_fn (Nv.es_cons (Nv.cv (d' := (eO eI) y61) (Nv.e_fn (Nv.es_cons (Nv.e_var (d := (eP (rc eI (rc eI (rc eI (r1 eI))))) store19) rfl) (Nv.es_cons (Nv.e_var (d := (eT eI) z23) rfl) (Nv.es_cons (Nv.e_var (d := (eT eI) s41) rfl) Nv.es_nil))) rfl (p_least_first hy61)) rfl) (Nv.es_cons (Nv.e_var (d := (eO eI) y58.2) (Nv.ok_nb (Nv.nbO (fun _ => rfl) y58.2))) Nv.es_nil)) rfl (Nv.likeN_p (e := (eO eI)) (Nv.ok_O Nv.ok_I) hl62)) Nv.tru_B))) (fun hc => ?_) (fun hc => ?_)
          · have hh := Nv.ift hc hh
            exact Nv.rt_ret (e := eB) (Nv.sv (e := eB) (v := false) hh Nv.e_bl)
          · have hh := Nv.iff_ hc hh
            obtain ⟨g64, hg64, hh⟩ := Nv.bnd hh; obtain ⟨o135, ho135, hh⟩ := Nv.bnd hh
            refine Nv.stp_forX (E := (fun (s : Unit) (ρ : List D) => ∃ j6 j16 : D, ρ = [(eC eI) p_script, (eL eI) row1, (eP (rc eI (rc eI (rc eI (r1 eI))))) store19, (eT eI) z23, (eT eI) s41, (eO (eT (eP (rc eI (r1 eI))))) y51, j6, eI s9.1, eI s9.2.1, eI s9.2.2, j42, (eT eI) y43.1, (eT eI) y43.2, (eO eI) y58.1, (eO eI) y58.2, D.bad, j16, D.bad, D.bad])) (er := eB) (e := eI) ho135 (Nv.i_rng1 Nv.e_int hg64) ⟨D.bad, D.bad, rfl⟩ ?_ (fun s136 hq => ?_) (fun r139 hq => ?_)
            · rintro s110 x65 o ρ ⟨j111, j112, rfl⟩ hh
              unfold n_law_L1 at hh
              refine Nv.tgb (Nv.tg_nm rfl) ?_
              obtain ⟨t114, ht114, hh⟩ := Nv.bnd hh; refine Nv.stp_if (Nv.t_andM (Nv.t_noN (Nv.e_var (d := (eO eI) y58.1) (Nv.ok_nb (Nv.nbO (fun _ => rfl) y58.1))) (Nv.nonO (fun _ => rfl) y58.1)) ht114 fun hh => by obtain ⟨x113, hx113, hh⟩ := Nv.bnd hh; exact Nv.tsv hh (Nv.t_cmp (Nv.uw hx113 (Nv.e_var (d := (eO eI) y58.1) (Nv.ok_nb (Nv.nbO (fun _ => rfl) y58.1)))) (Nv.e_var (d := eI x65) rfl) rfl)) (fun hc => ?_) (fun hc => ?_)
              · have hh := Nv.ift hc hh
                obtain ⟨x115, hx115, hh⟩ := Nv.bnd hh; obtain ⟨y116, hy116, hh⟩ := Nv.bnd hh; refine Nv.stp (Nv.s_set (Nv.e_fn (Nv.es_cons (Nv.e_var (d := (eP (rc eI (rc eI (rc eI (r1 eI))))) store19) rfl) (Nv.es_cons (Nv.cv (d' := eI (x115 - x65)) (Nv.e_op (Nv.uw hx115 (Nv.e_var (d := (eO eI) y58.1) (Nv.ok_nb (Nv.nbO (fun _ => rfl) y58.1)))) (Nv.e_var (d := eI x65) rfl) rfl) rfl) Nv.es_nil)) rfl (p__law_with_room hy116))) ?_
                obtain ⟨y117, hy117, hh⟩ := Nv.bnd hh; obtain ⟨l118, hl118, hh⟩ := Nv.bnd hh; refine Nv.stp_if (Nv.t_not (Nv.t_fn (Nv.e_fn (Nv.es_cons (Nv.cv (d' := eB y117) (Nv.e_fn (Nv.es_cons (Nv.e_var (d := (eP (rc eI (rc eI (rc eI (r1 eI))))) y116) rfl) (Nv.es_cons (Nv.e_var (d := (eT eI) z23) rfl) (Nv.es_cons (Nv.e_var (d := (eT eI) s41) rfl) Nv.es_nil))) rfl (p_can_store hy117)) rfl) (Nv.es_cons (Nv.cv (d' := eB (decide (x65 = 0))) (Nv.e_cmp (Nv.e_var (d := eI x65) rfl) Nv.e_int (Nv.eq_ok Nv.eq_I x65 0)) rfl) Nv.es_nil)) rfl (Nv.likeN_p (e := eB) Nv.ok_B hl118)) Nv.tru_B)) (fun hc => ?_) (fun hc => ?_)
                · have hh := Nv.ift hc hh
                  exact Nv.fx_ret' (e := eB) (r := false) hh Nv.e_bl
                · have hh := Nv.iff_ hc hh
                  obtain ⟨t120, ht120, hh⟩ := Nv.bnd hh; refine Nv.stp_if (Nv.t_andM (Nv.t_noN (Nv.e_var (d := (eO eI) y58.2) (Nv.ok_nb (Nv.nbO (fun _ => rfl) y58.2))) (Nv.nonO (fun _ => rfl) y58.2)) ht120 fun hh => by obtain ⟨x119, hx119, hh⟩ := Nv.bnd hh; exact Nv.tsv hh (Nv.t_cmp (Nv.uw hx119 (Nv.e_var (d := (eO eI) y58.2) (Nv.ok_nb (Nv.nbO (fun _ => rfl) y58.2)))) (Nv.e_var (d := eI x65) rfl) rfl)) (fun hc => ?_) (fun hc => ?_)
                  · have hh := Nv.ift hc hh
                    obtain ⟨x121, hx121, hh⟩ := Nv.bnd hh; obtain ⟨some122, hsome122, hh⟩ := Nv.bnd hh; refine Nv.stp (Nv.s_set (Nv.sv (e := (eP (rc eI (rc eI (rc eI (r1 eI)))))) (v := (store19.1, store19.2.1, store19.2.2.1, (x121 - x65))) hsome122 (Nv.e_op (d := (eP (rc eI (rc eI (rc eI (r1 eI))))) (store19.1, store19.2.1, store19.2.2.1, (x121 - x65))) (Nv.e_slc (d := (eP (rc eI (rc eI (r1 eI)))) (store19.1, store19.2.1, store19.2.2.1)) (Nv.e_var (d := (eP (rc eI (rc eI (rc eI (r1 eI))))) store19) rfl) Nv.o_no (Nv.o_yes Nv.e_int) rfl) (Nv.e_tup (Nv.es_cons (Nv.e_op (Nv.uw hx121 (Nv.e_var (d := (eO eI) y58.2) (Nv.ok_nb (Nv.nbO (fun _ => rfl) y58.2)))) (Nv.e_var (d := eI x65) rfl) rfl) Nv.es_nil)) rfl))) ?_
                    obtain ⟨y123, hy123, hh⟩ := Nv.bnd hh; obtain ⟨l124, hl124, hh⟩ := Nv.bnd hh; refine Nv.stp_if (Nv.t_not (Nv.t_fn (Nv.e_fn (Nv.es_cons (Nv.cv (d' := eB y123) (Nv.e_fn (Nv.es_cons (Nv.e_var (d := (eP (rc eI (rc eI (rc eI (r1 eI))))) some122) rfl) (Nv.es_cons (Nv.e_var (d := (eT eI) z23) rfl) (Nv.es_cons (Nv.e_var (d := (eT eI) s41) rfl) Nv.es_nil))) rfl (p_can_store hy123)) rfl) (Nv.es_cons (Nv.cv (d' := eB (decide (x65 = 0))) (Nv.e_cmp (Nv.e_var (d := eI x65) rfl) Nv.e_int (Nv.eq_ok Nv.eq_I x65 0)) rfl) Nv.es_nil)) rfl (Nv.likeN_p (e := eB) Nv.ok_B hl124)) Nv.tru_B)) (fun hc => ?_) (fun hc => ?_)
                    · have hh := Nv.ift hc hh
                      exact Nv.fx_ret' (e := eB) (r := false) hh Nv.e_bl
                    · have hh := Nv.iff_ hc hh
                      obtain ⟨y125, hy125, hh⟩ := Nv.bnd hh; obtain ⟨l126, hl126, hh⟩ := Nv.bnd hh; refine Nv.stp_if (Nv.t_not (Nv.t_fn (Nv.e_fn (Nv.es_cons (Nv.cv (d' := eB (decide (y125.sum = 0))) (Nv.e_cmp (Nv.e_bi (Nv.es_cons (Nv.e_fn (Nv.es_cons (Nv.e_var (d := (eP (rc eI (rc eI (rc eI (r1 eI))))) some122) rfl) (Nv.es_cons (Nv.e_var (d := (eT eI) z23) rfl) (Nv.es_cons (Nv.e_var (d := (eT eI) s41) rfl) Nv.es_nil))) rfl (p_lacks_of hy125)) Nv.es_nil) (Nv.b_sum (xs := y125) rfl)) Nv.e_int (Nv.eq_ok Nv.eq_I (y125.sum) 0)) rfl) (Nv.es_cons (Nv.cv (d' := eB (decide (x65 = 0))) (Nv.e_cmp (Nv.e_var (d := eI x65) rfl) Nv.e_int (Nv.eq_ok Nv.eq_I x65 0)) rfl) Nv.es_nil)) rfl (Nv.likeN_p (e := eB) Nv.ok_B hl126)) Nv.tru_B)) (fun hc => ?_) (fun hc => ?_)
                      · have hh := Nv.ift hc hh
                        exact Nv.fx_ret' (e := eB) (r := false) hh Nv.e_bl
                      · have hh := Nv.iff_ hc hh
                        exact Nv.fx_nil' hh ⟨eI x65, (eP (rc eI (rc eI (rc eI (r1 eI))))) some122, rfl⟩
                  · have hh := Nv.iff_ hc hh
                    exact Nv.fx_nil' hh ⟨eI x65, (eP (rc eI (rc eI (rc eI (r1 eI))))) y116, rfl⟩
              · have hh := Nv.iff_ hc hh
                obtain ⟨t128, ht128, hh⟩ := Nv.bnd hh; refine Nv.stp_if (Nv.t_andM (Nv.t_noN (Nv.e_var (d := (eO eI) y58.2) (Nv.ok_nb (Nv.nbO (fun _ => rfl) y58.2))) (Nv.nonO (fun _ => rfl) y58.2)) ht128 fun hh => by obtain ⟨x127, hx127, hh⟩ := Nv.bnd hh; exact Nv.tsv hh (Nv.t_cmp (Nv.uw hx127 (Nv.e_var (d := (eO eI) y58.2) (Nv.ok_nb (Nv.nbO (fun _ => rfl) y58.2)))) (Nv.e_var (d := eI x65) rfl) rfl)) (fun hc => ?_) (fun hc => ?_)
                · have hh := Nv.ift hc hh
                  obtain ⟨x129, hx129, hh⟩ := Nv.bnd hh; obtain ⟨some130, hsome130, hh⟩ := Nv.bnd hh; refine Nv.stp (Nv.s_set (Nv.sv (e := (eP (rc eI (rc eI (rc eI (r1 eI)))))) (v := (store19.1, store19.2.1, store19.2.2.1, (x129 - x65))) hsome130 (Nv.e_op (d := (eP (rc eI (rc eI (rc eI (r1 eI))))) (store19.1, store19.2.1, store19.2.2.1, (x129 - x65))) (Nv.e_slc (d := (eP (rc eI (rc eI (r1 eI)))) (store19.1, store19.2.1, store19.2.2.1)) (Nv.e_var (d := (eP (rc eI (rc eI (rc eI (r1 eI))))) store19) rfl) Nv.o_no (Nv.o_yes Nv.e_int) rfl) (Nv.e_tup (Nv.es_cons (Nv.e_op (Nv.uw hx129 (Nv.e_var (d := (eO eI) y58.2) (Nv.ok_nb (Nv.nbO (fun _ => rfl) y58.2)))) (Nv.e_var (d := eI x65) rfl) rfl) Nv.es_nil)) rfl))) ?_
                  obtain ⟨y131, hy131, hh⟩ := Nv.bnd hh; obtain ⟨l132, hl132, hh⟩ := Nv.bnd hh; refine Nv.stp_if (Nv.t_not (Nv.t_fn (Nv.e_fn (Nv.es_cons (Nv.cv (d' := eB y131) (Nv.e_fn (Nv.es_cons (Nv.e_var (d := (eP (rc eI (rc eI (rc eI (r1 eI))))) some130) rfl) (Nv.es_cons (Nv.e_var (d := (eT eI) z23) rfl) (Nv.es_cons (Nv.e_var (d := (eT eI) s41) rfl) Nv.es_nil))) rfl (p_can_store hy131)) rfl) (Nv.es_cons (Nv.cv (d' := eB (decide (x65 = 0))) (Nv.e_cmp (Nv.e_var (d := eI x65) rfl) Nv.e_int (Nv.eq_ok Nv.eq_I x65 0)) rfl) Nv.es_nil)) rfl (Nv.likeN_p (e := eB) Nv.ok_B hl132)) Nv.tru_B)) (fun hc => ?_) (fun hc => ?_)
                  · have hh := Nv.ift hc hh
                    exact Nv.fx_ret' (e := eB) (r := false) hh Nv.e_bl
                  · have hh := Nv.iff_ hc hh
                    obtain ⟨y133, hy133, hh⟩ := Nv.bnd hh; obtain ⟨l134, hl134, hh⟩ := Nv.bnd hh; refine Nv.stp_if (Nv.t_not (Nv.t_fn (Nv.e_fn (Nv.es_cons (Nv.cv (d' := eB (decide (y133.sum = 0))) (Nv.e_cmp (Nv.e_bi (Nv.es_cons (Nv.e_fn (Nv.es_cons (Nv.e_var (d := (eP (rc eI (rc eI (rc eI (r1 eI))))) some130) rfl) (Nv.es_cons (Nv.e_var (d := (eT eI) z23) rfl) (Nv.es_cons (Nv.e_var (d := (eT eI) s41) rfl) Nv.es_nil))) rfl (p_lacks_of hy133)) Nv.es_nil) (Nv.b_sum (xs := y133) rfl)) Nv.e_int (Nv.eq_ok Nv.eq_I (y133.sum) 0)) rfl) (Nv.es_cons (Nv.cv (d' := eB (decide (x65 = 0))) (Nv.e_cmp (Nv.e_var (d := eI x65) rfl) Nv.e_int (Nv.eq_ok Nv.eq_I x65 0)) rfl) Nv.es_nil)) rfl (Nv.likeN_p (e := eB) Nv.ok_B hl134)) Nv.tru_B)) (fun hc => ?_) (fun hc => ?_)
                    · have hh := Nv.ift hc hh
                      exact Nv.fx_ret' (e := eB) (r := false) hh Nv.e_bl
                    · have hh := Nv.iff_ hc hh
                      exact Nv.fx_nil' hh ⟨eI x65, (eP (rc eI (rc eI (rc eI (r1 eI))))) some130, rfl⟩
                · have hh := Nv.iff_ hc hh
                  exact Nv.fx_nil' hh ⟨eI x65, j112, rfl⟩
            · have hh := Nv.then_nx hq hh
              rintro ρ' ⟨j137, j138, rfl⟩
              exact Nv.rt_ret (e := eB) (Nv.sv (e := eB) (v := true) hh Nv.e_bl)
            · have hh := Nv.then_rt hq hh
              exact Nv.rtr (e := eB) hh
end
end K17

/-! Plain laws: how the plain operations come out. -/
namespace Nv
open PySem PySem.Spec PyProof.Rows L2 Ev Ev.Pre
section
variable {α β γ σ τ : Type}
theorem SLn : SL = 16777216 := rfl
theorem bindS {m : Option α} {k : α → Option β} {x : α} {r : Option β} (h : m = some x) (h2 : k x = r) : m.bind k = r := by rw [h]; exact h2
theorem bindE {m : Option α} {k : α → Option β} {r : Option β} (P : α → Prop) (h : ∃ x, m = some x ∧ P x) (h2 : ∀ x, P x → k x = r) : m.bind k = r := by
  obtain ⟨x, h, hp⟩ := h
  rw [h]
  exact h2 x hp
theorem bindN {m : Option (St σ τ)} {k : σ → Option γ} {r : τ → Option γ} {s : σ} {x : Option γ} (h : m = some (.nx s)) (h2 : k s = x) : (m.bind fun o => thenO o k r) = x := by rw [h]; exact h2
theorem bindRt {m : Option (St σ τ)} {k : σ → Option γ} {r : τ → Option γ} {y : τ} {x : Option γ} (h : m = some (.rt y)) (h2 : r y = x) : (m.bind fun o => thenO o k r) = x := by rw [h]; exact h2
theorem bindNE {m : Option (St σ τ)} {k : σ → Option γ} {r : τ → Option γ} {x : Option γ} (P : σ → Prop) (h : ∃ s, m = some (.nx s) ∧ P s) (h2 : ∀ s, P s → k s = x) : (m.bind fun o => thenO o k r) = x := by
  obtain ⟨s, h, hp⟩ := h
  rw [h]
  exact h2 s hp
theorem iteT {p : Bool} {a b r : α} (h : p = true) (h2 : a = r) : (if p then a else b) = r := by subst h; exact h2
theorem iteF {p : Bool} {a b r : α} (h : p = false) (h2 : b = r) : (if p then a else b) = r := by subst h; exact h2
theorem lenO_ok {xs : List α} (h : xs.length ≤ SL) : lenO xs = some xs := if_pos h
theorem appO_ok {xs : List α} {x : α} (h : xs.length < SL) : appO xs x = some (xs ++ [x]) := if_pos h
theorem catO_ok {xs ys : List α} (h : xs.length + ys.length ≤ SL) : catO xs ys = some (xs ++ ys) := if_pos h
theorem mulO_ok {a b : Int} (h : a.natAbs < 2 ^ 64) : mulO a b = some (a * b) := by
  unfold mulO mulOk
  rw [decide_eq_true h]
  rfl
theorem mulO_okR {a b : Int} (h : b.natAbs < 2 ^ 64) : mulO a b = some (a * b) := by
  unfold mulO mulOk
  rw [decide_eq_true h, Bool.or_true, Bool.true_or]
  rfl
theorem modO_pos {a b : Int} (h : 0 < b) : modO a b = some (a % b) := by
  unfold modO
  rw [if_pos (by omega), Int.fmod_eq_emod_of_nonneg _ (by omega)]
theorem divO_pos {a b : Int} (h : 0 < b) (h2 : b.natAbs.log2 < 9000) : divO a b = some (a / b) := by
  unfold divO divOk
  rw [if_pos (by simp; exact ⟨by omega, h2⟩), Int.fdiv_eq_ediv_of_nonneg _ (by omega)]
theorem log2_small {n : Nat} (h : n < 2 ^ 64) : n.log2 < 9000 := by
  by_cases h0 : n = 0
  · subst h0; decide
  · have := (Nat.log2_lt h0).mpr h
    omega
theorem rangeO_ok {lo hi : Int} (h1 : -1000000000 ≤ lo) (h2 : lo ≤ 1000000000) (h3 : -1000000000 ≤ hi) (h4 : hi ≤ 1000000000) : rangeO lo hi = some (span lo hi) := if_pos (by omega)
theorem mapO_ok {g : α → Option β} {f : α → β} : ∀ {xs : List α}, (∀ x ∈ xs, g x = some (f x)) → mapO g xs = some (xs.map f)
  | [], _ => rfl
  | x :: xs, h => by
    rw [mapO, h x (.head _), Option.bind_some, mapO_ok (f := f) fun y hy => h y (.tail _ hy)]
    rfl
theorem lcO_ok {g : α → Option β} {f : α → β} {xs : List α} (h : ∀ x ∈ xs, g x = some (f x)) (hl : xs.length ≤ SL) : lcO g xs = some (xs.map f) := by
  unfold lcO
  rw [mapO_ok h, Option.bind_some, lenO_ok (by simpa using hl)]
theorem lcP_ok' {p : α → Bool} {g : α → Option β} {f : α → β} {xs : List α} (h : ∀ x ∈ xs, p x = true → g x = some (f x)) (hl : xs.length ≤ SL) : lcP p g xs = some ((xs.filter p).map f) := by
  unfold lcP
  rw [mapO_ok (f := f) (fun x hx => h x (List.mem_filter.mp hx).1 (List.mem_filter.mp hx).2), Option.bind_some, lenO_ok]
  rw [List.length_map]
  exact Nat.le_trans (List.length_filter_le _ _) hl
theorem filtO_ok {p : α → Option Bool} {q : α → Bool} {g : α → Option β} {f : α → β} : ∀ {xs : List α}, (∀ x ∈ xs, p x = some (q x)) → (∀ x ∈ xs, q x = true → g x = some (f x)) → filtO p g xs = some ((xs.filter q).map f)
  | [], _, _ => rfl
  | x :: xs, hp, h => by
    rw [filtO, hp x (.head _), Option.bind_some]
    have ih := filtO_ok (q := q) (f := f) (fun y hy => hp y (.tail _ hy)) (fun y hy => h y (.tail _ hy))
    cases hq : q x with
    | true =>
      rw [if_pos rfl, h x (.head _) hq, Option.bind_some, ih, List.filter_cons_of_pos hq]
      rfl
    | false =>
      rw [if_neg (by decide), ih, List.filter_cons_of_neg (by simp [hq])]
theorem lcM_ok' {p : α → Option Bool} {q : α → Bool} {g : α → Option β} {f : α → β} {xs : List α} (hp : ∀ x ∈ xs, p x = some (q x)) (h : ∀ x ∈ xs, q x = true → g x = some (f x)) (hl : xs.length ≤ SL) : lcM p g xs = some ((xs.filter q).map f) := by
  unfold lcM
  rw [filtO_ok hp h, Option.bind_some, lenO_ok]
  rw [List.length_map]
  exact Nat.le_trans (List.length_filter_le _ _) hl
theorem flatO_ok {g : α → Option (List β)} {f : α → List β} : ∀ {xs : List α}, (∀ x ∈ xs, g x = some (f x)) → flatO g xs = some (xs.flatMap f)
  | [], _ => rfl
  | x :: xs, h => by
    rw [flatO, h x (.head _), Option.bind_some, flatO_ok (f := f) fun y hy => h y (.tail _ hy)]
    rfl
theorem lcF_ok' {g : α → Option (List β)} {f : α → List β} {xs : List α} (h : ∀ x ∈ xs, g x = some (f x)) (hl : (xs.flatMap f).length ≤ SL) : lcF g xs = some (xs.flatMap f) := by
  unfold lcF
  rw [flatO_ok h, Option.bind_some, lenO_ok hl]
theorem foldO_pure {step : σ → α → Option σ} {f : σ → α → σ} : ∀ {xs : List α} {s : σ}, (∀ x ∈ xs, ∀ s, step s x = some (f s x)) → foldO step xs s = some (xs.foldl f s)
  | [], _, _ => rfl
  | x :: xs, s, h => by
    rw [foldO, h x (.head _), Option.bind_some, foldO_pure (f := f) fun y hy => h y (.tail _ hy)]
    rfl
theorem foldO_inv {step : σ → α → Option σ} (I : Nat → σ → Prop) : ∀ (xs : List α) (k : Nat) (s : σ), (∀ i x s, xs[i]? = some x → I (k + i) s → ∃ s', step s x = some s' ∧ I (k + i + 1) s') → I k s → ∃ s', foldO step xs s = some s' ∧ I (k + xs.length) s'
  | [], k, s, _, h => ⟨s, rfl, h⟩
  | x :: xs, k, s, hs, h => by
    obtain ⟨s1, e1, h1⟩ := hs 0 x s rfl h
    obtain ⟨s2, e2, h2⟩ := foldO_inv I xs (k + 1) s1 (fun i y s hi hI => by
      have := hs (i + 1) y s hi (by rw [show k + (i + 1) = k + 1 + i by omega]; exact hI)
      rw [show k + (i + 1) = k + 1 + i by omega] at this
      exact this) h1
    refine ⟨s2, ?_, by rw [List.length_cons, show k + (xs.length + 1) = k + 1 + xs.length by omega]; exact h2⟩
    rw [foldO, e1]
    exact e2
theorem loopO_inv {step : σ → α → Option (St σ τ)} (I : Nat → σ → Prop) : ∀ (xs : List α) (k : Nat) (s : σ), (∀ i x s, xs[i]? = some x → I (k + i) s → ∃ s', step s x = some (.nx s') ∧ I (k + i + 1) s') → I k s → ∃ s', loopO step xs s = some (.nx s') ∧ I (k + xs.length) s'
  | [], k, s, _, h => ⟨s, rfl, h⟩
  | x :: xs, k, s, hs, h => by
    obtain ⟨s1, e1, h1⟩ := hs 0 x s rfl h
    obtain ⟨s2, e2, h2⟩ := loopO_inv I xs (k + 1) s1 (fun i y s hi hI => by
      have := hs (i + 1) y s hi (by rw [show k + (i + 1) = k + 1 + i by omega]; exact hI)
      rw [show k + (i + 1) = k + 1 + i by omega] at this
      exact this) h1
    refine ⟨s2, ?_, by rw [List.length_cons, show k + (xs.length + 1) = k + 1 + xs.length by omega]; exact h2⟩
    rw [loopO, e1]
    exact e2
theorem loopO_all {step : σ → α → Option (St σ τ)} (I : σ → Prop) {xs : List α} {s : σ} (hs : ∀ x ∈ xs, ∀ s, I s → ∃ s', step s x = some (.nx s') ∧ I s') (h : I s) : ∃ s', loopO step xs s = some (.nx s') ∧ I s' := by
  have := loopO_inv (step := step) (fun _ => I) xs 0 s (fun i x s hi hI => hs x (List.mem_of_getElem? hi) s hI) h
  exact this
theorem loopO_unit {step : Unit → α → Option (St Unit τ)} {xs : List α} (hs : ∀ x ∈ xs, step () x = some (.nx ())) : loopO step xs () = some (.nx ()) := by
  obtain ⟨s', h, _⟩ := loopO_all (step := step) (xs := xs) (s := ()) (fun _ => True) (fun x hx s _ => ⟨(), hs x hx, trivial⟩) trivial
  exact h
theorem loopO_find {step : Unit → α → Option (St Unit τ)} {p : α → Bool} {v : α → τ} : ∀ {xs : List α}, (∀ x ∈ xs, step () x = some (if p x then .rt (v x) else .nx ())) → loopO step xs () = some (match xs.find? p with
    | some x => .rt (v x)
    | none => .nx ())
  | [], _ => rfl
  | x :: xs, h => by
    rw [loopO, h x (.head _), Option.bind_some]
    cases hp : p x with
    | true => rw [List.find?_cons_of_pos hp]; rfl
    | false =>
      rw [List.find?_cons_of_neg (by simp [hp])]
      exact loopO_find (fun y hy => h y (.tail _ hy))
theorem loopO_stop {step : Unit → α → Option (St Unit τ)} {v : τ} : ∀ {xs : List α} {m : Nat} {x : α}, xs[m]? = some x → (∀ k y, k < m → xs[k]? = some y → step () y = some (.nx ())) → step () x = some (.rt v) → loopO step xs () = some (.rt v)
  | [], m, x, h, _, _ => by simp at h
  | y :: xs, 0, x, h, _, hx => by
    simp only [List.getElem?_cons_zero, Option.some.injEq] at h
    subst h
    rw [loopO, hx]
    rfl
  | y :: xs, m + 1, x, h, hs, hx => by
    rw [List.getElem?_cons_succ] at h
    rw [loopO, hs 0 y (by omega) rfl]
    exact loopO_stop h (fun k z hk hz => hs (k + 1) z (by omega) (by rw [List.getElem?_cons_succ]; exact hz)) hx
theorem like_ok' [DecidableEq α] {s : α → Bool} {a b : α} (h : a = b) (hs : s a = true) : likeN s a b = some true := if_pos ⟨h, hs⟩
theorem smT_ok {s : α → Bool} {xs : List α} (hl : xs.length ≤ SL) (h : ∀ x ∈ xs, s x = true) : smT s xs = true := by
  unfold smT
  rw [Bool.and_eq_true, decide_eq_true_eq, List.all_eq_true]
  exact ⟨hl, h⟩
theorem smT0 {xs : List α} (hl : xs.length ≤ SL) : smT sm0 xs = true := smT_ok hl fun _ _ => rfl
theorem smO0 (x : Option α) : smO sm0 x = true := by cases x <;> rfl
/-! ### tables -/
def tab (f : Nat → α) (n : Nat) : List α := (List.range n).map f
theorem tab_len (f : Nat → α) (n : Nat) : (tab f n).length = n := by unfold tab; simp
theorem tab_get {f : Nat → α} {n k : Nat} (h : k < n) : (tab f n)[k]? = some (f k) := by
  unfold tab
  rw [List.getElem?_map, List.getElem?_range h]
  rfl
theorem tab_at {f : Nat → α} {n k : Nat} (h : k < n) : atI (tab f n) (k : Int) = some (f k) := atI_nat (tab_get h)
theorem mem_tab {f : Nat → α} {n : Nat} {x : α} : x ∈ tab f n ↔ ∃ k, k < n ∧ f k = x := by
  unfold tab
  rw [List.mem_map]
  simp only [List.mem_range]
theorem tab_succ (f : Nat → α) (n : Nat) : tab f (n + 1) = tab f n ++ [f n] := by
  unfold tab
  rw [List.range_succ, List.map_append]
  rfl
theorem tab_cons (f : Nat → α) (n : Nat) : tab f (n + 1) = f 0 :: tab (fun k => f (k + 1)) n := by
  unfold tab
  rw [List.range_succ_eq_map, List.map_cons, List.map_map]
  rfl
theorem tab_map (f : Nat → α) (g : α → β) (n : Nat) : (tab f n).map g = tab (fun k => g (f k)) n := by
  unfold tab
  rw [List.map_map]
  rfl
theorem tab_congr {f g : Nat → α} {n : Nat} (h : ∀ k, k < n → f k = g k) : tab f n = tab g n := by
  unfold tab
  apply List.map_congr_left
  intro k hk
  exact h k (List.mem_range.mp hk)
theorem tab_zip (f : Nat → α) (g : Nat → β) : ∀ n, (tab f n).zip (tab g n) = tab (fun k => (f k, g k)) n := by
  intro n
  unfold tab
  rw [List.zip_map']
theorem tab_of (xs : List α) (d : α) : xs = tab (fun k => xs.getD k d) xs.length := by
  apply List.ext_getElem?
  intro i
  by_cases h : i < xs.length
  · rw [tab_get h, List.getD_eq_getElem?_getD, List.getElem?_eq_getElem h]
    rfl
  · rw [List.getElem?_eq_none (by omega), List.getElem?_eq_none (by rw [tab_len]; omega)]
theorem tab_take (f : Nat → α) {n k : Nat} (h : k ≤ n) : (tab f n).take k = tab f k := by
  unfold tab
  rw [← List.map_take, List.take_range, Nat.min_eq_left h]
theorem tab_drop (f : Nat → α) {n k : Nat} (h : k ≤ n) : (tab f n).drop k = tab (fun i => f (k + i)) (n - k) := by
  apply List.ext_getElem?
  intro i
  rw [List.getElem?_drop]
  by_cases hi : i < n - k
  · rw [tab_get hi, tab_get (by omega)]
  · rw [List.getElem?_eq_none (by rw [tab_len]; omega), List.getElem?_eq_none (by rw [tab_len]; omega)]
theorem cut_to (xs : List α) {k : Nat} (h : k ≤ xs.length) : cutL xs none (some (k : Int)) = xs.take k := by
  unfold cutL
  rw [show HT.sIx xs.length 0 none = 0 from rfl, HT.sIx_nat, Nat.min_eq_left h]
  rfl
theorem cut_from (xs : List α) {k : Nat} (h : k ≤ xs.length) : cutL xs (some (k : Int)) none = xs.drop k := by
  unfold cutL
  rw [show HT.sIx xs.length xs.length none = xs.length from rfl, HT.sIx_nat, Nat.min_eq_left h]
  rw [List.take_of_length_le]
  rw [List.length_drop]
  omega
abbrev rng (n : Nat) : List Int := tab (fun k => (k : Int)) n
theorem span_tab (lo : Int) (n : Nat) : span lo (lo + (n : Int)) = tab (fun k => lo + (k : Int)) n := by
  unfold span tab
  rw [show lo + (n : Int) - lo = (n : Int) by omega, Int.toNat_natCast]
theorem rangeO_rng {n : Nat} (h : n ≤ 1000000000) : rangeO 0 (n : Int) = some (rng n) := by
  rw [rangeO_ok (by omega) (by omega) (by omega) (by omega)]
  have := span_tab 0 n
  rw [Int.zero_add] at this
  rw [this]
  congr 1
  exact tab_congr fun k _ => by omega
theorem rangeO_tab {lo : Int} {n : Nat} {hi : Int} (e : hi = lo + (n : Int)) (h1 : -1000000000 ≤ lo) (h2 : lo ≤ 1000000000) (h4 : hi ≤ 1000000000) : rangeO lo hi = some (tab (fun k => lo + (k : Int)) n) := by
  subst e
  rw [rangeO_ok h1 h2 (by omega) h4, span_tab]
/-- a comprehension over a table -/
theorem lcO_tab {g : α → Option β} {f : Nat → α} {h : Nat → β} {n : Nat} (hs : ∀ k, k < n → g (f k) = some (h k)) (hn : n ≤ SL) : lcO g (tab f n) = some (tab h n) := by
  have e : mapO g (tab f n) = some (tab h n) := by
    have go : ∀ ks : List Nat, (∀ k ∈ ks, k < n) → mapO g (ks.map f) = some (ks.map h) := by
      intro ks
      induction ks with
      | nil => intro _; rfl
      | cons k ks ih =>
        intro hk
        rw [List.map_cons, mapO, hs k (hk k (.head _)), Option.bind_some, ih (fun j hj => hk j (.tail _ hj))]
        rfl
    exact go _ fun k hk => List.mem_range.mp hk
  unfold lcO
  rw [e, Option.bind_some, lenO_ok (by rw [tab_len]; exact hn)]
theorem foldO_tab {step : σ → α → Option σ} {f : Nat → α} (I : Nat → σ → Prop) {n : Nat} {s : σ} (h : ∀ i s, i < n → I i s → ∃ s', step s (f i) = some s' ∧ I (i + 1) s') (h0 : I 0 s) : ∃ s', foldO step (tab f n) s = some s' ∧ I n s' := by
  have := foldO_inv (step := step) I (tab f n) 0 s (fun i x s hi hI => by
    have hn : i < n := by
      have := (List.getElem?_eq_some_iff.mp hi).1
      rw [tab_len] at this
      exact this
    rw [tab_get hn] at hi
    cases hi
    rw [Nat.zero_add] at hI ⊢
    exact h i s hn hI) h0
  rw [tab_len, Nat.zero_add] at this
  exact this
theorem loopO_tab {step : σ → α → Option (St σ τ)} {f : Nat → α} (I : Nat → σ → Prop) {n : Nat} {s : σ} (h : ∀ i s, i < n → I i s → ∃ s', step s (f i) = some (.nx s') ∧ I (i + 1) s') (h0 : I 0 s) : ∃ s', loopO step (tab f n) s = some (.nx s') ∧ I n s' := by
  have := loopO_inv (step := step) I (tab f n) 0 s (fun i x s hi hI => by
    have hn : i < n := by
      have := (List.getElem?_eq_some_iff.mp hi).1
      rw [tab_len] at this
      exact this
    rw [tab_get hn] at hi
    cases hi
    rw [Nat.zero_add] at hI ⊢
    exact h i s hn hI) h0
  rw [tab_len, Nat.zero_add] at this
  exact this
theorem enum_tab (f : Nat → α) : ∀ (n : Nat) (k : Int), enumI k (tab f n) = tab (fun i => (k + (i : Int), f i)) n := by
  have go : ∀ (n : Nat) (f : Nat → α) (k : Int), enumI k (tab f n) = tab (fun i => (k + (i : Int), f i)) n := by
    intro n
    induction n with
    | zero => intro f k; rfl
    | succ n ih =>
      intro f k
      rw [tab_cons, enumI, ih, tab_cons]
      congr 1
      · rw [show k + ((0 : Nat) : Int) = k by omega]
      · exact tab_congr fun i _ => by rw [show k + 1 + (i : Int) = k + ((i + 1 : Nat) : Int) by omega]
  exact fun n k => go n f k
theorem rep_one (x : α) (n : Nat) : (List.replicate n [x]).flatten = tab (fun _ => x) n := by
  unfold tab
  rw [List.map_const', List.length_range]
  induction n with
  | zero => rfl
  | succ n ih => rw [List.replicate_succ, List.flatten_cons, ih, List.replicate_succ]; rfl
theorem repTO_one [DecidableEq α] (x : α) {n : Nat} (h1 : 1 ≤ n) (h2 : n ≤ 1000) : repTO [x] (n : Int) = some (tab (fun _ => x) n) := by
  unfold repTO
  rw [if_pos ⟨by simp, by omega, by omega, by simp⟩, Int.toNat_natCast, rep_one]
/-! sums -/
def sumN (f : Nat → Int) : Nat → Int
  | 0 => 0
  | n + 1 => sumN f n + f n
theorem tab_sum (f : Nat → Int) : ∀ n, (tab f n).sum = sumN f n
  | 0 => rfl
  | n + 1 => by rw [tab_succ, List.sum_append, tab_sum f n]; simp [sumN]
theorem sumN_congr {f g : Nat → Int} : ∀ {n : Nat}, (∀ k, k < n → f k = g k) → sumN f n = sumN g n
  | 0, _ => rfl
  | n + 1, h => by rw [sumN, sumN, sumN_congr fun k hk => h k (by omega), h n (by omega)]
theorem sumN_add (f g : Nat → Int) : ∀ n, sumN (fun k => f k + g k) n = sumN f n + sumN g n
  | 0 => rfl
  | n + 1 => by rw [sumN, sumN, sumN, sumN_add f g n]; omega
theorem sumN_sub (f g : Nat → Int) : ∀ n, sumN (fun k => f k - g k) n = sumN f n - sumN g n
  | 0 => rfl
  | n + 1 => by rw [sumN, sumN, sumN, sumN_sub f g n]; omega
theorem sumN_const (c : Int) : ∀ n : Nat, sumN (fun _ => c) n = c * n
  | 0 => by simp [sumN]
  | n + 1 => by rw [sumN, sumN_const c n, Int.natCast_add, Int.mul_add]; simp
theorem sumN_split (f : Nat → Int) (h : Nat) : ∀ m, sumN f (h + m) = sumN f h + sumN (fun k => f (h + k)) m
  | 0 => by simp [sumN]
  | m + 1 => by rw [← Nat.add_assoc, sumN, sumN_split f h m, sumN]; omega
theorem sumN_le {f g : Nat → Int} : ∀ {n : Nat}, (∀ k, k < n → f k ≤ g k) → sumN f n ≤ sumN g n
  | 0, _ => Int.le_refl _
  | n + 1, h => by
    have := sumN_le (n := n) fun k hk => h k (by omega)
    have := h n (by omega)
    rw [sumN, sumN]
    omega
theorem sumN_mul (c : Int) (f : Nat → Int) : ∀ n, sumN (fun k => c * f k) n = c * sumN f n
  | 0 => by simp [sumN]
  | n + 1 => by rw [sumN, sumN, sumN_mul c f n, Int.mul_add]
end
section
variable {α : Type}
theorem minL_spec : ∀ {xs : List Int}, xs ≠ [] → ∃ m, minL xs = some m ∧ m ∈ xs ∧ ∀ x ∈ xs, m ≤ x
  | [], h => absurd rfl h
  | x :: xs, _ => by
    have go : ∀ (xs : List Int) (a : Int), (xs.foldl min a ∈ a :: xs) ∧ ∀ y ∈ a :: xs, xs.foldl min a ≤ y := by
      intro xs
      induction xs with
      | nil => intro a; exact ⟨.head _, fun y hy => by rw [List.mem_singleton.mp hy]; exact Int.le_refl _⟩
      | cons z xs ih =>
        intro a
        obtain ⟨h1, h2⟩ := ih (min a z)
        rw [List.foldl_cons]
        refine ⟨?_, fun y hy => ?_⟩
        · rcases List.mem_cons.mp h1 with h | h
          · rw [h]
            by_cases q : a ≤ z
            · rw [show min a z = a by omega]; exact .head _
            · rw [show min a z = z by omega]; exact .tail _ (.head _)
          · exact .tail _ (.tail _ h)
        · have h0 := h2 _ (.head _)
          rcases List.mem_cons.mp hy with rfl | hy
          · omega
          · rcases List.mem_cons.mp hy with rfl | hy
            · omega
            · exact h2 y (.tail _ hy)
    obtain ⟨h1, h2⟩ := go xs x
    exact ⟨_, rfl, h1, h2⟩
theorem maxL_spec : ∀ {xs : List Int}, xs ≠ [] → ∃ m, maxL xs = some m ∧ m ∈ xs ∧ ∀ x ∈ xs, x ≤ m
  | [], h => absurd rfl h
  | x :: xs, _ => by
    have go : ∀ (xs : List Int) (a : Int), (xs.foldl max a ∈ a :: xs) ∧ ∀ y ∈ a :: xs, y ≤ xs.foldl max a := by
      intro xs
      induction xs with
      | nil => intro a; exact ⟨.head _, fun y hy => by rw [List.mem_singleton.mp hy]; exact Int.le_refl _⟩
      | cons z xs ih =>
        intro a
        obtain ⟨h1, h2⟩ := ih (max a z)
        rw [List.foldl_cons]
        refine ⟨?_, fun y hy => ?_⟩
        · rcases List.mem_cons.mp h1 with h | h
          · rw [h]
            by_cases q : z ≤ a
            · rw [show max a z = a by omega]; exact .head _
            · rw [show max a z = z by omega]; exact .tail _ (.head _)
          · exact .tail _ (.tail _ h)
        · have h0 := h2 _ (.head _)
          rcases List.mem_cons.mp hy with rfl | hy
          · omega
          · rcases List.mem_cons.mp hy with rfl | hy
            · omega
            · exact h2 y (.tail _ hy)
    obtain ⟨h1, h2⟩ := go xs x
    exact ⟨_, rfl, h1, h2⟩
/-- the drawn row as a table -/
theorem row_tab {ns : List Int} (hl : ns.length ≤ 63) (k : Nat) (hk : k ≤ 1000) : ∃ r : Nat → Int, rowN ns (k : Nat) = some (tab r k) ∧ ∀ i, 0 ≤ r i ∧ r i < 1000003 := by
  obtain ⟨r, h1, h2, h3⟩ := rowN_ok hl k hk
  refine ⟨fun i => r.getD i 0, ?_, fun i => ?_⟩
  · rw [h1, ← h2]
    exact congrArg some (tab_of r 0)
  · by_cases hi : i < r.length
    · have : r.getD i 0 = r[i] := by rw [List.getD_eq_getElem?_getD, List.getElem?_eq_getElem hi]; rfl
      show 0 ≤ r.getD i 0 ∧ r.getD i 0 < 1000003
      rw [this]
      exact h3 _ (List.getElem_mem hi)
    · have : r.getD i 0 = 0 := by rw [List.getD_eq_getElem?_getD, List.getElem?_eq_none (by omega)]; rfl
      show 0 ≤ r.getD i 0 ∧ r.getD i 0 < 1000003
      rw [this]
      omega
end
end Nv

namespace K17
open PySem PySem.Spec PyProof.Rows L2 Ev Nv
abbrev Sto := Int × Int × Int × Int
/-- what is held before hour i -/
def hN (s : Sto) (o : Nat → Int) : Nat → Int
  | 0 => s.2.2.2
  | i + 1 => if 0 ≤ o i then hN s o i + min (min (o i) s.2.1) (s.1 - hN s o i) else hN s o i - min (min (-(o i)) s.2.2.1) (hN s o i)
def lN (s : Sto) (o : Nat → Int) (i : Nat) : Int := if 0 ≤ o i then 0 else -(o i) - min (min (-(o i)) s.2.2.1) (hN s o i)
abbrev holdsN (s : Sto) (o : Nat → Int) (n : Nat) : List Int := tab (fun i => hN s o (i + 1)) n
abbrev lacksN (s : Sto) (o : Nat → Int) (n : Nat) : List Int := tab (lN s o) n
theorem law_steps_ok (s : Sto) (g w : Nat → Int) (n : Nat) (hn : n ≤ 1000) : n__law_steps s (tab g n) (tab w n) = some (holdsN s (fun i => g i - w i) n, lacksN s (fun i => g i - w i) n) := by
  have hs := SLn
  unfold n__law_steps
  rw [tab_len]
  refine bindS (rangeO_rng (by omega)) ?_
  obtain ⟨s', f1, f2⟩ := foldO_tab (step := n__law_steps_L1 s (tab g n) (tab w n)) (f := fun k => (k : Int)) (fun i t => t = (hN s (fun i => g i - w i) i, holdsN s (fun i => g i - w i) i, lacksN s (fun i => g i - w i) i)) (n := n) (s := (s.2.2.2, [], [])) (by
    rintro i _ hi rfl
    refine ⟨_, ?_, rfl⟩
    unfold n__law_steps_L1
    refine bindS (tab_at hi) (bindS (tab_at hi) (bindS rfl ?_))
    unfold holdsN lacksN
    rw [tab_succ, tab_succ]
    by_cases q : 0 ≤ g i - w i
    · refine bindS (iteT (decide_eq_true q) (bindS rfl (bindS (appO_ok (by rw [tab_len]; omega)) rfl))) ?_
      refine bindS (appO_ok (by rw [tab_len]; omega)) ?_
      simp only [hN, lN, if_pos q]
    · refine bindS (iteF (decide_eq_false q) (bindS rfl (bindS rfl (bindS (appO_ok (by rw [tab_len]; omega)) rfl)))) ?_
      refine bindS (appO_ok (by rw [tab_len]; omega)) ?_
      simp only [hN, lN, if_neg q]) rfl
  subst f2
  exact bindS f1 rfl
theorem store_steps_ok (s : Sto) (g w : Nat → Int) (n : Nat) (hn : n ≤ 1000) : n_store_steps s (tab g n) (tab w n) = some (holdsN s (fun i => g i - w i) n, lacksN s (fun i => g i - w i) n) := by
  have hs := SLn
  unfold n_store_steps
  rw [tab_zip]
  obtain ⟨s', f1, f2⟩ := foldO_tab (step := n_store_steps_L1 s) (f := fun k => (g k, w k)) (fun i t => t = (hN s (fun i => g i - w i) i, holdsN s (fun i => g i - w i) i, lacksN s (fun i => g i - w i) i)) (n := n) (s := (s.2.2.2, [], [])) (by
    rintro i _ hi rfl
    refine ⟨_, ?_, rfl⟩
    unfold n_store_steps_L1
    unfold holdsN lacksN
    rw [tab_succ, tab_succ]
    by_cases q : 0 ≤ g i - w i
    · refine bindS (iteT (decide_eq_true (show w i ≤ g i by omega)) (bindS rfl (bindS (appO_ok (by rw [tab_len]; omega)) rfl))) ?_
      refine bindS (appO_ok (by rw [tab_len]; omega)) ?_
      simp only [hN, lN, if_pos q]
    · refine bindS (iteF (decide_eq_false (show ¬ w i ≤ g i by omega)) (bindS rfl (bindS rfl (bindS (appO_ok (by rw [tab_len]; omega)) rfl)))) ?_
      refine bindS (appO_ok (by rw [tab_len]; omega)) ?_
      simp only [hN, lN, if_neg q]
      rw [show w i - g i = -(g i - w i) by omega]) rfl
  subst f2
  exact bindS f1 rfl
theorem store_run_ok (s : Sto) (g w : Nat → Int) (n : Nat) (hn : n ≤ 1000) : n_store_run s (tab g n) (tab w n) = some (holdsN s (fun i => g i - w i) n) := by
  unfold n_store_run
  exact bindS (store_steps_ok s g w n hn) rfl
theorem lacks_of_ok (s : Sto) (g w : Nat → Int) (n : Nat) (hn : n ≤ 1000) : n_lacks_of s (tab g n) (tab w n) = some (lacksN s (fun i => g i - w i) n) := by
  unfold n_lacks_of
  exact bindS (store_steps_ok s g w n hn) rfl
/-- no hour lacks -/
def okN (s : Sto) (o : Nat → Int) (n : Nat) : Bool := !((lacksN s o n).any (· != 0))
theorem can_store_ok (s : Sto) (g w : Nat → Int) (n : Nat) (hn : n ≤ 1000) : n_can_store s (tab g n) (tab w n) = some (okN s (fun i => g i - w i) n) := by
  unfold n_can_store
  exact bindS (lacks_of_ok s g w n hn) rfl
theorem okN_iff {s : Sto} {o : Nat → Int} {n : Nat} : okN s o n = true ↔ ∀ i, i < n → lN s o i = 0 := by
  unfold okN
  rw [Bool.not_eq_true', List.any_eq_false]
  constructor
  · intro h i hi
    have := h _ (mem_tab.mpr ⟨i, hi, rfl⟩)
    simpa using this
  · intro h x hx
    obtain ⟨i, hi, rfl⟩ := mem_tab.mp hx
    simp [h i hi]
/-- the bounds of a store -/
structure StoOk (s : Sto) : Prop where
  r : 0 ≤ s.1 ∧ s.1 ≤ 1000
  i : 0 ≤ s.2.1
  u : 0 ≤ s.2.2.1
  h : 0 ≤ s.2.2.2 ∧ s.2.2.2 ≤ s.1
theorem hN_ok {s : Sto} (k : StoOk s) (o : Nat → Int) : ∀ i, 0 ≤ hN s o i ∧ hN s o i ≤ s.1
  | 0 => k.h
  | i + 1 => by
    have ih := hN_ok k o i
    have := k.i; have := k.u
    rw [hN]
    split <;> omega
theorem lN_nn {s : Sto} (k : StoOk s) (o : Nat → Int) (i : Nat) : 0 ≤ lN s o i := by
  have ih := hN_ok k o i
  unfold lN
  split <;> omega
theorem lN_zero {s : Sto} (k : StoOk s) {o : Nat → Int} {i : Nat} : lN s o i = 0 ↔ (0 ≤ o i ∨ (-(o i) ≤ s.2.2.1 ∧ -(o i) ≤ hN s o i)) := by
  have ih := hN_ok k o i
  have := k.u
  unfold lN
  split <;> omega
theorem sum_nn : ∀ {xs : List Int}, (∀ x ∈ xs, 0 ≤ x) → 0 ≤ xs.sum ∧ (xs.sum = 0 ↔ ∀ x ∈ xs, x = 0)
  | [], _ => by simp
  | x :: xs, h => by
    have h1 := h x (.head _)
    have h2 := sum_nn (xs := xs) fun y hy => h y (.tail _ hy)
    rw [List.sum_cons]
    refine ⟨by omega, ?_⟩
    constructor
    · intro e y hy
      rcases List.mem_cons.mp hy with rfl | hy
      · omega
      · exact h2.2.mp (by omega) y hy
    · intro e
      have := e x (.head _)
      have := h2.2.mpr fun y hy => e y (.tail _ hy)
      omega
theorem lacks_sum {s : Sto} (k : StoOk s) (o : Nat → Int) (n : Nat) : decide ((lacksN s o n).sum = 0) = okN s o n := by
  have h := (sum_nn (xs := lacksN s o n) fun x hx => by
    obtain ⟨i, _, rfl⟩ := mem_tab.mp hx
    exact lN_nn k o i).2
  rw [Bool.eq_iff_iff, decide_eq_true_eq, h, okN_iff]
  constructor
  · intro h i hi
    exact h _ (mem_tab.mpr ⟨i, hi, rfl⟩)
  · intro h x hx
    obtain ⟨i, hi, rfl⟩ := mem_tab.mp hx
    exact h i hi
/-! ### needs from behind -/
def nR (s : Sto) (o : Nat → Int) (n : Nat) : Nat → Int
  | 0 => 0
  | j + 1 => if 0 ≤ o (n - 1 - j) then max 0 (nR s o n j - min (o (n - 1 - j)) s.2.1) else nR s o n j - o (n - 1 - j)
def oR (s : Sto) (o : Nat → Int) (n : Nat) : Nat → Prop
  | 0 => True
  | j + 1 => oR s o n j ∧ -(o (n - 1 - j)) ≤ s.2.2.1 ∧ nR s o n j ≤ s.1
theorem nR_nn {s : Sto} {o : Nat → Int} {n : Nat} : ∀ j, 0 ≤ nR s o n j
  | 0 => Int.le_refl _
  | j + 1 => by
    have := nR_nn (s := s) (o := o) (n := n) j
    rw [nR]
    split <;> omega
theorem rev_tab {α : Type} (f : Nat → α) : ∀ n, (tab f n).reverse = tab (fun i => f (n - 1 - i)) n
  | 0 => rfl
  | n + 1 => by
    rw [tab_succ, List.reverse_append, rev_tab f n, tab_cons]
    show f n :: tab (fun i => f (n - 1 - i)) n = _
    congr 1
    exact tab_congr fun i hi => by rw [show n + 1 - 1 - (i + 1) = n - 1 - i by omega]
theorem needs_ok (s : Sto) (g w : Nat → Int) (n : Nat) (hn : n ≤ 1000) : n_needs_behind s (tab g n) (tab w n) = some (tab (fun i => nR s (fun i => g i - w i) n (n - 1 - i)) n) := by
  have hs := SLn
  unfold n_needs_behind
  refine bindS (show lzpO (tab g n) (tab w n) = some (tab (fun k => (g k, w k)) n) by
    unfold lzpO
    rw [if_pos (by rw [tab_len, tab_len]), tab_zip]) ?_
  rw [rev_tab]
  obtain ⟨s', f1, f2⟩ := foldO_tab (step := n_needs_behind_L1 s) (f := fun k => (g (n - 1 - k), w (n - 1 - k))) (fun i t => t = (nR s (fun i => g i - w i) n i, tab (nR s (fun i => g i - w i) n) i)) (n := n) (s := (0, [])) (by
    rintro i _ hi rfl
    refine ⟨_, ?_, rfl⟩
    unfold n_needs_behind_L1
    rw [tab_succ]
    refine bindS (appO_ok (by rw [tab_len]; omega)) ?_
    by_cases q : 0 ≤ g (n - 1 - i) - w (n - 1 - i)
    · refine bindS (congrArg some (iteT (decide_eq_true (show w (n - 1 - i) ≤ g (n - 1 - i) by omega)) rfl)) ?_
      simp only [nR, if_pos q]
    · refine bindS (congrArg some (iteF (decide_eq_false (show ¬ w (n - 1 - i) ≤ g (n - 1 - i) by omega)) rfl)) ?_
      simp only [nR, if_neg q]
      rw [show nR s (fun i => g i - w i) n i + w (n - 1 - i) - g (n - 1 - i) = nR s (fun i => g i - w i) n i - (g (n - 1 - i) - w (n - 1 - i)) by omega]) rfl
  subst f2
  refine bindS f1 ?_
  rw [rev_tab]
/-! ### what can be reached -/
def lo (s : Sto) (o : Nat → Int) : Nat → Int
  | 0 => s.2.2.2
  | i + 1 => if 0 ≤ o i then lo s o i else max (lo s o i) (-(o i)) - -(o i)
/-- a loop that returns at a turn -/
theorem loopO_rt {α σ τ : Type} {step : σ → α → Option (St σ τ)} {r : τ} : ∀ (m n : Nat) {f : Nat → α} {s : σ} (I : Nat → σ → Prop), m < n → (∀ i s, i < m → I i s → ∃ s', step s (f i) = some (.nx s') ∧ I (i + 1) s') → (∀ s, I m s → step s (f m) = some (.rt r)) → I 0 s → loopO step (tab f n) s = some (.rt r)
  | m, 0, _, _, _, h, _, _, _ => by omega
  | 0, n + 1, f, s, I, _, _, h1, h0 => by
    rw [tab_cons, loopO, h1 s h0]
    rfl
  | m + 1, n + 1, f, s, I, hm, h, h1, h0 => by
    obtain ⟨s1, e1, i1⟩ := h 0 s (by omega) h0
    rw [tab_cons, loopO, e1]
    exact loopO_rt m n (f := fun k => f (k + 1)) (fun i => I (i + 1)) (by omega) (fun i s hi hI => h (i + 1) s (by omega) hI) h1 i1
/-- the first hour that lacks -/
theorem first_lack {s : Sto} {o : Nat → Int} {n : Nat} (h : okN s o n = false) : ∃ m, m < n ∧ lN s o m ≠ 0 ∧ ∀ i, i < m → lN s o i = 0 := by
  have : ∃ m, m < n ∧ lN s o m ≠ 0 := by
    apply Classical.byContradiction
    intro q
    have : okN s o n = true := okN_iff.mpr fun i hi => by
      apply Classical.byContradiction
      intro z
      exact q ⟨i, hi, z⟩
    rw [this] at h
    cases h
  obtain ⟨m, hm, hq⟩ := this
  induction m using Nat.strongRecOn with
  | ind m ih =>
    by_cases q : ∃ i, i < m ∧ lN s o i ≠ 0
    · obtain ⟨i, hi, z⟩ := q
      exact ih i hi (by omega) z
    · exact ⟨m, hm, hq, fun i hi => by
        apply Classical.byContradiction
        intro z
        exact q ⟨i, hi, z⟩⟩
abbrev reachN (s : Sto) (o : Nat → Int) (n : Nat) : List (Int × Int) := tab (fun i => (lo s o (i + 1), hN s o (i + 1))) n
theorem reach_step {s : Sto} (k : StoOk s) (g w : Nat → Int) {n i : Nat} (hn : n ≤ 1000) (hi : i < n) (h : lN s (fun i => g i - w i) i = 0) :
    n_reach_bounds_L1 s (lo s (fun i => g i - w i) i, hN s (fun i => g i - w i) i, reachN s (fun i => g i - w i) i) (g i, w i) = some (.nx (lo s (fun i => g i - w i) (i + 1), hN s (fun i => g i - w i) (i + 1), reachN s (fun i => g i - w i) (i + 1))) := by
  have hs := SLn
  have hh := hN_ok k (fun i => g i - w i) i
  have h := (lN_zero k).mp h
  unfold n_reach_bounds_L1 reachN
  rw [tab_succ]
  by_cases q : 0 ≤ g i - w i
  · refine iteT (decide_eq_true (show w i ≤ g i by omega)) (bindS rfl (bindS (appO_ok (by rw [tab_len]; omega)) ?_))
    simp only [lo, hN, if_pos q]
    rw [show min s.1 (hN s (fun i => g i - w i) i + min (g i - w i) s.2.1) = hN s (fun i => g i - w i) i + min (min (g i - w i) s.2.1) (s.1 - hN s (fun i => g i - w i) i) by omega]
  · refine iteF (decide_eq_false (show ¬ w i ≤ g i by omega)) (bindS rfl (iteF ?_ (bindS rfl (bindS rfl (bindS (appO_ok (by rw [tab_len]; omega)) ?_)))))
    · simp only [Bool.or_eq_false_iff, decide_eq_false_iff_not]
      omega
    · simp only [lo, hN, if_neg q]
      rw [show w i - g i = -(g i - w i) by omega]
      rw [show min (min (-(g i - w i)) s.2.2.1) (hN s (fun i => g i - w i) i) = -(g i - w i) by omega]
theorem reach_ok {s : Sto} (k : StoOk s) (g w : Nat → Int) (n : Nat) (hn : n ≤ 1000) : n_reach_bounds s (tab g n) (tab w n) = some (if okN s (fun i => g i - w i) n then some (reachN s (fun i => g i - w i) n) else none) := by
  unfold n_reach_bounds
  rw [tab_zip]
  cases hok : okN s (fun i => g i - w i) n with
  | true =>
    rw [okN_iff] at hok
    obtain ⟨s', f1, f2⟩ := loopO_tab (τ := Option (List (Int × Int))) (step := n_reach_bounds_L1 s) (f := fun k => (g k, w k)) (fun i t => t = (lo s (fun i => g i - w i) i, hN s (fun i => g i - w i) i, reachN s (fun i => g i - w i) i)) (n := n) (s := (s.2.2.2, s.2.2.2, [])) (by
      rintro i _ hi rfl
      exact ⟨_, reach_step k g w hn hi (hok i hi), rfl⟩) rfl
    subst f2
    exact bindN f1 rfl
  | false =>
    obtain ⟨m, hm, hq, hlt⟩ := first_lack hok
    refine bindRt (loopO_rt (r := (none : Option (List (Int × Int)))) m n (fun i t => t = (lo s (fun i => g i - w i) i, hN s (fun i => g i - w i) i, reachN s (fun i => g i - w i) i)) hm (by
      rintro i _ hi rfl
      exact ⟨_, reach_step k g w hn (by omega) (hlt i hi), rfl⟩) (by
      rintro _ rfl
      have hz := fun q => hq ((lN_zero k).mpr q)
      unfold n_reach_bounds_L1
      refine iteF (decide_eq_false ?_) (bindS rfl (iteT ?_ rfl))
      · show ¬ w m ≤ g m
        intro z
        exact hz (.inl (by omega))
      · simp only [Bool.or_eq_true, decide_eq_true_eq]
        apply Classical.byContradiction
        intro z
        exact hz (.inr (by omega))) rfl) rfl
end K17

namespace K17
open PySem PySem.Spec PyProof.Rows L2 Ev Nv Ev.Pre
theorem lack_need {s : Sto} (k : StoOk s) (o : Nat → Int) (n : Nat) : ∀ j, j ≤ n → ((∀ t, n - j ≤ t → t < n → lN s o t = 0) ↔ (oR s o n j ∧ nR s o n j ≤ hN s o (n - j)))
  | 0, _ => by
    have := (hN_ok k o n).1
    constructor
    · intro _; exact ⟨trivial, by rw [nR, Nat.sub_zero]; exact this⟩
    · intro _ t h1 h2; omega
  | j + 1, hj => by
    have ih := lack_need k o n j (by omega)
    obtain ⟨i, hi⟩ : ∃ i, n = i + 1 + j := ⟨n - 1 - j, by omega⟩
    have e1 : n - (j + 1) = i := by omega
    have e2 : n - j = i + 1 := by omega
    have e3 : n - 1 - j = i := by omega
    rw [e1]
    rw [e2] at ih
    have hh := hN_ok k o i
    have hn := nR_nn (s := s) (o := o) (n := n) j
    have z := lN_zero k (o := o) (i := i)
    have k1 := k.i; have k2 := k.u; have k3 := k.r
    rw [show (∀ t, i ≤ t → t < n → lN s o t = 0) ↔ (lN s o i = 0 ∧ ∀ t, i + 1 ≤ t → t < n → lN s o t = 0) from by
      constructor
      · intro h
        exact ⟨h i (Nat.le_refl _) (by omega), fun t h1 h2 => h t (by omega) h2⟩
      · rintro ⟨h0, h⟩ t h1 h2
        rcases Nat.lt_or_ge i t with q | q
        · exact h t q h2
        · rw [show t = i by omega]; exact h0]
    rw [ih, z, oR, nR, e3, hN]
    by_cases q : 0 ≤ o i
    · rw [if_pos q, if_pos q]
      constructor
      · rintro ⟨_, h1, h2⟩
        exact ⟨⟨h1, by omega, by omega⟩, by omega⟩
      · rintro ⟨⟨h1, h2, h3⟩, h4⟩
        exact ⟨.inl q, h1, by omega⟩
    · rw [if_neg q, if_neg q]
      constructor
      · rintro ⟨h0, h1, h2⟩
        exact ⟨⟨h1, by omega, by omega⟩, by omega⟩
      · rintro ⟨⟨h1, h2, h3⟩, h4⟩
        exact ⟨.inr (by omega), h1, by omega⟩
theorem ok_need {s : Sto} (k : StoOk s) (o : Nat → Int) (n : Nat) : okN s o n = true ↔ (oR s o n n ∧ nR s o n n ≤ s.2.2.2) := by
  have := lack_need k o n n (Nat.le_refl _)
  rw [Nat.sub_self] at this
  rw [okN_iff]
  rw [show (∀ i, i < n → lN s o i = 0) ↔ (∀ t, 0 ≤ t → t < n → lN s o t = 0) from ⟨fun h t _ ht => h t ht, fun h t ht => h t (Nat.zero_le _) ht⟩, this]
  rfl
theorem ok_need_at {s : Sto} (k : StoOk s) {o : Nat → Int} {n : Nat} (h : okN s o n = true) {j : Nat} (hj : j ≤ n) : oR s o n j ∧ nR s o n j ≤ hN s o (n - j) :=
  (lack_need k o n j hj).mp fun t _ ht => okN_iff.mp h t ht
abbrev boundsN (s : Sto) (o : Nat → Int) (n : Nat) : List (Int × Int) := tab (fun i => (max (lo s o (i + 1)) (nR s o n (n - 1 - i)), hN s o (i + 1))) n
theorem bounds_ok {s : Sto} (k : StoOk s) (g w : Nat → Int) (n : Nat) (hn : n ≤ 1000) : n_bounds_held s (tab g n) (tab w n) = some (if okN s (fun i => g i - w i) n then some (boundsN s (fun i => g i - w i) n) else none) := by
  have hs := SLn
  unfold n_bounds_held
  refine bindS (reach_ok k g w n hn) (bindS (needs_ok s g w n hn) ?_)
  cases hok : okN s (fun i => g i - w i) n with
  | false => exact bindS (x := true) rfl rfl
  | true =>
    refine bindS (x := false) ?_ ?_
    · refine iteF rfl (bindS (x := reachN s (fun i => g i - w i) n) rfl ?_)
      rw [tab_zip]
      refine bindS (lcO_tab (h := fun _ => false) (fun i hi => ?_) (by omega)) ?_
      · dsimp only
        rw [decide_eq_false]
        have := (ok_need_at k hok (j := n - 1 - i) (by omega)).2
        rw [show n - (n - 1 - i) = i + 1 by omega] at this
        omega
      · congr 1
        rw [List.any_eq_false]
        intro x hx
        obtain ⟨i, _, rfl⟩ := mem_tab.mp hx
        simp
    · refine iteF rfl (bindS (x := reachN s (fun i => g i - w i) n) rfl ?_)
      rw [tab_zip]
      exact bindS (lcO_tab (h := fun i => (max (lo s (fun i => g i - w i) (i + 1)) (nR s (fun i => g i - w i) n (n - 1 - i)), hN s (fun i => g i - w i) (i + 1))) (fun i hi => rfl) (by omega)) rfl
/-! ### the own ways -/
def beh (s : Sto) (x o : Int) : List Int := if 0 ≤ o then span x (min s.1 (x + min o s.2.1) + 1) else if -o ≤ s.2.2.1 ∧ -o ≤ x then [x + o] else []
theorem mem_span {lo hi x : Int} : x ∈ span lo hi ↔ lo ≤ x ∧ x < hi := by
  unfold span
  rw [List.mem_map]
  constructor
  · rintro ⟨k, hk, rfl⟩
    rw [List.mem_range] at hk
    omega
  · intro h
    exact ⟨(x - lo).toNat, by rw [List.mem_range]; omega, by omega⟩
theorem len_span (lo hi : Int) : (span lo hi).length = (hi - lo).toNat := by
  unfold span
  simp
theorem mem_beh {s : Sto} {x o y : Int} : y ∈ beh s x o ↔ (0 ≤ o ∧ x ≤ y ∧ y ≤ min s.1 (x + min o s.2.1)) ∨ (o < 0 ∧ -o ≤ s.2.2.1 ∧ -o ≤ x ∧ y = x + o) := by
  unfold beh
  by_cases q : 0 ≤ o
  · rw [if_pos q, mem_span]
    omega
  · rw [if_neg q]
    by_cases q2 : -o ≤ s.2.2.1 ∧ -o ≤ x
    · rw [if_pos q2, List.mem_singleton]
      omega
    · rw [if_neg q2]
      simp only [List.not_mem_nil, false_iff]
      omega
theorem len_beh {s : Sto} (k : StoOk s) {x o : Int} (ho : o ≤ 9) : (beh s x o).length ≤ 11 := by
  unfold beh
  split
  · rw [len_span]; omega
  · split <;> simp
theorem behind_ok {s : Sto} (k : StoOk s) {x o : Int} (hx : 0 ≤ x ∧ x ≤ s.1) (ho : -1000 ≤ o ∧ o ≤ 9) : n__law_behind s x o = some (beh s x o) := by
  have hs := SLn
  have k1 := k.r; have k2 := k.i
  unfold n__law_behind
  by_cases q : 0 ≤ o
  · refine iteT (decide_eq_true q) (bindS (rangeO_ok (by omega) (by omega) (by omega) (by omega)) (bindS (lenO_ok ?_) ?_))
    · rw [len_span]; omega
    · unfold beh; rw [if_pos q]
  · refine iteF (decide_eq_false q) ?_
    unfold beh
    rw [if_neg q]
    by_cases q2 : -o ≤ s.2.2.1 ∧ -o ≤ x
    · rw [if_pos q2, iteT (a := (1 : Int)) (by simp only [Bool.and_eq_true, decide_eq_true_eq]; exact q2) rfl]
      congr 1
    · rw [if_neg q2, iteF (b := (0 : Int)) (by
        rw [Bool.and_eq_false_iff, decide_eq_false_iff_not, decide_eq_false_iff_not]
        omega) rfl]
      congr 1
end K17

namespace K17
open PySem PySem.Spec PyProof.Rows L2 Ev Nv Ev.Pre
open Classical in
noncomputable def gB (s : Sto) (o : Nat → Int) (n j : Nat) (x : Int) : Bool := @decide (oR s o n j ∧ nR s o n j ≤ x) (Classical.propDecidable _)
theorem gB_iff {s : Sto} {o : Nat → Int} {n j : Nat} {x : Int} : gB s o n j x = true ↔ (oR s o n j ∧ nR s o n j ≤ x) := by
  unfold gB
  exact @decide_eq_true_iff _ (Classical.propDecidable _)
noncomputable def gl (s : Sto) (o : Nat → Int) (n j : Nat) : List Int := (rng (s.1.toNat + 1)).filter (gB s o n j)
theorem rng_succ (n : Nat) : rng (n + 1) = rng n ++ [(n : Int)] := tab_succ _ _
theorem mem_gl {s : Sto} (k : StoOk s) {o : Nat → Int} {n j : Nat} {x : Int} : x ∈ gl s o n j ↔ (0 ≤ x ∧ x ≤ s.1 ∧ oR s o n j ∧ nR s o n j ≤ x) := by
  have k1 := k.r
  unfold gl
  rw [List.mem_filter, mem_tab, gB_iff]
  constructor
  · rintro ⟨⟨i, hi, rfl⟩, h1, h2⟩
    exact ⟨by omega, by omega, h1, h2⟩
  · rintro ⟨h1, h2, h3, h4⟩
    exact ⟨⟨x.toNat, by omega, by omega⟩, h3, h4⟩
theorem step_need {s : Sto} (k : StoOk s) {o : Nat → Int} {n i j : Nat} (e : n = i + 1 + j) {x : Int} (hx : 0 ≤ x ∧ x ≤ s.1) : (∃ y, y ∈ beh s x (o i) ∧ y ∈ gl s o n j) ↔ (oR s o n (j + 1) ∧ nR s o n (j + 1) ≤ x) := by
  have hn := nR_nn (s := s) (o := o) (n := n) j
  have k1 := k.r; have k2 := k.i; have k3 := k.u
  have e3 : n - 1 - j = i := by omega
  rw [oR, nR, e3]
  constructor
  · rintro ⟨y, h1, h2⟩
    rw [mem_beh] at h1
    rw [mem_gl k] at h2
    obtain ⟨a1, a2, a3, a4⟩ := h2
    rcases h1 with ⟨b1, b2, b3⟩ | ⟨b1, b2, b3, b4⟩
    · rw [if_pos b1]
      exact ⟨⟨a3, by omega, by omega⟩, by omega⟩
    · rw [if_neg (by omega)]
      exact ⟨⟨a3, by omega, by omega⟩, by omega⟩
  · rintro ⟨⟨h1, h2, h3⟩, h4⟩
    by_cases q : 0 ≤ o i
    · rw [if_pos q] at h4
      refine ⟨min s.1 (x + min (o i) s.2.1), mem_beh.mpr (.inl ⟨q, by omega, by omega⟩), (mem_gl k).mpr ⟨by omega, by omega, h1, by omega⟩⟩
    · rw [if_neg q] at h4
      exact ⟨x + o i, mem_beh.mpr (.inr ⟨by omega, by omega, by omega, rfl⟩), (mem_gl k).mpr ⟨by omega, by omega, h1, by omega⟩⟩
theorem setI_tab {α : Type} {f : Nat → α} {n k : Nat} (h : k < n) (x : α) : setI (tab f n) (k : Int) x = some (tab (fun i => if i = k then x else f i) n) := by
  unfold setI ixN
  rw [tab_len, if_pos (by omega), if_pos (by omega), Int.toNat_natCast]
  show some ((tab f n).set k x) = some _
  congr 1
  apply List.ext_getElem?
  intro i
  by_cases hi : i < n
  · rw [tab_get hi]
    by_cases q : i = k
    · subst q
      rw [if_pos rfl, List.getElem?_set_self (by rw [tab_len]; exact hi)]
    · rw [if_neg q, List.getElem?_set_ne (fun z => q z.symm), tab_get hi]
  · rw [List.getElem?_eq_none (by rw [List.length_set, tab_len]; omega), List.getElem?_eq_none (by rw [tab_len]; omega)]
theorem rng_len (n : Nat) : (rng n).length = n := tab_len _ _
section
variable {s : Sto} {g w : Nat → Int} {n : Nat}
/-- what stands behind t hours, the one under way told by hand -/
noncomputable def gst (s : Sto) (o : Nat → Int) (n t : Nat) (cur : List Int) : List (List Int) := tab (fun h => if n - t ≤ h then gl s o n (n - h) else if h = n - 1 - t then cur else []) (n + 1)
theorem ways_L2 (k : StoOk s) (hn : n ≤ 1000) (ho : ∀ i, i < n → -1000 ≤ g i - w i ∧ g i - w i ≤ 9) {t : Nat} (ht : t < n) : ∃ q, foldO (n__law_ways_L2 s (tab g n) (tab w n) ((n - 1 - t : Nat) : Int)) (rng (s.1.toNat + 1)) (gst s (fun i => g i - w i) n t []) = some q ∧ q = gst s (fun i => g i - w i) n (t + 1) [] := by
  have hs := SLn
  have k1 := k.r
  obtain ⟨i, hi⟩ : ∃ i, n = i + 1 + t := ⟨n - 1 - t, by omega⟩
  have ei : n - 1 - t = i := by omega
  rw [ei]
  obtain ⟨q, f1, f2⟩ := foldO_tab (step := n__law_ways_L2 s (tab g n) (tab w n) (i : Int)) (f := fun k => (k : Int)) (fun m q => q = gst s (fun i => g i - w i) n t ((rng m).filter (gB s (fun i => g i - w i) n (t + 1)))) (n := s.1.toNat + 1) (s := gst s (fun i => g i - w i) n t []) (by
    rintro m _ hm rfl
    refine ⟨_, ?_, rfl⟩
    unfold n__law_ways_L2
    have hmx : 0 ≤ (m : Int) ∧ (m : Int) ≤ s.1 := by omega
    refine bindS (tab_at (by omega)) (bindS (tab_at (by omega)) (bindS (behind_ok k hmx (ho i (by omega))) ?_))
    have at1 : atI (gst s (fun i => g i - w i) n t ((rng m).filter (gB s (fun i => g i - w i) n (t + 1)))) ((i : Int) + 1) = some (gl s (fun i => g i - w i) n t) := by
      unfold gst
      rw [show (i : Int) + 1 = ((i + 1 : Nat) : Int) by omega, tab_at (by omega)]
      rw [if_pos (by omega), show n - (i + 1) = t by omega]
    have at0 : atI (gst s (fun i => g i - w i) n t ((rng m).filter (gB s (fun i => g i - w i) n (t + 1)))) (i : Int) = some ((rng m).filter (gB s (fun i => g i - w i) n (t + 1))) := by
      unfold gst
      rw [tab_at (by omega)]
      rw [if_neg (by omega), if_pos (by omega)]
    refine bindS (lcO_ok (f := fun y => decide (y ∈ gl s (fun i => g i - w i) n t)) (fun y hy => bindS at1 rfl) (by have := len_beh k (x := (m : Int)) (o := g i - w i) (ho i (by omega)).2; omega)) ?_
    have ha : ((beh s (m : Int) (g i - w i)).map fun y => decide (y ∈ gl s (fun i => g i - w i) n t)).any id = gB s (fun i => g i - w i) n (t + 1) (m : Int) := by
      rw [Bool.eq_iff_iff, gB_iff, ← step_need k hi hmx, List.any_map, List.any_eq_true]
      simp only [Function.comp_def, id, decide_eq_true_eq]
    rw [ha, rng_succ, List.filter_append]
    cases q : gB s (fun i => g i - w i) n (t + 1) (m : Int) with
    | true =>
      refine iteT rfl (bindS at0 (bindS (appO_ok ?_) ?_))
      · have := List.length_filter_le (gB s (fun i => g i - w i) n (t + 1)) (rng m)
        rw [rng_len] at this
        omega
      · unfold gst
        rw [setI_tab (by omega)]
        show some _ = some _
        congr 1
        refine tab_congr fun h hh => ?_
        by_cases q1 : h = i
        · subst q1
          rw [if_pos rfl, if_neg (by omega), if_pos (by omega)]
          rw [List.filter_cons_of_pos q]
          rfl
        · rw [if_neg q1]
          split
          · rfl
          · rw [if_neg (by omega), if_neg (by omega)]
    | false =>
      refine iteF rfl ?_
      congr 1
      have e : ([(m : Int)].filter (gB s (fun i => g i - w i) n (t + 1))) = [] := by
        rw [List.filter_cons_of_neg (by simp [q])]
        rfl
      rw [e, List.append_nil]) rfl
  refine ⟨q, f1, ?_⟩
  rw [f2]
  unfold gst
  refine tab_congr fun h hh => ?_
  by_cases q1 : h = i
  · subst q1
    rw [if_neg (by omega), if_pos (by omega), if_pos (by omega), show n - h = t + 1 by omega]
    rfl
  · by_cases q2 : n - t ≤ h
    · rw [if_pos q2, if_pos (by omega)]
    · rw [if_neg q2, if_neg (by omega), if_neg (by omega)]
      split <;> rfl
end
end K17

namespace K17
open PySem PySem.Spec PyProof.Rows L2 Ev Nv Ev.Pre
theorem foldO_cat {α β : Type} {step : List β → α → Option (List β)} {f : α → List β} {c : Nat} : ∀ (xs : List α) (s : List β), (∀ x ∈ xs, (f x).length ≤ c) → (∀ x ∈ xs, ∀ s : List β, s.length + c ≤ SL → step s x = some (s ++ f x)) → s.length + c * xs.length ≤ SL → foldO step xs s = some (s ++ xs.flatMap f)
  | [], s, _, _, _ => by simp [foldO]
  | x :: xs, s, hf, hs, hl => by
    rw [List.length_cons, Nat.mul_add, Nat.mul_one] at hl
    have hx := hf x (.head _)
    rw [foldO, hs x (.head _) s (by omega), Option.bind_some, foldO_cat xs _ (fun y hy => hf y (.tail _ hy)) (fun y hy => hs y (.tail _ hy)) (by rw [List.length_append]; omega), List.flatMap_cons, List.append_assoc]
theorem flat_len {α β : Type} {f : α → List β} {c : Nat} : ∀ (xs : List α), (∀ x ∈ xs, (f x).length ≤ c) → (xs.flatMap f).length ≤ c * xs.length
  | [], _ => by simp
  | x :: xs, h => by
    have h1 := h x (.head _)
    have h2 := flat_len xs fun y hy => h y (.tail _ hy)
    rw [List.flatMap_cons, List.length_append, List.length_cons, Nat.mul_add, Nat.mul_one]
    omega
theorem span_inc (lo hi : Int) : (span lo hi).Pairwise (· < ·) := by
  unfold span
  rw [List.pairwise_map]
  exact List.pairwise_lt_range.imp fun h => by omega
theorem filter_span {xs : List Int} {p : Int → Bool} {lo hi : Int} (h : ∀ x, (x ∈ xs ∧ p x = true) ↔ (lo ≤ x ∧ x < hi)) : (ddU xs).filter p = span lo hi := by
  refine inc_uniq ((ddU_inc xs).filter p) (span_inc lo hi) fun x => ?_
  rw [List.mem_filter, ddU_mem, mem_span, h]
theorem span_at0 {lo hi : Int} (h : lo < hi) : atI (span lo hi) 0 = some lo := by
  obtain ⟨m, hm⟩ : ∃ m : Nat, hi = lo + ((m + 1 : Nat) : Int) := ⟨(hi - lo).toNat - 1, by omega⟩
  rw [hm, span_tab]
  rw [show (0 : Int) = ((0 : Nat) : Int) from rfl, tab_at (by omega)]
  simp
theorem atI_neg {α : Type} {f : Nat → α} {n : Nat} : atI (tab f (n + 1)) (-1) = some (f n) := by
  unfold atI ixN
  rw [tab_len, if_neg (by omega), if_pos (by omega)]
  show (tab f (n + 1))[_]? = _
  rw [show ((-1 : Int) + ((n + 1 : Nat) : Int)).toNat = n by omega]
  exact tab_get (by omega)
theorem span_atL {lo hi : Int} (h : lo < hi) : atI (span lo hi) (-1) = some (hi - 1) := by
  obtain ⟨m, hm⟩ : ∃ m : Nat, hi = lo + ((m + 1 : Nat) : Int) := ⟨(hi - lo).toNat - 1, by omega⟩
  rw [hm, span_tab, atI_neg]
  congr 1
  omega
theorem lo_le {s : Sto} (k : StoOk s) {o : Nat → Int} : ∀ i, (∀ t, t < i → lN s o t = 0) → 0 ≤ lo s o i ∧ lo s o i ≤ hN s o i
  | 0, _ => ⟨k.h.1, Int.le_refl _⟩
  | i + 1, h => by
    have ih := lo_le k i fun t ht => h t (by omega)
    have z := (lN_zero k).mp (h i (by omega))
    have hh := hN_ok k o i
    have k1 := k.i
    rw [lo, hN]
    split <;> omega
section
variable {s : Sto} {g w : Nat → Int} {n : Nat}
abbrev nowN (s : Sto) (o : Nat → Int) (n i : Nat) : List Int := span (max (lo s o i) (nR s o n (n - i))) (hN s o i + 1)
theorem now_mem (k : StoOk s) (hok : okN s (fun i => g i - w i) n = true) {i : Nat} (hi : i < n) (x : Int) : ((x ∈ (nowN s (fun i => g i - w i) n i).flatMap (fun y => beh s y (g i - w i))) ∧ decide (x ∈ gl s (fun i => g i - w i) n (n - (i + 1))) = true) ↔ (max (lo s (fun i => g i - w i) (i + 1)) (nR s (fun i => g i - w i) n (n - (i + 1))) ≤ x ∧ x < hN s (fun i => g i - w i) (i + 1) + 1) := by
  have hz := okN_iff.mp hok
  have z := (lN_zero k).mp (hz i hi)
  have hl := lo_le k i fun t ht => hz t (by omega)
  have hh := hN_ok k (fun i => g i - w i) i
  have hh1 := hN_ok k (fun i => g i - w i) (i + 1)
  obtain ⟨j, hj⟩ : ∃ j, n = i + 1 + j := ⟨n - 1 - i, by omega⟩
  have e1 : n - (i + 1) = j := by omega
  have e2 : n - i = j + 1 := by omega
  have e3 : n - 1 - j = i := by omega
  have hn := nR_nn (s := s) (o := (fun i => g i - w i)) (n := n) j
  obtain ⟨q1, q2⟩ := ok_need_at k hok (j := j) (by omega)
  obtain ⟨q3, q4⟩ := ok_need_at k hok (j := j + 1) (by omega)
  rw [show n - j = i + 1 by omega] at q2
  rw [show n - (j + 1) = i by omega] at q4
  have k1 := k.i; have k2 := k.u
  rw [e1, decide_eq_true_eq, mem_gl k, List.mem_flatMap]
  unfold nowN
  rw [e2]
  simp only [mem_span, mem_beh]
  rw [nR, e3] at q4 ⊢
  rw [lo]
  rw [hN] at hh1 q2 ⊢
  by_cases q : 0 ≤ g i - w i
  · rw [if_pos q] at q2 q4 hh1 ⊢
    rw [if_pos q, if_pos q]
    constructor
    · rintro ⟨⟨y, ⟨a1, a2⟩, a3⟩, a4, a5, a6, a7⟩
      rcases a3 with ⟨b1, b2, b3⟩ | ⟨b1, b2, b3, b4⟩
      · omega
      · omega
    · rintro ⟨a1, a2⟩
      refine ⟨?_, by omega, by omega, q1, by omega⟩
      by_cases c : x ≤ hN s (fun i => g i - w i) i
      · exact ⟨x, ⟨by omega, by omega⟩, .inl ⟨q, by omega, by omega⟩⟩
      · exact ⟨hN s (fun i => g i - w i) i, ⟨by omega, by omega⟩, .inl ⟨q, by omega, by omega⟩⟩
  · rw [if_neg q] at q2 q4 hh1 ⊢
    rw [if_neg q, if_neg q]
    constructor
    · rintro ⟨⟨y, ⟨a1, a2⟩, a3⟩, a4, a5, a6, a7⟩
      rcases a3 with ⟨b1, b2, b3⟩ | ⟨b1, b2, b3, b4⟩
      · omega
      · omega
    · rintro ⟨a1, a2⟩
      exact ⟨⟨x - (g i - w i), ⟨by omega, by omega⟩, .inr ⟨by omega, by omega, by omega, by omega⟩⟩, by omega, by omega, q1, by omega⟩
theorem gst_at (h : Nat) (hh : h ≤ n) : atI (gst s (fun i => g i - w i) n n []) (h : Int) = some (gl s (fun i => g i - w i) n (n - h)) := by
  unfold gst
  rw [tab_at (by omega), if_pos (by omega)]
theorem ways_L3 (k : StoOk s) (hr : s.1 ≤ 99) (hn : n ≤ 1000) (ho : ∀ i, i < n → -1000 ≤ g i - w i ∧ g i - w i ≤ 9) (hok : okN s (fun i => g i - w i) n = true) {i : Nat} (hi : i < n) :
    n__law_ways_L3 s (tab g n) (tab w n) (gst s (fun i => g i - w i) n n []) (nowN s (fun i => g i - w i) n i, boundsN s (fun i => g i - w i) n |>.take i) (i : Int) = some (nowN s (fun i => g i - w i) n (i + 1), boundsN s (fun i => g i - w i) n |>.take (i + 1)) := by
  have hs := SLn
  have k1 := k.r
  have hz := okN_iff.mp hok
  have hl := lo_le k i fun t ht => hz t (by omega)
  have hl1 := lo_le k (i + 1) fun t ht => hz t (by omega)
  have hh := hN_ok k (fun i => g i - w i) i
  have hb : ∀ x ∈ nowN s (fun i => g i - w i) n i, (beh s x (g i - w i)).length ≤ 11 := fun x _ => len_beh k (ho i hi).2
  have hlen : (nowN s (fun i => g i - w i) n i).length ≤ 100 := by rw [len_span]; omega
  unfold n__law_ways_L3
  refine bindS (foldO_cat (f := fun y => beh s y (g i - w i)) (c := 11) _ [] hb (fun x hx t ht => ?_) (by simp only [List.length_nil]; omega)) ?_
  · have hx := mem_span.mp hx
    have := hb x (mem_span.mpr hx)
    unfold n__law_ways_L4
    exact bindS (tab_at hi) (bindS (tab_at hi) (bindS (behind_ok k (by omega) (ho i hi)) (bindS (catO_ok (by omega)) rfl)))
  rw [List.nil_append]
  have hfl := flat_len (f := fun y => beh s y (g i - w i)) _ hb
  refine bindS (show sstO ((nowN s (fun i => g i - w i) n i).flatMap fun y => beh s y (g i - w i)) = some _ from if_pos (by omega)) ?_
  have hdl : (ddU ((nowN s (fun i => g i - w i) n i).flatMap fun y => beh s y (g i - w i))).length ≤ SL := by
    have : ∀ xs : List Int, (ddU xs).length ≤ xs.length := by
      intro xs
      have ins : ∀ (k : Int) (l : List Int), (insU k l).length ≤ l.length + 1 := by
        intro k l
        induction l with
        | nil => simp [insU]
        | cons y l ih =>
          rw [insU]
          split
          · simp
          · split
            · simp
            · simp only [List.length_cons]; omega
      induction xs with
      | nil => simp [ddU]
      | cons x xs ih =>
        have := ins x (ddU xs)
        show (insU x (ddU xs)).length ≤ _
        rw [List.length_cons]
        omega
    have := this ((nowN s (fun i => g i - w i) n i).flatMap fun y => beh s y (g i - w i))
    omega
  have hi1 : (i : Int) + 1 = ((i + 1 : Nat) : Int) := by omega
  refine bindS (lcM_ok' (q := fun x => decide (x ∈ gl s (fun i => g i - w i) n (n - (i + 1)))) (f := fun x => x) (fun x _ => bindS (by rw [hi1]; exact gst_at (i + 1) (by omega)) rfl) (fun _ _ _ => rfl) hdl) ?_
  rw [List.map_id', filter_span (now_mem k hok hi)]
  have hlt : max (lo s (fun i => g i - w i) (i + 1)) (nR s (fun i => g i - w i) n (n - (i + 1))) < hN s (fun i => g i - w i) (i + 1) + 1 := by
    have q := (ok_need_at k hok (j := n - (i + 1)) (by omega)).2
    rw [show n - (n - (i + 1)) = i + 1 by omega] at q
    omega
  refine bindS (span_at0 hlt) (bindS (span_atL hlt) (bindS (appO_ok (by rw [List.length_take, tab_len]; omega)) ?_))
  congr 2
  unfold boundsN
  rw [tab_take _ (by omega), tab_take _ (by omega), tab_succ, show n - 1 - i = n - (i + 1) by omega, show hN s (fun i => g i - w i) (i + 1) + 1 - 1 = hN s (fun i => g i - w i) (i + 1) by omega]
theorem gl0 (k : StoOk s) : gl s (fun i => g i - w i) n 0 = rng (s.1.toNat + 1) := by
  unfold gl
  rw [List.filter_eq_self]
  intro x hx
  obtain ⟨i, _, rfl⟩ := mem_tab.mp hx
  exact gB_iff.mpr ⟨trivial, by rw [nR]; omega⟩
theorem ways_ok (k : StoOk s) (hr : s.1 ≤ 99) (hn : n ≤ 1000) (ho : ∀ i, i < n → -1000 ≤ g i - w i ∧ g i - w i ≤ 9) : n__law_ways s (tab g n) (tab w n) = some (if okN s (fun i => g i - w i) n then some (boundsN s (fun i => g i - w i) n) else none) := by
  have hs := SLn
  have k1 := k.r
  have hR : s.1 + 1 = ((s.1.toNat + 1 : Nat) : Int) := by omega
  unfold n__law_ways
  refine bindS (show some ((tab g n).length : Int) = some (n : Int) by rw [tab_len]) (bindS (rangeO_rng (by omega)) (bindS (lcO_tab (h := fun _ => ([] : List Int)) (fun _ _ => rfl) (by omega)) (bindS (by rw [hR]; exact rangeO_rng (by omega)) (bindS (lenO_ok (by rw [rng_len]; omega)) (bindS (catO_ok (by rw [tab_len]; simp only [List.length_cons, List.length_nil]; omega)) (bindS (rangeO_rng (by omega)) ?_))))))
  have e0 : tab (fun _ => ([] : List Int)) n ++ [rng (s.1.toNat + 1)] = gst s (fun i => g i - w i) n 0 [] := by
    unfold gst
    rw [tab_succ]
    congr 1
    · refine tab_congr fun h hh => ?_
      rw [if_neg (by omega)]
      split <;> rfl
    · rw [if_pos (by omega), Nat.sub_self, gl0 k]
  rw [e0]
  obtain ⟨q, f1, f2⟩ := foldO_tab (step := n__law_ways_L1 s (tab g n) (tab w n) (n : Int)) (f := fun k => (k : Int)) (fun t q => q = gst s (fun i => g i - w i) n t []) (n := n) (s := gst s (fun i => g i - w i) n 0 []) (by
    rintro t _ ht rfl
    obtain ⟨q, h1, h2⟩ := ways_L2 k hn ho ht
    refine ⟨q, ?_, h2⟩
    unfold n__law_ways_L1
    refine bindS rfl (bindS (by rw [hR]; exact rangeO_rng (by omega)) ?_)
    rw [show (n : Int) - 1 - (t : Int) = ((n - 1 - t : Nat) : Int) by omega]
    exact bindS h1 rfl) rfl
  subst f2
  refine bindS f1 (bindS (gst_at 0 (Nat.zero_le _)) ?_)
  rw [Nat.sub_zero]
  cases hok : okN s (fun i => g i - w i) n with
  | false =>
    refine iteT ?_ rfl
    rw [Bool.not_eq_true', decide_eq_false_iff_not, mem_gl k]
    rintro ⟨_, _, h1, h2⟩
    rw [(ok_need k (fun i => g i - w i) n).mpr ⟨h1, h2⟩] at hok
    cases hok
  | true =>
    obtain ⟨h1, h2⟩ := (ok_need k (fun i => g i - w i) n).mp hok
    refine iteF ?_ ?_
    · rw [Bool.not_eq_false', decide_eq_true_eq, mem_gl k]
      exact ⟨k.h.1, k.h.2, h1, h2⟩
    refine bindS (rangeO_rng (by omega)) ?_
    obtain ⟨q, f1, f2⟩ := foldO_tab (step := n__law_ways_L3 s (tab g n) (tab w n) (gst s (fun i => g i - w i) n n [])) (f := fun k => (k : Int)) (fun t q => q = (nowN s (fun i => g i - w i) n t, (boundsN s (fun i => g i - w i) n).take t)) (n := n) (s := ([s.2.2.2], [])) (by
      rintro t _ ht rfl
      exact ⟨_, ways_L3 k hr hn ho hok ht, rfl⟩) (by
      unfold nowN
      rw [Nat.sub_zero, show lo s (fun i => g i - w i) 0 = s.2.2.2 from rfl, show hN s (fun i => g i - w i) 0 = s.2.2.2 from rfl, show max s.2.2.2 (nR s (fun i => g i - w i) n n) = s.2.2.2 by omega]
      unfold span
      rw [show (s.2.2.2 + 1 - s.2.2.2).toNat = 1 by omega]
      simp [List.range_succ])
    subst f2
    refine bindS f1 ?_
    unfold boundsN
    rw [tab_take _ (Nat.le_refl _)]
    rfl
end
end K17

namespace K17
open PySem PySem.Spec PyProof.Rows L2 Ev Nv Ev.Pre
theorem first_loop {α : Type} {p : α → Bool} {step : List α → α → Option (List α)} (h0 : ∀ x, step [] x = some (if p x then [x] else [])) (h1 : ∀ y x, step [y] x = some [y]) : ∀ xs : List α, foldO step xs [] = some (xs.find? p).toList
  | [] => rfl
  | x :: xs => by
    rw [foldO, h0, Option.bind_some]
    cases hp : p x with
    | true =>
      rw [if_pos rfl, List.find?_cons_of_pos hp]
      have : ∀ ys : List α, foldO step ys [x] = some [x] := by
        intro ys
        induction ys with
        | nil => rfl
        | cons y ys ih => rw [foldO, h1, Option.bind_some]; exact ih
      exact this xs
    | false =>
      rw [if_neg (by decide), List.find?_cons_of_neg (by simp [hp])]
      exact first_loop h0 h1 xs
theorem find_rng {N : Nat} {p : Int → Bool} {x : Int} (h : (rng N).find? p = some x) : ∃ k : Nat, x = (k : Int) ∧ k < N ∧ p k = true ∧ ∀ j : Nat, j < k → p j = false := by
  have h1 := List.find?_some h
  obtain ⟨k, hk, rfl⟩ := mem_tab.mp (List.mem_of_find?_eq_some h)
  refine ⟨k, rfl, hk, h1, fun j hj => ?_⟩
  obtain ⟨_, as, bs, e, hn⟩ := List.find?_eq_some_iff_append.mp h
  have hl : as.length = k := by
    have : (rng N)[as.length]? = some (k : Int) := by rw [e, List.getElem?_append_right (Nat.le_refl _), Nat.sub_self]; rfl
    have hlt : as.length < N := by
      have := (List.getElem?_eq_some_iff.mp this).1
      rwa [rng_len] at this
    rw [tab_get hlt] at this
    have := Option.some.inj this
    omega
  have : (j : Int) ∈ as := by
    have q : (rng N)[j]? = some (j : Int) := tab_get (by omega)
    rw [e, List.getElem?_append_left (by omega)] at q
    exact List.mem_of_getElem? q
  have := hn _ this
  simpa using this
section
variable {s : Sto} {g w : Nat → Int} {n : Nat}
abbrev pRoom (s : Sto) (o : Nat → Int) (n : Nat) (x : Int) : Bool := okN (x, s.2.1, s.2.2.1, min x s.2.2.2) o n
abbrev pFirst (s : Sto) (o : Nat → Int) (n : Nat) (x : Int) : Bool := okN (s.1, s.2.1, s.2.2.1, x) o n
theorem opt_at {α : Type} (x : Option α) : atI ((x.toList.map fun q => some q) ++ [none]) 0 = some x := by
  cases x <;> rfl
theorem opt_cat {α : Type} (x : Option α) : catO (x.toList.map fun q => some q) [none] = some ((x.toList.map fun q => some q) ++ [none]) := by
  refine catO_ok ?_
  have := SLn
  cases x <;> simp [SLn]
theorem law_least_ok (hn : n ≤ 1000) {N R : Nat} (hN : s.2.2.2 + (tab g n).sum + 1 = (N : Int)) (hN2 : N ≤ 1000000) (hR : s.1 + 1 = (R : Int)) (hR2 : R ≤ 1000) : n__law_least s (tab g n) (tab w n) = some ((rng N).find? (pRoom s (fun i => g i - w i) n), (rng R).find? (pFirst s (fun i => g i - w i) n)) := by
  have hs := SLn
  unfold n__law_least
  rw [hN, hR]
  refine bindS (rangeO_rng (by omega)) (bindS (first_loop (p := pRoom s (fun i => g i - w i) n) (fun x => ?_) (fun y x => ?_) _) (bindS (rangeO_rng (by omega)) (bindS (first_loop (p := pFirst s (fun i => g i - w i) n) (fun x => ?_) (fun y x => ?_) _) (bindS (opt_cat _) (bindS (opt_at _) (bindS (opt_cat _) (bindS (opt_at _) rfl)))))))
  · unfold n__law_least_L1
    refine bindS (iteT rfl (bindS rfl (bindS (law_steps_ok _ g w n hn) rfl))) ?_
    show (if pRoom s (fun i => g i - w i) n x then _ else _) = _
    cases pRoom s (fun i => g i - w i) n x with
    | true => exact iteT rfl (bindS (appO_ok (by simp [SLn])) rfl)
    | false => rfl
  · unfold n__law_least_L1
    exact bindS (iteF rfl rfl) rfl
  · unfold n__law_least_L2
    refine bindS (iteT rfl (bindS (law_steps_ok _ g w n hn) rfl)) ?_
    show (if pFirst s (fun i => g i - w i) n x then _ else _) = _
    cases pFirst s (fun i => g i - w i) n x with
    | true => exact iteT rfl (bindS (appO_ok (by simp [SLn])) rfl)
    | false => rfl
  · unfold n__law_least_L2
    exact bindS (iteF rfl rfl) rfl
theorem find_then {α : Type} (x : Option α) {β : Type} {k : Unit → Option β} : (thenO (match x with | some x => (.rt (some x) : St Unit (Option α)) | none => .nx ()) (fun _ => some none) (fun r => some r)) = some x := by
  cases x <;> rfl
theorem least_room_ok (hn : n ≤ 1000) (h0 : 0 ≤ s.2.2.2) {N : Nat} (hN : s.2.2.2 + (tab g n).sum + 1 = (N : Int)) (hN2 : N ≤ 1000000) : n_least_room s (tab g n) (tab w n) = some ((rng N).find? (pRoom s (fun i => g i - w i) n)) := by
  unfold n_least_room
  rw [show max s.2.2.2 0 = s.2.2.2 by omega, hN]
  refine bindS (rangeO_rng (by omega)) (bindS (loopO_find (p := pRoom s (fun i => g i - w i) n) (v := fun x => some x) (fun x hx => ?_)) ?_)
  · unfold n_least_room_L1
    refine bindS rfl (bindS (can_store_ok _ g w n hn) ?_)
    rw [show min s.2.2.2 x = min x s.2.2.2 by omega]
    show (if pRoom s (fun i => g i - w i) n x then _ else _) = _
    cases pRoom s (fun i => g i - w i) n x <;> rfl
  · cases (rng N).find? (pRoom s (fun i => g i - w i) n) <;> rfl
theorem least_first_ok (hn : n ≤ 1000) {R : Nat} (hR : s.1 + 1 = (R : Int)) (hR2 : R ≤ 1000) : n_least_first s (tab g n) (tab w n) = some ((rng R).find? (pFirst s (fun i => g i - w i) n)) := by
  unfold n_least_first
  rw [hR]
  refine bindS (rangeO_rng (by omega)) (bindS (loopO_find (p := pFirst s (fun i => g i - w i) n) (v := fun x => some x) (fun x hx => ?_)) ?_)
  · unfold n_least_first_L1
    refine bindS (can_store_ok _ g w n hn) ?_
    show (if pFirst s (fun i => g i - w i) n x then _ else _) = _
    cases pFirst s (fun i => g i - w i) n x <;> rfl
  · cases (rng R).find? (pFirst s (fun i => g i - w i) n) <;> rfl
/-- planted wants -/
theorem served_ok (k : StoOk s) {r : Nat → Int} (hr : ∀ i, 0 ≤ r i ∧ r i < 1000003) (hu : s.2.2.1 ≤ 40) (hn : n ≤ 24) (hg : ∀ i, i < n → 0 ≤ g i ∧ g i ≤ 9) : ∃ ws, n__law_served (tab r 90) s (tab g n) = some ws ∧ ws.length = n ∧ ∀ x ∈ ws, 0 ≤ x ∧ x ≤ 49 := by
  have hs := SLn
  unfold n__law_served
  rw [tab_len]
  obtain ⟨q, f1, f2, f3, f4⟩ := foldO_tab (step := n__law_served_L1 (tab r 90) s (tab g n)) (f := fun k => (k : Int)) (fun i q => (0 ≤ q.1 ∧ q.1 ≤ s.1) ∧ q.2.length = i ∧ ∀ x ∈ q.2, 0 ≤ x ∧ x ≤ 49) (n := n) (s := (s.2.2.2, [])) (by
    rintro i ⟨h, ws⟩ hi ⟨f2, f3, f4⟩
    dsimp only at f2 f3 f4
    have k2 := k.u
    have hgi := hg i hi
    have hri := hr (60 + i)
    have a1 : atI (tab r 90) (60 + (i : Int)) = some (r (60 + i)) := by rw [show (60 : Int) + (i : Int) = ((60 + i : Nat) : Int) by omega]; exact tab_at (by omega)
    have b1 := Int.emod_nonneg (r (60 + i)) (show g i + min s.2.2.1 h + 1 ≠ 0 by omega)
    have b2 := Int.emod_lt_of_pos (r (60 + i)) (show 0 < g i + min s.2.2.1 h + 1 by omega)
    obtain ⟨wt, hw, hw1, hw2⟩ : ∃ wt, (if (decide (((r (60 + i) / 60) % 3) = 0)) then
        Option.bind (atI (tab g n) (i : Int)) fun (a42 : Int) => Option.bind (some (a42 + min s.2.2.1 h)) fun (want43 : Int) => some want43
      else some (r (60 + i) % (g i + min s.2.2.1 h + 1))) = some wt ∧ 0 ≤ wt ∧ wt ≤ 49 := by
      by_cases q : (r (60 + i) / 60) % 3 = 0
      · exact ⟨g i + min s.2.2.1 h, iteT (decide_eq_true q) (bindS (tab_at hi) rfl), by omega, by omega⟩
      · exact ⟨_, iteF (decide_eq_false q) rfl, by omega, by omega⟩
    have kk : StoOk (s.1, s.2.1, s.2.2.1, h) := ⟨k.r, k.i, k.u, f2⟩
    have st := law_steps_ok (s.1, s.2.1, s.2.2.1, h) (fun _ => g i) (fun _ => wt) 1 (by omega)
    have hh := hN_ok kk (fun _ => g i - wt) 1
    refine ⟨(hN (s.1, s.2.1, s.2.2.1, h) (fun _ => g i - wt) 1, ws ++ [wt]), ?_, hh, ?_, ?_⟩
    · unfold n__law_served_L1
      refine bindS rfl (bindS a1 (bindS (tab_at hi) (bindS (modO_pos (by dsimp only; omega)) (bindS a1 (bindS hw (bindS (appO_ok (by dsimp only; omega)) (bindS (tab_at hi) (bindS st (bindS rfl rfl)))))))))
    · dsimp only; rw [List.length_append, f3]; rfl
    · intro x hx
      rcases List.mem_append.mp hx with hx | hx
      · exact f4 x hx
      · rw [List.mem_singleton] at hx; subst hx; exact ⟨hw1, hw2⟩) ⟨k.h, rfl, fun x hx => by cases hx⟩
  exact ⟨q.2, bindS (rangeO_rng (by omega)) (bindS f1 rfl), f3, f4⟩
end
end K17

namespace K17
open PySem PySem.Spec PyProof.Rows L2 Ev Nv Ev.Pre
theorem like0 {α : Type} [DecidableEq α] {s : α → Bool} {a b : α} {β : Type} {k : Bool → Option β} {r : Option β} (h : a = b) (hs : s a = true) (h2 : k true = r) : ((likeN s a b).bind k) = r := bindS (like_ok' h hs) h2
theorem sum_bd : ∀ {xs : List Int}, (∀ x ∈ xs, 0 ≤ x ∧ x ≤ 9) → 0 ≤ xs.sum ∧ xs.sum ≤ 9 * xs.length
  | [], _ => by simp
  | x :: xs, h => by
    have h1 := h x (.head _)
    have h2 := sum_bd fun y hy => h y (.tail _ hy)
    rw [List.sum_cons, List.length_cons]
    omega
section
variable {s : Sto} {g w : Nat → Int} {n : Nat}
theorem less_loop (k : StoOk s) (hn : n ≤ 1000) {N R : Nat} (hR : s.1 + 1 = (R : Int)) : loopO (τ := Bool) (n_law_L1 s (tab g n) (tab w n) ((rng N).find? (pRoom s (fun i => g i - w i) n), (rng R).find? (pFirst s (fun i => g i - w i) n))) (rng 2) () = some (.nx ()) := by
  refine loopO_unit fun x hx => ?_
  obtain ⟨l, hl, rfl⟩ := mem_tab.mp hx
  have hroom : ∀ a, (rng N).find? (pRoom s (fun i => g i - w i) n) = some a → (l : Int) ≤ a → pRoom s (fun i => g i - w i) n (a - (l : Int)) = decide ((l : Int) = 0) := by
    intro a ha hla
    obtain ⟨m, rfl, hm, h1, h2⟩ := find_rng ha
    by_cases q : l = 0
    · subst q; simpa using h1
    · have := h2 (m - l) (by omega)
      rw [show ((m : Int) - (l : Int)) = ((m - l : Nat) : Int) by omega, this, decide_eq_false (by omega)]
  have hfirst : ∀ a, (rng R).find? (pFirst s (fun i => g i - w i) n) = some a → (l : Int) ≤ a → pFirst s (fun i => g i - w i) n (a - (l : Int)) = decide ((l : Int) = 0) ∧ 0 ≤ a - (l : Int) ∧ a - (l : Int) ≤ s.1 := by
    intro a ha hla
    obtain ⟨m, rfl, hm, h1, h2⟩ := find_rng ha
    refine ⟨?_, by omega, by omega⟩
    by_cases q : l = 0
    · subst q; simpa using h1
    · have := h2 (m - l) (by omega)
      rw [show ((m : Int) - (l : Int)) = ((m - l : Nat) : Int) by omega, this, decide_eq_false (by omega)]
  unfold n_law_L1
  generalize (rng N).find? (pRoom s (fun i => g i - w i) n) = A at hroom ⊢
  generalize (rng R).find? (pFirst s (fun i => g i - w i) n) = B at hfirst ⊢
  have second : (Option.bind (if (!B.isNone) then (Option.bind B fun (x127 : Int) => some (decide ((l : Int) ≤ x127))) else some false) fun (t128 : Bool) => if t128 then
      Option.bind B fun (x129 : Int) => Option.bind (some (s.1, s.2.1, s.2.2.1, (x129 - (l : Int)))) fun (some130 : (Int × Int × Int × Int)) => Option.bind (n_can_store some130 (tab g n) (tab w n)) fun (y131 : Bool) => Option.bind (likeN sm0 y131 (decide ((l : Int) = 0))) fun (l132 : Bool) => if (!l132) then
        some (.rt false)
      else
        Option.bind (n_lacks_of some130 (tab g n) (tab w n)) fun (y133 : (List Int)) => Option.bind (likeN sm0 (decide (y133.sum = 0)) (decide ((l : Int) = 0))) fun (l134 : Bool) => if (!l134) then
          some (.rt false)
        else
          some (.nx ())
    else
      some (.nx ())) = some (.nx () : St Unit Bool) := by
    cases B with
    | none => rfl
    | some b =>
      by_cases q : (l : Int) ≤ b
      · obtain ⟨h1, h2⟩ := hfirst b rfl q
        have kk : StoOk (s.1, s.2.1, s.2.2.1, b - (l : Int)) := ⟨k.r, k.i, k.u, h2⟩
        refine bindS (x := true) (iteT rfl (bindS rfl (by rw [decide_eq_true q]))) (iteT rfl (bindS rfl (bindS rfl (bindS (can_store_ok _ g w n hn) (like0 h1 rfl (iteF rfl (bindS (lacks_of_ok _ g w n hn) (like0 ?_ rfl (iteF rfl rfl)))))))))
        rw [lacks_sum kk]
        exact h1
      · exact bindS (x := false) (iteT rfl (bindS rfl (by rw [decide_eq_false q]))) (iteF rfl rfl)
  cases A with
  | none => exact second
  | some a =>
    by_cases q : (l : Int) ≤ a
    · refine bindS (x := true) (iteT rfl (bindS rfl (by rw [decide_eq_true q]))) (iteT rfl (bindS rfl (bindS rfl (bindS (can_store_ok _ g w n hn) (like0 (hroom a rfl q) rfl (iteF rfl ?_))))))
      exact second
    · exact bindS (x := false) (iteT rfl (bindS rfl (by rw [decide_eq_false q]))) second
end
theorem law_ok {ns : List Int} (hl : ns.length ≤ 63) : n_law ns = some true := by
  have hs := SLn
  obtain ⟨r, hr, hr0⟩ := row_tab hl 90 (by decide)
  have h0 := hr0 0; have h2 := hr0 2; have h3 := hr0 3; have h4 := hr0 4; have h5 := hr0 5; have h7 := hr0 7
  unfold n_law
  refine bindS hr (bindS (tab_at (k := 0) (by omega)) (bindS rfl (bindS (tab_at (k := 1) (by omega)) ?_)))
  refine bindE (fun p => ∃ (n : Nat) (most rate : Int), p = (most, rate, (n : Int)) ∧ 1 ≤ n ∧ n ≤ 24 ∧ 1 ≤ most ∧ most ≤ 100 ∧ 1 ≤ rate ∧ rate ≤ 41) ?_ ?_
  · by_cases q : r 1 % 24 = 21
    · exact ⟨(100, 41, 12 + r 0 % 13), iteT (decide_eq_true q) (bindS (tab_at (k := 0) (by omega)) (bindS rfl rfl)), (12 + r 0 % 13).toNat, 100, 41, by rw [Int.toNat_of_nonneg (by omega)], by omega, by omega, by decide, by decide, by decide, by decide⟩
    · exact ⟨(13, 6, 1 + r 0 % 6), iteF (decide_eq_false q) rfl, (1 + r 0 % 6).toNat, 13, 6, by rw [Int.toNat_of_nonneg (by omega)], by omega, by omega, by decide, by decide, by decide, by decide⟩
  rintro _ ⟨n, most, rate, rfl, n1, n2, m1, m2, t1, t2⟩
  dsimp only
  have b1 := Int.emod_nonneg (r 2) (show most ≠ 0 by omega)
  have b2 := Int.emod_lt_of_pos (r 2) (show 0 < most by omega)
  have b3 := Int.emod_nonneg (r 3) (show rate ≠ 0 by omega)
  have b4 := Int.emod_lt_of_pos (r 3) (show 0 < rate by omega)
  have b5 := Int.emod_nonneg (r 4) (show rate ≠ 0 by omega)
  have b6 := Int.emod_lt_of_pos (r 4) (show 0 < rate by omega)
  have b7 := Int.emod_nonneg (r 5) (show r 2 % most + 1 ≠ 0 by omega)
  have b8 := Int.emod_lt_of_pos (r 5) (show 0 < r 2 % most + 1 by omega)
  refine bindS (tab_at (k := 2) (by omega)) (bindS (modO_pos (by omega)) (bindS (tab_at (k := 3) (by omega)) (bindS (modO_pos (by omega)) (bindS (tab_at (k := 4) (by omega)) (bindS (modO_pos (by omega)) (bindS rfl (bindS (tab_at (k := 5) (by omega)) (bindS (modO_pos (by dsimp only; omega)) (bindS rfl ?_)))))))))
  dsimp only
  obtain ⟨s, hse, k, hr99, hu⟩ : ∃ s : Sto, s = (r 2 % most, r 3 % rate, r 4 % rate, r 5 % (r 2 % most + 1)) ∧ StoOk s ∧ s.1 ≤ 99 ∧ s.2.2.1 ≤ 40 := ⟨_, rfl, ⟨⟨by dsimp only; omega, by dsimp only; omega⟩, by dsimp only; omega, by dsimp only; omega, ⟨by dsimp only; omega, by dsimp only; omega⟩⟩, by dsimp only; omega, by dsimp only; omega⟩
  rw [← hse]
  clear hse
  refine bindS (rangeO_rng (by omega)) (bindS (lcO_tab (h := fun k => r (8 + k) % 10) (fun k hk => by
    refine bindS (by rw [show (8 : Int) + (k : Int) = ((8 + k : Nat) : Int) by omega]; exact tab_at (by omega)) rfl) (by omega)) (bindS (rangeO_rng (by omega)) (bindS (lcO_tab (h := fun k => r (33 + k) % 10) (fun k hk => by
    refine bindS (by rw [show (33 : Int) + (k : Int) = ((33 + k : Nat) : Int) by omega]; exact tab_at (by omega)) rfl) (by omega)) (bindS (tab_at (k := 6) (by omega)) ?_))))
  obtain ⟨g, hge, hg⟩ : ∃ g : Nat → Int, g = (fun k => r (8 + k) % 10) ∧ ∀ i, 0 ≤ g i ∧ g i ≤ 9 := ⟨_, rfl, fun i => by first | omega | (dsimp only; omega)⟩
  rw [← hge]
  clear hge
  refine bindE (fun ws => ∃ w : Nat → Int, ws = tab w n ∧ ∀ i, i < n → 0 ≤ w i ∧ w i ≤ 50) ?_ ?_
  · by_cases q : r 6 % 2 = 0
    · obtain ⟨ws, e1, e2, e3⟩ := served_ok (g := g) (n := n) k hr0 hu n2 fun i _ => hg i
      obtain ⟨w, e4, e5⟩ : ∃ w : Nat → Int, ws = tab w n ∧ ∀ i, i < n → 0 ≤ w i ∧ w i ≤ 49 := ⟨fun i => ws.getD i 0, by rw [← e2]; exact tab_of ws 0, fun i hi => by
        dsimp only
        rw [List.getD_eq_getElem?_getD, List.getElem?_eq_getElem (by omega)]
        exact e3 _ (List.getElem_mem _)⟩
      subst e4
      have c1 := Int.emod_nonneg (r 7) (show (n : Int) ≠ 0 by omega)
      have c2 := Int.emod_lt_of_pos (r 7) (show 0 < (n : Int) by omega)
      obtain ⟨m, hm⟩ := Int.eq_ofNat_of_zero_le c1
      have hmn : m < n := by omega
      refine ⟨tab (fun i => if i = m then (w m + if decide (r 6 / 2 % 4 = 0) then 1 else 0) else w i) n, iteT (decide_eq_true q) (bindS e1 (bindS (tab_at (k := 7) (by omega)) (bindS (modO_pos (by omega)) ?_))), _, rfl, fun i hi => ?_⟩
      · rw [hm]
        exact bindS (tab_at hmn) (bindS (tab_at (k := 6) (by omega)) (bindS (setI_tab hmn _) rfl))
      · have := e5 i hi
        have := e5 m hmn
        split
        · split <;> omega
        · omega
    · exact ⟨_, iteF (decide_eq_false q) rfl, _, rfl, fun i hi => by first | omega | (dsimp only; omega)⟩
  rintro _ ⟨w, rfl, hw⟩
  have hn : n ≤ 1000 := by omega
  have ho : ∀ i, i < n → -1000 ≤ g i - w i ∧ g i - w i ≤ 9 := fun i hi => by
    have := hg i; have := hw i hi; omega
  refine bindS (law_steps_ok s g w n hn) (bindS (store_run_ok s g w n hn) (like0 rfl (smT0 (by rw [tab_len]; omega)) ?_))
  refine bindS (x := false) (iteF rfl (bindS (lacks_of_ok s g w n hn) (like0 rfl (smT0 (by rw [tab_len]; omega)) rfl))) (iteF rfl ?_)
  refine bindS (can_store_ok s g w n hn) (like0 rfl rfl (iteF rfl ?_))
  refine bindS (ways_ok k hr99 hn ho) (bindS (bounds_ok k g w n hn) (like0 rfl ?_ (iteF ?_ ?_)))
  · cases okN s (fun i => g i - w i) n with
    | true => exact smT_ok (by rw [tab_len]; omega) fun x _ => rfl
    | false => rfl
  · show (!true || _) = false
    cases hok : okN s (fun i => g i - w i) n with
    | true =>
      have : ((lacksN s (fun i => g i - w i) n).any (· != 0)) = false := by
        unfold okN at hok
        simpa using hok
      dsimp only
      rw [this]
      rfl
    | false =>
      have : ((lacksN s (fun i => g i - w i) n).any (· != 0)) = true := by
        unfold okN at hok
        simpa using hok
      dsimp only
      rw [this]
      rfl
  refine bindS (x := false) ?_ (iteF rfl ?_)
  · cases hok : okN s (fun i => g i - w i) n with
    | false => rfl
    | true =>
      refine iteT rfl (bindS (x := boundsN s (fun i => g i - w i) n) rfl ?_)
      refine bindS (lcO_tab (h := fun i => hN s (fun i => g i - w i) (i + 1)) (fun i hi => rfl) (by omega)) ?_
      congr 1
      rw [Bool.not_eq_false', decide_eq_true_eq]
  have sb := sum_bd (xs := tab g n) fun x hx => by
    obtain ⟨i, _, rfl⟩ := mem_tab.mp hx
    exact hg i
  rw [tab_len] at sb
  have kr := k.r; have kh := k.h
  have hN : s.2.2.2 + (tab g n).sum + 1 = (((s.2.2.2 + (tab g n).sum + 1).toNat : Nat) : Int) := by omega
  have hR : s.1 + 1 = (((s.1 + 1).toNat : Nat) : Int) := by omega
  generalize (s.2.2.2 + (tab g n).sum + 1).toNat = N at hN
  generalize (s.1 + 1).toNat = R at hR
  refine bindS (law_least_ok hn hN (by omega) hR (by omega)) (bindS (least_room_ok hn kh.1 hN (by omega)) (like0 rfl (smO0 _) ?_))
  refine bindS (x := false) (iteF rfl (bindS (least_first_ok hn hR (by omega)) (like0 rfl (smO0 _) rfl))) (iteF rfl ?_)
  refine bindS (rangeO_rng (n := 2) (by omega)) (bindN (less_loop k hn hR) rfl)
theorem law_holds : ∀ ns : List Int, ns.length ≤ 63 → F_law [.scr (ns.map D.int)] = some (.bl true) := fun ns hl => p_law (law_ok hl)
end K17

namespace K17
open PySem PySem.Spec PyProof.Rows L2 Ev
/-! ### what the top has written -/
structure Facts (K : PySem.W.Frag) (mg : Str → Option Value) : Prop where
  B : ∀ b ∈ bltNames, mg b = none
  h_store_steps : FnH K mg "store_steps" (topS 1) ["store", "got", "wanted"]
  h_store_run : FnH K mg "store_run" (topS 2) ["store", "got", "wanted"]
  h_lacks_of : FnH K mg "lacks_of" (topS 3) ["store", "got", "wanted"]
  h_can_store : FnH K mg "can_store" (topS 4) ["store", "got", "wanted"]
  h_with_store_room : FnH K mg "with_store_room" (topS 5) ["store", "room"]
  h_least_room : FnH K mg "least_room" (topS 6) ["store", "got", "wanted"]
  h_least_first : FnH K mg "least_first" (topS 7) ["store", "got", "wanted"]
  h_reach_bounds : FnH K mg "reach_bounds" (topS 8) ["store", "got", "wanted"]
  h_needs_behind : FnH K mg "needs_behind" (topS 9) ["store", "got", "wanted"]
  h_bounds_held : FnH K mg "bounds_held" (topS 10) ["store", "got", "wanted"]
  h__law_mixed : FnH K mg "_law_mixed" (topS 12) ["script", "k"]
  h__law_row : FnH K mg "_law_row" (topS 13) ["script", "many"]
  h__law_is_int : FnH K mg "_law_is_int" (topS 14) ["value"]
  h__law_like : FnH K mg "_law_like" (topS 15) ["value", "due"]
  h__law_steps : FnH K mg "_law_steps" (topS 16) ["store", "got", "wanted"]
  h__law_behind : FnH K mg "_law_behind" (topS 17) ["store", "hold", "over"]
  h__law_ways : FnH K mg "_law_ways" (topS 18) ["store", "got", "wanted"]
  h__law_with_room : FnH K mg "_law_with_room" (topS 19) ["store", "room"]
  h__law_least : FnH K mg "_law_least" (topS 20) ["store", "got", "wanted"]
  h__law_served : FnH K mg "_law_served" (topS 21) ["row", "store", "got"]
  h_law : FnH K mg "law" (topS 22) ["script"]
section
variable {P : Program} {w : World} {K : PySem.W.Frag} {mg : Str → Option Value} {base : Heap}
theorem d_store_steps (h : Facts K mg) : FnD P w K mg base 1 "store_steps" 0 F_store_steps := fn_ok (k := 0) h.h_store_steps h.B .nil ok_store_steps
theorem d_store_run (h : Facts K mg) : FnD P w K mg base 2 "store_run" 0 F_store_run := fn_ok (k := 1) h.h_store_run h.B (.cons ((d_store_steps h).mono (by decide)) .nil) ok_store_run
theorem d_lacks_of (h : Facts K mg) : FnD P w K mg base 2 "lacks_of" 0 F_lacks_of := fn_ok (k := 1) h.h_lacks_of h.B (.cons ((d_store_steps h).mono (by decide)) .nil) ok_lacks_of
theorem d_can_store (h : Facts K mg) : FnD P w K mg base 3 "can_store" 0 F_can_store := fn_ok (k := 2) h.h_can_store h.B (.cons ((d_lacks_of h).mono (by decide)) .nil) ok_can_store
theorem d_with_store_room (h : Facts K mg) : FnD P w K mg base 1 "with_store_room" 0 F_with_store_room := fn_ok (k := 0) h.h_with_store_room h.B .nil ok_with_store_room
theorem d_least_room (h : Facts K mg) : FnD P w K mg base 4 "least_room" 0 F_least_room := fn_ok (k := 3) h.h_least_room h.B (.cons ((d_can_store h).mono (by decide)) (.cons ((d_with_store_room h).mono (by decide)) .nil)) ok_least_room
theorem d_least_first (h : Facts K mg) : FnD P w K mg base 4 "least_first" 0 F_least_first := fn_ok (k := 3) h.h_least_first h.B (.cons ((d_can_store h).mono (by decide)) .nil) ok_least_first
theorem d_reach_bounds (h : Facts K mg) : FnD P w K mg base 1 "reach_bounds" 0 F_reach_bounds := fn_ok (k := 0) h.h_reach_bounds h.B .nil ok_reach_bounds
theorem d_needs_behind (h : Facts K mg) : FnD P w K mg base 1 "needs_behind" 1 F_needs_behind := fn_ok (k := 0) h.h_needs_behind h.B .nil ok_needs_behind
theorem d_bounds_held (h : Facts K mg) : FnD P w K mg base 2 "bounds_held" 0 F_bounds_held := fn_ok (k := 1) h.h_bounds_held h.B (.cons ((d_reach_bounds h).mono (by decide)) (.cons ((d_needs_behind h).mono (by decide)) .nil)) ok_bounds_held
theorem d__law_mixed (h : Facts K mg) : FnD P w K mg base 1 "_law_mixed" 0 F__law_mixed := fn_ok (k := 0) h.h__law_mixed h.B .nil ok__law_mixed
theorem d__law_row (h : Facts K mg) : FnD P w K mg base 2 "_law_row" 1 F__law_row := fn_ok (k := 1) h.h__law_row h.B (.cons ((d__law_mixed h).mono (by decide)) .nil) ok__law_row
theorem d__law_is_int (h : Facts K mg) : FnD P w K mg base 1 "_law_is_int" 0 F__law_is_int := fn_ok (k := 0) h.h__law_is_int h.B .nil ok__law_is_int
theorem d__law_like (h : Facts K mg) : FnD P w K mg base 9 "_law_like" 0 F__law_like := fn_rec (k := 1) h.h__law_like h.B (.cons ((d__law_is_int h).mono (by decide)) .nil) ok__law_like 8
theorem d__law_steps (h : Facts K mg) : FnD P w K mg base 1 "_law_steps" 0 F__law_steps := fn_ok (k := 0) h.h__law_steps h.B .nil ok__law_steps
theorem d__law_behind (h : Facts K mg) : FnD P w K mg base 1 "_law_behind" 1 F__law_behind := fn_ok (k := 0) h.h__law_behind h.B .nil ok__law_behind
theorem d__law_ways (h : Facts K mg) : FnD P w K mg base 2 "_law_ways" 0 F__law_ways := fn_ok (k := 1) h.h__law_ways h.B (.cons ((d__law_behind h).mono (by decide)) .nil) ok__law_ways
theorem d__law_with_room (h : Facts K mg) : FnD P w K mg base 1 "_law_with_room" 0 F__law_with_room := fn_ok (k := 0) h.h__law_with_room h.B .nil ok__law_with_room
theorem d__law_least (h : Facts K mg) : FnD P w K mg base 2 "_law_least" 0 F__law_least := fn_ok (k := 1) h.h__law_least h.B (.cons ((d__law_steps h).mono (by decide)) (.cons ((d__law_with_room h).mono (by decide)) .nil)) ok__law_least
theorem d__law_served (h : Facts K mg) : FnD P w K mg base 2 "_law_served" 1 F__law_served := fn_ok (k := 1) h.h__law_served h.B (.cons ((d__law_steps h).mono (by decide)) .nil) ok__law_served
theorem t_law (h : Facts K mg) : Tab P w K mg base 9 ["_law_row", "_law_served", "_law_steps", "_law_like", "store_run", "lacks_of", "can_store", "_law_ways", "bounds_held", "_law_least", "least_room", "least_first", "_law_with_room"] [1, 1, 0, 0, 0, 0, 0, 0, 0, 0, 0, 0, 0] [F__law_row, F__law_served, F__law_steps, F__law_like, F_store_run, F_lacks_of, F_can_store, F__law_ways, F_bounds_held, F__law_least, F_least_room, F_least_first, F__law_with_room] := (.cons ((d__law_row h).mono (by decide)) (.cons ((d__law_served h).mono (by decide)) (.cons ((d__law_steps h).mono (by decide)) (.cons ((d__law_like h).mono (by decide)) (.cons ((d_store_run h).mono (by decide)) (.cons ((d_lacks_of h).mono (by decide)) (.cons ((d_can_store h).mono (by decide)) (.cons ((d__law_ways h).mono (by decide)) (.cons ((d_bounds_held h).mono (by decide)) (.cons ((d__law_least h).mono (by decide)) (.cons ((d_least_room h).mono (by decide)) (.cons ((d_least_first h).mono (by decide)) (.cons ((d__law_with_room h).mono (by decide)) .nil)))))))))))))
end
set_option maxHeartbeats 0 in
theorem all_mk {l : PySem.W.OpenLaw} {w : World} {K : PySem.W.Frag} {h : Heap} {mg : Str → Option Value} {fa : Addr} (X : K.In h) (G : h.Ns mainGlobals mg) (hfa : mg "law" = some (.ref fa))
    {f0 : Addr} {od0 an0 : Option Addr} {sl0 : Array (Option Value)} {oc0 kV0 dc0 pm0 cd0 ct0 : Value}
    {f1 : Addr} {od1 an1 : Option Addr} {sl1 : Array (Option Value)} {oc1 kV1 dc1 pm1 cd1 ct1 : Value}
    {f2 : Addr} {od2 an2 : Option Addr} {sl2 : Array (Option Value)} {oc2 kV2 dc2 pm2 cd2 ct2 : Value}
    {f3 : Addr} {od3 an3 : Option Addr} {sl3 : Array (Option Value)} {oc3 kV3 dc3 pm3 cd3 ct3 : Value}
    {f4 : Addr} {od4 an4 : Option Addr} {sl4 : Array (Option Value)} {oc4 kV4 dc4 pm4 cd4 ct4 : Value}
    {f5 : Addr} {od5 an5 : Option Addr} {sl5 : Array (Option Value)} {oc5 kV5 dc5 pm5 cd5 ct5 : Value}
    {f6 : Addr} {od6 an6 : Option Addr} {sl6 : Array (Option Value)} {oc6 kV6 dc6 pm6 cd6 ct6 : Value}
    {f7 : Addr} {od7 an7 : Option Addr} {sl7 : Array (Option Value)} {oc7 kV7 dc7 pm7 cd7 ct7 : Value}
    {f8 : Addr} {od8 an8 : Option Addr} {sl8 : Array (Option Value)} {oc8 kV8 dc8 pm8 cd8 ct8 : Value}
    {f9 : Addr} {od9 an9 : Option Addr} {sl9 : Array (Option Value)} {oc9 kV9 dc9 pm9 cd9 ct9 : Value}
    {f10 : Addr} {od10 an10 : Option Addr} {sl10 : Array (Option Value)} {oc10 kV10 dc10 pm10 cd10 ct10 : Value}
    {f11 : Addr} {od11 an11 : Option Addr} {sl11 : Array (Option Value)} {oc11 kV11 dc11 pm11 cd11 ct11 : Value}
    {f12 : Addr} {od12 an12 : Option Addr} {sl12 : Array (Option Value)} {oc12 kV12 dc12 pm12 cd12 ct12 : Value}
    {f13 : Addr} {od13 an13 : Option Addr} {sl13 : Array (Option Value)} {oc13 kV13 dc13 pm13 cd13 ct13 : Value}
    {f14 : Addr} {od14 an14 : Option Addr} {sl14 : Array (Option Value)} {oc14 kV14 dc14 pm14 cd14 ct14 : Value}
    {f15 : Addr} {od15 an15 : Option Addr} {sl15 : Array (Option Value)} {oc15 kV15 dc15 pm15 cd15 ct15 : Value}
    {f16 : Addr} {od16 an16 : Option Addr} {sl16 : Array (Option Value)} {oc16 kV16 dc16 pm16 cd16 ct16 : Value}
    {f17 : Addr} {od17 an17 : Option Addr} {sl17 : Array (Option Value)} {oc17 kV17 dc17 pm17 cd17 ct17 : Value}
    {f18 : Addr} {od18 an18 : Option Addr} {sl18 : Array (Option Value)} {oc18 kV18 dc18 pm18 cd18 ct18 : Value}
    {f19 : Addr} {od19 an19 : Option Addr} {sl19 : Array (Option Value)} {oc19 kV19 dc19 pm19 cd19 ct19 : Value}
    {f20 : Addr} {od20 an20 : Option Addr} {sl20 : Array (Option Value)} {oc20 kV20 dc20 pm20 cd20 ct20 : Value}
    (a0 : PySem.W.nsIn K mainGlobals "store_steps" = some (some (.ref f0))) (l0 : K.lookup f0 = some ⟨oc0, od0, .func (PySem.W.fnOf "store_steps" "store_steps" (defArgs (topS 1)) (defBody (topS 1)) (defScope (topS 1)) .none kV0 dc0 pm0 an0 cd0 ct0), sl0⟩) (c0 : PySem.W.codeIn K cd0 "store_steps" = true) (k0 : PySem.W.keepIn K (.ref f0) = true)
    (a1 : PySem.W.nsIn K mainGlobals "store_run" = some (some (.ref f1))) (l1 : K.lookup f1 = some ⟨oc1, od1, .func (PySem.W.fnOf "store_run" "store_run" (defArgs (topS 2)) (defBody (topS 2)) (defScope (topS 2)) .none kV1 dc1 pm1 an1 cd1 ct1), sl1⟩) (c1 : PySem.W.codeIn K cd1 "store_run" = true) (k1 : PySem.W.keepIn K (.ref f1) = true)
    (a2 : PySem.W.nsIn K mainGlobals "lacks_of" = some (some (.ref f2))) (l2 : K.lookup f2 = some ⟨oc2, od2, .func (PySem.W.fnOf "lacks_of" "lacks_of" (defArgs (topS 3)) (defBody (topS 3)) (defScope (topS 3)) .none kV2 dc2 pm2 an2 cd2 ct2), sl2⟩) (c2 : PySem.W.codeIn K cd2 "lacks_of" = true) (k2 : PySem.W.keepIn K (.ref f2) = true)
    (a3 : PySem.W.nsIn K mainGlobals "can_store" = some (some (.ref f3))) (l3 : K.lookup f3 = some ⟨oc3, od3, .func (PySem.W.fnOf "can_store" "can_store" (defArgs (topS 4)) (defBody (topS 4)) (defScope (topS 4)) .none kV3 dc3 pm3 an3 cd3 ct3), sl3⟩) (c3 : PySem.W.codeIn K cd3 "can_store" = true) (k3 : PySem.W.keepIn K (.ref f3) = true)
    (a4 : PySem.W.nsIn K mainGlobals "with_store_room" = some (some (.ref f4))) (l4 : K.lookup f4 = some ⟨oc4, od4, .func (PySem.W.fnOf "with_store_room" "with_store_room" (defArgs (topS 5)) (defBody (topS 5)) (defScope (topS 5)) .none kV4 dc4 pm4 an4 cd4 ct4), sl4⟩) (c4 : PySem.W.codeIn K cd4 "with_store_room" = true) (k4 : PySem.W.keepIn K (.ref f4) = true)
    (a5 : PySem.W.nsIn K mainGlobals "least_room" = some (some (.ref f5))) (l5 : K.lookup f5 = some ⟨oc5, od5, .func (PySem.W.fnOf "least_room" "least_room" (defArgs (topS 6)) (defBody (topS 6)) (defScope (topS 6)) .none kV5 dc5 pm5 an5 cd5 ct5), sl5⟩) (c5 : PySem.W.codeIn K cd5 "least_room" = true) (k5 : PySem.W.keepIn K (.ref f5) = true)
    (a6 : PySem.W.nsIn K mainGlobals "least_first" = some (some (.ref f6))) (l6 : K.lookup f6 = some ⟨oc6, od6, .func (PySem.W.fnOf "least_first" "least_first" (defArgs (topS 7)) (defBody (topS 7)) (defScope (topS 7)) .none kV6 dc6 pm6 an6 cd6 ct6), sl6⟩) (c6 : PySem.W.codeIn K cd6 "least_first" = true) (k6 : PySem.W.keepIn K (.ref f6) = true)
    (a7 : PySem.W.nsIn K mainGlobals "reach_bounds" = some (some (.ref f7))) (l7 : K.lookup f7 = some ⟨oc7, od7, .func (PySem.W.fnOf "reach_bounds" "reach_bounds" (defArgs (topS 8)) (defBody (topS 8)) (defScope (topS 8)) .none kV7 dc7 pm7 an7 cd7 ct7), sl7⟩) (c7 : PySem.W.codeIn K cd7 "reach_bounds" = true) (k7 : PySem.W.keepIn K (.ref f7) = true)
    (a8 : PySem.W.nsIn K mainGlobals "needs_behind" = some (some (.ref f8))) (l8 : K.lookup f8 = some ⟨oc8, od8, .func (PySem.W.fnOf "needs_behind" "needs_behind" (defArgs (topS 9)) (defBody (topS 9)) (defScope (topS 9)) .none kV8 dc8 pm8 an8 cd8 ct8), sl8⟩) (c8 : PySem.W.codeIn K cd8 "needs_behind" = true) (k8 : PySem.W.keepIn K (.ref f8) = true)
    (a9 : PySem.W.nsIn K mainGlobals "bounds_held" = some (some (.ref f9))) (l9 : K.lookup f9 = some ⟨oc9, od9, .func (PySem.W.fnOf "bounds_held" "bounds_held" (defArgs (topS 10)) (defBody (topS 10)) (defScope (topS 10)) .none kV9 dc9 pm9 an9 cd9 ct9), sl9⟩) (c9 : PySem.W.codeIn K cd9 "bounds_held" = true) (k9 : PySem.W.keepIn K (.ref f9) = true)
    (a10 : PySem.W.nsIn K mainGlobals "_law_mixed" = some (some (.ref f10))) (l10 : K.lookup f10 = some ⟨oc10, od10, .func (PySem.W.fnOf "_law_mixed" "_law_mixed" (defArgs (topS 12)) (defBody (topS 12)) (defScope (topS 12)) .none kV10 dc10 pm10 an10 cd10 ct10), sl10⟩) (c10 : PySem.W.codeIn K cd10 "_law_mixed" = true) (k10 : PySem.W.keepIn K (.ref f10) = true)
    (a11 : PySem.W.nsIn K mainGlobals "_law_row" = some (some (.ref f11))) (l11 : K.lookup f11 = some ⟨oc11, od11, .func (PySem.W.fnOf "_law_row" "_law_row" (defArgs (topS 13)) (defBody (topS 13)) (defScope (topS 13)) .none kV11 dc11 pm11 an11 cd11 ct11), sl11⟩) (c11 : PySem.W.codeIn K cd11 "_law_row" = true) (k11 : PySem.W.keepIn K (.ref f11) = true)
    (a12 : PySem.W.nsIn K mainGlobals "_law_is_int" = some (some (.ref f12))) (l12 : K.lookup f12 = some ⟨oc12, od12, .func (PySem.W.fnOf "_law_is_int" "_law_is_int" (defArgs (topS 14)) (defBody (topS 14)) (defScope (topS 14)) .none kV12 dc12 pm12 an12 cd12 ct12), sl12⟩) (c12 : PySem.W.codeIn K cd12 "_law_is_int" = true) (k12 : PySem.W.keepIn K (.ref f12) = true)
    (a13 : PySem.W.nsIn K mainGlobals "_law_like" = some (some (.ref f13))) (l13 : K.lookup f13 = some ⟨oc13, od13, .func (PySem.W.fnOf "_law_like" "_law_like" (defArgs (topS 15)) (defBody (topS 15)) (defScope (topS 15)) .none kV13 dc13 pm13 an13 cd13 ct13), sl13⟩) (c13 : PySem.W.codeIn K cd13 "_law_like" = true) (k13 : PySem.W.keepIn K (.ref f13) = true)
    (a14 : PySem.W.nsIn K mainGlobals "_law_steps" = some (some (.ref f14))) (l14 : K.lookup f14 = some ⟨oc14, od14, .func (PySem.W.fnOf "_law_steps" "_law_steps" (defArgs (topS 16)) (defBody (topS 16)) (defScope (topS 16)) .none kV14 dc14 pm14 an14 cd14 ct14), sl14⟩) (c14 : PySem.W.codeIn K cd14 "_law_steps" = true) (k14 : PySem.W.keepIn K (.ref f14) = true)
    (a15 : PySem.W.nsIn K mainGlobals "_law_behind" = some (some (.ref f15))) (l15 : K.lookup f15 = some ⟨oc15, od15, .func (PySem.W.fnOf "_law_behind" "_law_behind" (defArgs (topS 17)) (defBody (topS 17)) (defScope (topS 17)) .none kV15 dc15 pm15 an15 cd15 ct15), sl15⟩) (c15 : PySem.W.codeIn K cd15 "_law_behind" = true) (k15 : PySem.W.keepIn K (.ref f15) = true)
    (a16 : PySem.W.nsIn K mainGlobals "_law_ways" = some (some (.ref f16))) (l16 : K.lookup f16 = some ⟨oc16, od16, .func (PySem.W.fnOf "_law_ways" "_law_ways" (defArgs (topS 18)) (defBody (topS 18)) (defScope (topS 18)) .none kV16 dc16 pm16 an16 cd16 ct16), sl16⟩) (c16 : PySem.W.codeIn K cd16 "_law_ways" = true) (k16 : PySem.W.keepIn K (.ref f16) = true)
    (a17 : PySem.W.nsIn K mainGlobals "_law_with_room" = some (some (.ref f17))) (l17 : K.lookup f17 = some ⟨oc17, od17, .func (PySem.W.fnOf "_law_with_room" "_law_with_room" (defArgs (topS 19)) (defBody (topS 19)) (defScope (topS 19)) .none kV17 dc17 pm17 an17 cd17 ct17), sl17⟩) (c17 : PySem.W.codeIn K cd17 "_law_with_room" = true) (k17 : PySem.W.keepIn K (.ref f17) = true)
    (a18 : PySem.W.nsIn K mainGlobals "_law_least" = some (some (.ref f18))) (l18 : K.lookup f18 = some ⟨oc18, od18, .func (PySem.W.fnOf "_law_least" "_law_least" (defArgs (topS 20)) (defBody (topS 20)) (defScope (topS 20)) .none kV18 dc18 pm18 an18 cd18 ct18), sl18⟩) (c18 : PySem.W.codeIn K cd18 "_law_least" = true) (k18 : PySem.W.keepIn K (.ref f18) = true)
    (a19 : PySem.W.nsIn K mainGlobals "_law_served" = some (some (.ref f19))) (l19 : K.lookup f19 = some ⟨oc19, od19, .func (PySem.W.fnOf "_law_served" "_law_served" (defArgs (topS 21)) (defBody (topS 21)) (defScope (topS 21)) .none kV19 dc19 pm19 an19 cd19 ct19), sl19⟩) (c19 : PySem.W.codeIn K cd19 "_law_served" = true) (k19 : PySem.W.keepIn K (.ref f19) = true)
    (a20 : PySem.W.nsIn K mainGlobals "law" = some (some (.ref f20))) (l20 : K.lookup f20 = some ⟨oc20, od20, .func (PySem.W.fnOf "law" "law" (defArgs (topS 22)) (defBody (topS 22)) (defScope (topS 22)) .none kV20 dc20 pm20 an20 cd20 ct20), sl20⟩) (c20 : PySem.W.codeIn K cd20 "law" = true) (k20 : PySem.W.keepIn K (.ref f20) = true)
    (z0 : PySem.W.nsIn K mainGlobals "len" = some none) (z1 : PySem.W.nsIn K mainGlobals "sum" = some none) (z2 : PySem.W.nsIn K mainGlobals "any" = some none) (z3 : PySem.W.nsIn K mainGlobals "all" = some none) (z4 : PySem.W.nsIn K mainGlobals "abs" = some none) (z5 : PySem.W.nsIn K mainGlobals "int" = some none) (z6 : PySem.W.nsIn K mainGlobals "min" = some none) (z7 : PySem.W.nsIn K mainGlobals "max" = some none) (z8 : PySem.W.nsIn K mainGlobals "tuple" = some none) (z9 : PySem.W.nsIn K mainGlobals "list" = some none) (z10 : PySem.W.nsIn K mainGlobals "sorted" = some none) (z11 : PySem.W.nsIn K mainGlobals "isinstance" = some none) (z12 : PySem.W.nsIn K mainGlobals "bool" = some none) (z13 : PySem.W.nsIn K mainGlobals "str" = some none) (z14 : PySem.W.nsIn K mainGlobals "range" = some none) (z15 : PySem.W.nsIn K mainGlobals "zip" = some none) (z16 : PySem.W.nsIn K mainGlobals "enumerate" = some none) (z17 : PySem.W.nsIn K mainGlobals "reversed" = some none) (z18 : PySem.W.nsIn K mainGlobals "set" = some none) :
    ∃ fd : FuncData, (∀ (s : Shared) (v : Value), BindsTo s fd ⟨[v], []⟩ [("script", v)]) ∧ ∀ base : Heap, K.In base → base.Ns mainGlobals mg → FnOk l.prog w K mg base CX0 10 fa fd ["script"] (spD K 1 0 F_law) := by
  have e := hfa.symm.trans (PySem.W.mg_of X G a20)
  cases e
  have HB : ∀ b ∈ bltNames, mg b = none := fun b hb => by
    simp only [bltNames, List.mem_cons, List.not_mem_nil, or_false] at hb
    rcases hb with rfl | rfl | rfl | rfl | rfl | rfl | rfl | rfl | rfl | rfl | rfl | rfl | rfl | rfl | rfl | rfl | rfl | rfl | rfl
    · exact PySem.W.mg_none_of X G z0
    · exact PySem.W.mg_none_of X G z1
    · exact PySem.W.mg_none_of X G z2
    · exact PySem.W.mg_none_of X G z3
    · exact PySem.W.mg_none_of X G z4
    · exact PySem.W.mg_none_of X G z5
    · exact PySem.W.mg_none_of X G z6
    · exact PySem.W.mg_none_of X G z7
    · exact PySem.W.mg_none_of X G z8
    · exact PySem.W.mg_none_of X G z9
    · exact PySem.W.mg_none_of X G z10
    · exact PySem.W.mg_none_of X G z11
    · exact PySem.W.mg_none_of X G z12
    · exact PySem.W.mg_none_of X G z13
    · exact PySem.W.mg_none_of X G z14
    · exact PySem.W.mg_none_of X G z15
    · exact PySem.W.mg_none_of X G z16
    · exact PySem.W.mg_none_of X G z17
    · exact PySem.W.mg_none_of X G z18
  have H : Facts K mg := ⟨HB
    , fnH_mk X G a0 l0 c0 k0 (fun _ _ _ _ _ _ us hl => match us, hl with | [_, _, _], _ => rfl)
    , fnH_mk X G a1 l1 c1 k1 (fun _ _ _ _ _ _ us hl => match us, hl with | [_, _, _], _ => rfl)
    , fnH_mk X G a2 l2 c2 k2 (fun _ _ _ _ _ _ us hl => match us, hl with | [_, _, _], _ => rfl)
    , fnH_mk X G a3 l3 c3 k3 (fun _ _ _ _ _ _ us hl => match us, hl with | [_, _, _], _ => rfl)
    , fnH_mk X G a4 l4 c4 k4 (fun _ _ _ _ _ _ us hl => match us, hl with | [_, _], _ => rfl)
    , fnH_mk X G a5 l5 c5 k5 (fun _ _ _ _ _ _ us hl => match us, hl with | [_, _, _], _ => rfl)
    , fnH_mk X G a6 l6 c6 k6 (fun _ _ _ _ _ _ us hl => match us, hl with | [_, _, _], _ => rfl)
    , fnH_mk X G a7 l7 c7 k7 (fun _ _ _ _ _ _ us hl => match us, hl with | [_, _, _], _ => rfl)
    , fnH_mk X G a8 l8 c8 k8 (fun _ _ _ _ _ _ us hl => match us, hl with | [_, _, _], _ => rfl)
    , fnH_mk X G a9 l9 c9 k9 (fun _ _ _ _ _ _ us hl => match us, hl with | [_, _, _], _ => rfl)
    , fnH_mk X G a10 l10 c10 k10 (fun _ _ _ _ _ _ us hl => match us, hl with | [_, _], _ => rfl)
    , fnH_mk X G a11 l11 c11 k11 (fun _ _ _ _ _ _ us hl => match us, hl with | [_, _], _ => rfl)
    , fnH_mk X G a12 l12 c12 k12 (fun _ _ _ _ _ _ us hl => match us, hl with | [_], _ => rfl)
    , fnH_mk X G a13 l13 c13 k13 (fun _ _ _ _ _ _ us hl => match us, hl with | [_, _], _ => rfl)
    , fnH_mk X G a14 l14 c14 k14 (fun _ _ _ _ _ _ us hl => match us, hl with | [_, _, _], _ => rfl)
    , fnH_mk X G a15 l15 c15 k15 (fun _ _ _ _ _ _ us hl => match us, hl with | [_, _, _], _ => rfl)
    , fnH_mk X G a16 l16 c16 k16 (fun _ _ _ _ _ _ us hl => match us, hl with | [_, _, _], _ => rfl)
    , fnH_mk X G a17 l17 c17 k17 (fun _ _ _ _ _ _ us hl => match us, hl with | [_, _], _ => rfl)
    , fnH_mk X G a18 l18 c18 k18 (fun _ _ _ _ _ _ us hl => match us, hl with | [_, _, _], _ => rfl)
    , fnH_mk X G a19 l19 c19 k19 (fun _ _ _ _ _ _ us hl => match us, hl with | [_, _, _], _ => rfl)
    , fnH_mk X G a20 l20 c20 k20 (fun _ _ _ _ _ _ us hl => match us, hl with | [_], _ => rfl)
    ⟩
  have F := fun_mk (st := topS 22) l20 c20 k20
  exact ⟨_, fun s v => .of_eq rfl, fun base _ _ => fn_ok0 (ps := ["script"]) F H.B (t_law H) ok_law⟩
end K17

open PySem PySem.W PyProof.Rows
set_option maxHeartbeats 0 in
theorem PySem.Challenge.cw_gasheld_k17_whole_store_ways_holds : PySem.Challenge.rw_gasheld_k17_whole_store_ways.Holds := by
  w_on; o_law; k_head; (case hw => w_witness2)
  k_fill
  refine L2.walk_of (l := PySem.Challenge.rw_gasheld_k17_whole_store_ways) (n := 63) (k := 10) (x := "script") (CX := fun _ => L2.CX0) (sp := fun w => Ev.spD _ 1 0 K17.F_law) rfl (by decide) rfl ⟨rfl, by decide, by decide⟩ (fun w h Y => PySem.W.kIn_of Y) ?F (fun _ H a ns hl _ hS => Ev.law_sp K17.law_holds H a ns hl hS) (fun _ _ _ _ _ h => h)
  case F =>
    intro w mg fa h KX G hmg
    refine' K17.all_mk KX G hmg ?a0 ?l0 ?c0 ?k0 ?a1 ?l1 ?c1 ?k1 ?a2 ?l2 ?c2 ?k2 ?a3 ?l3 ?c3 ?k3 ?a4 ?l4 ?c4 ?k4 ?a5 ?l5 ?c5 ?k5 ?a6 ?l6 ?c6 ?k6 ?a7 ?l7 ?c7 ?k7 ?a8 ?l8 ?c8 ?k8 ?a9 ?l9 ?c9 ?k9 ?a10 ?l10 ?c10 ?k10 ?a11 ?l11 ?c11 ?k11 ?a12 ?l12 ?c12 ?k12 ?a13 ?l13 ?c13 ?k13 ?a14 ?l14 ?c14 ?k14 ?a15 ?l15 ?c15 ?k15 ?a16 ?l16 ?c16 ?k16 ?a17 ?l17 ?c17 ?k17 ?a18 ?l18 ?c18 ?k18 ?a19 ?l19 ?c19 ?k19 ?a20 ?l20 ?c20 ?k20 ?z0 ?z1 ?z2 ?z3 ?z4 ?z5 ?z6 ?z7 ?z8 ?z9 ?z10 ?z11 ?z12 ?z13 ?z14 ?z15 ?z16 ?z17 ?z18
    (case a0 => k_is); (case l0 => k_is); (case c0 => k_is); (case k0 => k_is); (case a1 => k_is); (case l1 => k_is); (case c1 => k_is); (case k1 => k_is); (case a2 => k_is); (case l2 => k_is); (case c2 => k_is); (case k2 => k_is)
    (case a3 => k_is); (case l3 => k_is); (case c3 => k_is); (case k3 => k_is); (case a4 => k_is); (case l4 => k_is); (case c4 => k_is); (case k4 => k_is); (case a5 => k_is); (case l5 => k_is); (case c5 => k_is); (case k5 => k_is)
    (case a6 => k_is); (case l6 => k_is); (case c6 => k_is); (case k6 => k_is); (case a7 => k_is); (case l7 => k_is); (case c7 => k_is); (case k7 => k_is); (case a8 => k_is); (case l8 => k_is); (case c8 => k_is); (case k8 => k_is)
    (case a9 => k_is); (case l9 => k_is); (case c9 => k_is); (case k9 => k_is); (case a10 => k_is); (case l10 => k_is); (case c10 => k_is); (case k10 => k_is); (case a11 => k_is); (case l11 => k_is); (case c11 => k_is); (case k11 => k_is)
    (case a12 => k_is); (case l12 => k_is); (case c12 => k_is); (case k12 => k_is); (case a13 => k_is); (case l13 => k_is); (case c13 => k_is); (case k13 => k_is); (case a14 => k_is); (case l14 => k_is); (case c14 => k_is); (case k14 => k_is)
    (case a15 => k_is); (case l15 => k_is); (case c15 => k_is); (case k15 => k_is); (case a16 => k_is); (case l16 => k_is); (case c16 => k_is); (case k16 => k_is); (case a17 => k_is); (case l17 => k_is); (case c17 => k_is); (case k17 => k_is)
    (case a18 => k_is); (case l18 => k_is); (case c18 => k_is); (case k18 => k_is); (case a19 => k_is); (case l19 => k_is); (case c19 => k_is); (case k19 => k_is); (case a20 => k_is); (case l20 => k_is); (case c20 => k_is); (case k20 => k_is)
    (case z0 => k_is); (case z1 => k_is); (case z2 => k_is); (case z3 => k_is); (case z4 => k_is); (case z5 => k_is); (case z6 => k_is); (case z7 => k_is); (case z8 => k_is); (case z9 => k_is); (case z10 => k_is); (case z11 => k_is)
    (case z12 => k_is); (case z13 => k_is); (case z14 => k_is); (case z15 => k_is); (case z16 => k_is); (case z17 => k_is); (case z18 => k_is)
