import PyProof.Rows.All
import Wide.All
import OpenK.AllK
import Wide.FinOn
import HandS.ForMost
import HandS.Deep
import HandS.TupAny
import HandS.TupMul
import HandS.TryOnly
import HandS.IsInst
import HandS.Walk
import HandS.Flow
import KE.KDictKeyed
import KE.KeyNested
import KE.SortData
import KE.GoesEnum
import HandS.TupLen
import PySem.Challenge.RW_allorsome_k39_orders_far
set_option Elab.async false
set_option linter.all false
set_option maxRecDepth 100000
set_option maxHeartbeats 4000000
/-! DL: plain data, a store of mutable objects, and how HandS's abstract heap bears them -/
namespace DL
open PySem PySem.Spec L2

inductive D where
  | non | bl (b : Bool) | int (i : Int) | str (x : Str) | tup (xs : List D) | fro (xs : List D) | ref (n : Nat)
inductive Ob where
  | lst (xs : List D) | dK (kvs : List (Key × D)) | dN (kvs : List (NestedKey × D)) | ins (c : Str) (fs : List (Str × D))
abbrev Sto := List Ob
abbrev Env := List (Option D)
abbrev M (α : Type) := Sto → Option (α × Sto)
structure Gm where
  K : PySem.W.Frag
  P : Program
  w : World
  cls : Str → Option Addr

mutual
def D.key : D → Option NestedKey
  | .non => some .none
  | .bl b => some (.num (if b = true then 1 else 0))
  | .int i => some (.num i)
  | .str x => some (.text x)
  | .tup ds => match D.keys ds with
    | some ks => some (.tup ks)
    | none => none
  | .fro _ => none
  | .ref _ => none
def D.keys : List D → Option (List NestedKey)
  | [] => some []
  | d :: ds => match D.key d, D.keys ds with
    | some k, some ks => some (k :: ks)
    | _, _ => none
end

mutual
def RV (g : Gm) (H : Hp) (η : List Addr) : D → V → Prop
  | .non, v => v = .non
  | .bl b, v => v = .bl b
  | .int i, v => v = .int i
  | .str x, v => v = .str x
  | .tup ds, v => ∃ a vs, v = .ref a ∧ SqT g.K H a vs ∧ RVs g H η ds vs
  | .fro ds, v => ∃ a vs, v = .ref a ∧ ((∃ o, H a = some (.frz o (.lst vs))) ∨ (∀ H', SqL g.K H' a vs)) ∧ RVs g H η ds vs
  | .ref n, v => ∃ a, v = .ref a ∧ η[n]? = some a
def RVs (g : Gm) (H : Hp) (η : List Addr) : List D → List V → Prop
  | [], vs => vs = []
  | d :: ds, vs => ∃ v r, vs = v :: r ∧ RV g H η d v ∧ RVs g H η ds r
end

/-- pairs by key -/
inductive RK {κ : Type} (g : Gm) (H : Hp) (η : List Addr) : List (κ × D) → List (κ × V) → Prop where
  | nil : RK g H η [] []
  | cons {k : κ} {d : D} {v : V} {r : List (κ × D)} {s : List (κ × V)} : RV g H η d v → RK g H η r s → RK g H η ((k, d) :: r) ((k, v) :: s)
/-- the entries of a dict whose keys are nested tuples -/
inductive RN (g : Gm) (H : Hp) (η : List Addr) : List (NestedKey × D) → List (NestedKey × Addr × Value) → Prop where
  | nil : RN g H η [] []
  | cons {k : NestedKey} {d : D} {b : Addr} {kd : D} {v : V} {u : Value} {r s} : RV g H η kd (.ref b) → kd.key = some k → k.depth ≤ 8 → RV g H η d v → RelV v u → RN g H η r s → RN g H η ((k, d) :: r) ((k, b, u) :: s)
def DN (g : Gm) (H : Hp) (η : List Addr) (o : Obj) (kvs : List (NestedKey × D)) : Prop :=
  o.ExactDict ∧ ∃ es ep xs, o.data = .dict es ep ∧ es.toList = xs.map (entryOfKey (nestedKind g.P g.w)) ∧ (xs.map (·.1)).Nodup ∧ RN g H η kvs xs

def ObR (g : Gm) (H : Hp) (η : List Addr) (a : Addr) : Ob → Prop
  | .lst xs => ∃ vs, H a = some (.lst vs) ∧ RVs g H η xs vs
  | .dK kvs => ∃ vs, H a = some (.dK vs) ∧ RK g H η kvs vs
  | .dN kvs => ∃ o, H a = some (.ext fun h => h.get? a = some o) ∧ (a == sysModules) = false ∧ DN g H η o kvs
  | .ins c fs => ∃ C dx vs, g.cls c = some C ∧ H a = some (.ins C dx vs) ∧ RK g H η fs vs

structure Ext (H : Hp) (η : List Addr) (H' : Hp) (η' : List Addr) : Prop where
  pre : ∃ t, η' = η ++ t
  kp : ∀ a o, H a = some o → a ∉ η → H' a = some o
  nw : ∀ a, a ∈ η' → a ∈ η ∨ H a = none
structure Sim (g : Gm) (H : Hp) (η : List Addr) (S : Sto) : Prop where
  len : η.length = S.length
  nd : η.Nodup
  ob : ∀ (n : Nat) (o : Ob) (a : Addr), S[n]? = some o → η[n]? = some a → ObR g H η a o
structure EnvR (g : Gm) (H : Hp) (η : List Addr) (ρ : Env) (σ : St) : Prop where
  len : σ.length = ρ.length
  at_ : ∀ (i : Nat) (d : D), ρ[i]? = some (some d) → ∃ v : V, σ[i]? = some (some v) ∧ RV g H η d v

theorem Ext.refl (H : Hp) (η : List Addr) : Ext H η H η := ⟨⟨[], by simp⟩, fun _ _ h _ => h, fun _ h => .inl h⟩
theorem Ext.trans {H H1 H2 : Hp} {η η1 η2 : List Addr} (a : Ext H η H1 η1) (b : Ext H1 η1 H2 η2) : Ext H η H2 η2 := by
  obtain ⟨t, rfl⟩ := a.pre
  obtain ⟨u, rfl⟩ := b.pre
  refine ⟨⟨t ++ u, by simp⟩, fun c o h n => ?_, fun c h => ?_⟩
  · refine b.kp c o (a.kp c o h n) fun m => ?_
    rcases a.nw c m with z | z
    · exact n z
    · rw [h] at z; cases z
  · rcases b.nw c h with z | z
    · exact a.nw c z
    · by_cases q : c ∈ η
      · exact .inl q
      · refine .inr ?_
        cases e : H c with
        | none => rfl
        | some o => rw [a.kp c o e q] at z; cases z
theorem Ext.get {H H' : Hp} {η η' : List Addr} (e : Ext H η H' η') {n : Nat} {a : Addr} (h : η[n]? = some a) : η'[n]? = some a := by
  obtain ⟨t, rfl⟩ := e.pre
  rw [List.getElem?_append_left (by obtain ⟨h, _⟩ := List.getElem?_eq_some_iff.mp h; exact h)]
  exact h

/-- what a managed object is not -/
theorem ObR.noT {g : Gm} {H : Hp} {η : List Addr} {a : Addr} {o : Ob} (h : ObR g H η a o) : (∀ xs, H a ≠ some (.tup xs)) ∧ (∀ o xs, H a ≠ some (.frz o xs)) ∧ (∃ u, H a = some u ∧ Mut (some u)) := by
  cases o with
  | lst xs => obtain ⟨vs, e, _⟩ := h; rw [e]; exact ⟨(by intro _ q; cases q), (by intro _ _ q; cases q), _, rfl, trivial⟩
  | dK xs => obtain ⟨vs, e, _⟩ := h; rw [e]; exact ⟨(by intro _ q; cases q), (by intro _ _ q; cases q), _, rfl, trivial⟩
  | dN xs => obtain ⟨vs, e, _⟩ := h; rw [e]; exact ⟨(by intro _ q; cases q), (by intro _ _ q; cases q), _, rfl, trivial⟩
  | ins c fs => obtain ⟨C, dx, vs, _, e, _⟩ := h; rw [e]; exact ⟨(by intro _ q; cases q), (by intro _ _ q; cases q), _, rfl, trivial⟩
theorem Sim.at_ {g : Gm} {H : Hp} {η : List Addr} {S : Sto} (s : Sim g H η S) {a : Addr} (h : a ∈ η) : ∃ (n : Nat) (o : Ob), S[n]? = some o ∧ η[n]? = some a ∧ ObR g H η a o := by
  obtain ⟨n, hn⟩ := List.mem_iff_getElem?.mp h
  have hl : n < S.length := by rw [← s.len]; obtain ⟨h, _⟩ := List.getElem?_eq_some_iff.mp hn; exact h
  exact ⟨n, S[n], by simp [hl], hn, s.ob n _ a (by simp [hl]) hn⟩
theorem Sim.noT {g : Gm} {H : Hp} {η : List Addr} {S : Sto} (s : Sim g H η S) {a : Addr} (h : a ∈ η) : (∀ xs, H a ≠ some (.tup xs)) ∧ (∀ o xs, H a ≠ some (.frz o xs)) ∧ (∃ u, H a = some u ∧ Mut (some u)) := by
  obtain ⟨_, _, _, _, h⟩ := s.at_ h
  exact h.noT
theorem Sim.fresh {g : Gm} {H : Hp} {η : List Addr} {S : Sto} (s : Sim g H η S) {p : Addr} (h : H p = none) : p ∉ η := fun q => by
  obtain ⟨_, _, u, e, _⟩ := s.noT q
  rw [h] at e; cases e

section
variable {g : Gm} {H H' : Hp} {η η' : List Addr} {S S' : Sto}
/-- tuples and locked things stay, handles stay -/
structure Tk (H : Hp) (η : List Addr) (H' : Hp) (η' : List Addr) : Prop where
  pre : ∃ t, η' = η ++ t
  kt : ∀ a xs, H a = some (.tup xs) → H' a = some (.tup xs)
  kf : ∀ a o u, H a = some (.frz o u) → H' a = some (.frz o u)
theorem Tk.get {H H' : Hp} {η η' : List Addr} (e : Tk H η H' η') {n : Nat} {a : Addr} (h : η[n]? = some a) : η'[n]? = some a := by
  obtain ⟨t, rfl⟩ := e.pre
  rw [List.getElem?_append_left (by obtain ⟨h, _⟩ := List.getElem?_eq_some_iff.mp h; exact h)]
  exact h
theorem sqT_mono (e : Tk H η H' η') {a : Addr} {vs : List V} (h : SqT g.K H a vs) : SqT g.K H' a vs := by
  rcases h with (h | ⟨o, h⟩) | h
  · exact .inl (.inl (e.kt a _ h))
  · exact .inl (.inr ⟨o, e.kf a _ _ h⟩)
  · exact .inr h
mutual
theorem RV.monoT (e : Tk H η H' η') : ∀ (d : D) (v : V), RV g H η d v → RV g H' η' d v
  | .non, _, h => by simpa only [RV] using h
  | .bl _, _, h => by simpa only [RV] using h
  | .int _, _, h => by simpa only [RV] using h
  | .str _, _, h => by simpa only [RV] using h
  | .tup ds, _, h => by
    simp only [RV] at h ⊢
    obtain ⟨a, vs, rfl, q, r⟩ := h
    exact ⟨a, vs, rfl, sqT_mono e q, RVs.monoT e ds vs r⟩
  | .fro ds, _, h => by
    simp only [RV] at h ⊢
    obtain ⟨a, vs, rfl, q, r⟩ := h
    refine ⟨a, vs, rfl, ?_, RVs.monoT e ds vs r⟩
    rcases q with ⟨o, q⟩ | q
    · exact .inl ⟨o, e.kf a _ _ q⟩
    · exact .inr q
  | .ref m, _, h => by
    simp only [RV] at h ⊢
    obtain ⟨a, rfl, q⟩ := h
    exact ⟨a, rfl, e.get q⟩
theorem RVs.monoT (e : Tk H η H' η') : ∀ (ds : List D) (vs : List V), RVs g H η ds vs → RVs g H' η' ds vs
  | [], _, h => by simpa only [RVs] using h
  | d :: ds, _, h => by
    simp only [RVs] at h ⊢
    obtain ⟨v, r, rfl, q, t⟩ := h
    exact ⟨v, r, rfl, RV.monoT e d v q, RVs.monoT e ds r t⟩
end
theorem RK.monoT {κ : Type} (e : Tk H η H' η') {xs : List (κ × D)} {ys : List (κ × V)} (h : RK g H η xs ys) : RK g H' η' xs ys := by
  induction h with
  | nil => exact .nil
  | cons a _ ih => exact .cons (a.monoT e) ih
theorem RN.monoT (e : Tk H η H' η') {xs ys} (h : RN g H η xs ys) : RN g H' η' xs ys := by
  induction h with
  | nil => exact .nil
  | cons a b c d f _ ih => exact .cons (a.monoT e) b c (d.monoT e) f ih
theorem ObR.monoT (e : Tk H η H' η') {a : Addr} (ha : H' a = H a) {o : Ob} (h : ObR g H η a o) : ObR g H' η' a o := by
  cases o with
  | lst xs => obtain ⟨vs, q, r⟩ := h; exact ⟨vs, ha.trans q, RVs.monoT e _ _ r⟩
  | dK xs => obtain ⟨vs, q, r⟩ := h; exact ⟨vs, ha.trans q, r.monoT e⟩
  | dN xs =>
    obtain ⟨ob, q, z, c, es, ep, ys, d1, d2, d3, r⟩ := h
    exact ⟨ob, ha.trans q, z, c, es, ep, ys, d1, d2, d3, r.monoT e⟩
  | ins c fs => obtain ⟨C, dx, vs, q, r, t⟩ := h; exact ⟨C, dx, vs, q, ha.trans r, t.monoT e⟩
theorem Sim.n (s : Sim g H η S) : ∀ a, a ∈ η → (∀ xs, H a ≠ some (.tup xs)) ∧ (∀ o xs, H a ≠ some (.frz o xs)) := fun a h => ⟨(s.noT h).1, (s.noT h).2.1⟩
theorem Sim.tk (s : Sim g H η S) (e : Ext H η H' η') : Tk H η H' η' := ⟨e.pre, fun a xs h => e.kp a _ h fun q => (s.n a q).1 _ h, fun a o u h => e.kp a _ h fun q => (s.n a q).2 _ _ h⟩
theorem RV.mono (s : Sim g H η S) (e : Ext H η H' η') {d : D} {v : V} (h : RV g H η d v) : RV g H' η' d v := RV.monoT (s.tk e) d v h
theorem RVs.mono (s : Sim g H η S) (e : Ext H η H' η') {ds : List D} {vs : List V} (h : RVs g H η ds vs) : RVs g H' η' ds vs := RVs.monoT (s.tk e) ds vs h
theorem RK.mono {κ : Type} (s : Sim g H η S) (e : Ext H η H' η') {xs : List (κ × D)} {ys : List (κ × V)} (h : RK g H η xs ys) : RK g H' η' xs ys := h.monoT (s.tk e)
theorem RN.mono (s : Sim g H η S) (e : Ext H η H' η') {xs ys} (h : RN g H η xs ys) : RN g H' η' xs ys := h.monoT (s.tk e)
theorem EnvR.mono (s : Sim g H η S) (e : Ext H η H' η') {ρ : Env} {σ : St} (h : EnvR g H η ρ σ) : EnvR g H' η' ρ σ :=
  ⟨h.len, fun i d q => let ⟨v, a, b⟩ := h.at_ i d q; ⟨v, a, b.mono s e⟩⟩
theorem ObR.mono (s : Sim g H η S) (e : Ext H η H' η') {a : Addr} (ha : H' a = H a) {o : Ob} (h : ObR g H η a o) : ObR g H' η' a o := h.monoT (s.tk e) ha

theorem RVs.length : ∀ {ds : List D} {vs : List V}, RVs g H η ds vs → vs.length = ds.length
  | [], _, h => by simp only [RVs] at h; subst h; rfl
  | d :: ds, _, h => by
    simp only [RVs] at h
    obtain ⟨v, r, rfl, _, t⟩ := h
    simp [RVs.length t]
theorem RVs.get : ∀ {ds : List D} {vs : List V} {i : Nat} {d : D}, RVs g H η ds vs → ds[i]? = some d → ∃ v, vs[i]? = some v ∧ RV g H η d v
  | [], _, _, _, _, e => by simp at e
  | d :: ds, _, i, _, h, e => by
    simp only [RVs] at h
    obtain ⟨v, r, rfl, q, t⟩ := h
    cases i with
    | zero => simp at e; subst e; exact ⟨v, by simp, q⟩
    | succ i => obtain ⟨v', a, b⟩ := RVs.get (i := i) t (by simpa using e); exact ⟨v', by simpa using a, b⟩
theorem RVs.append : ∀ {ds es : List D} {vs us : List V}, RVs g H η ds vs → RVs g H η es us → RVs g H η (ds ++ es) (vs ++ us)
  | [], _, _, _, h, k => by simp only [RVs] at h; subst h; simpa using k
  | d :: ds, _, _, _, h, k => by
    simp only [RVs] at h
    obtain ⟨v, r, rfl, q, t⟩ := h
    simp only [List.cons_append, RVs]
    exact ⟨v, _, rfl, q, RVs.append t k⟩
theorem RVs.one {d : D} {v : V} (h : RV g H η d v) : RVs g H η [d] [v] := by simp only [RVs]; exact ⟨v, [], rfl, h, rfl⟩
theorem RVs.take : ∀ {ds : List D} {vs : List V} (n : Nat), RVs g H η ds vs → RVs g H η (ds.take n) (vs.take n)
  | [], _, n, h => by simp only [RVs] at h; subst h; simp [RVs]
  | d :: ds, _, 0, _ => by simp [RVs]
  | d :: ds, _, n + 1, h => by
    simp only [RVs] at h
    obtain ⟨v, r, rfl, q, t⟩ := h
    simp only [List.take_succ_cons, RVs]
    exact ⟨v, _, rfl, q, RVs.take n t⟩
theorem RVs.drop : ∀ {ds : List D} {vs : List V} (n : Nat), RVs g H η ds vs → RVs g H η (ds.drop n) (vs.drop n)
  | [], _, n, h => by simp only [RVs] at h; subst h; simp [RVs]
  | d :: ds, _, 0, h => by simpa using h
  | d :: ds, _, n + 1, h => by
    simp only [RVs] at h
    obtain ⟨v, r, rfl, q, t⟩ := h
    simpa using RVs.drop n t
theorem RVs.set : ∀ {ds : List D} {vs : List V} {d : D} {v : V} (n : Nat), RVs g H η ds vs → RV g H η d v → RVs g H η (ds.set n d) (vs.set n v)
  | [], _, _, _, n, h, _ => by simp only [RVs] at h; subst h; simp [RVs]
  | d :: ds, _, _, _, 0, h, k => by
    simp only [RVs] at h
    obtain ⟨v, r, rfl, q, t⟩ := h
    simp only [List.set_cons_zero, RVs]
    exact ⟨_, _, rfl, k, t⟩
  | d :: ds, _, _, _, n + 1, h, k => by
    simp only [RVs] at h
    obtain ⟨v, r, rfl, q, t⟩ := h
    simp only [List.set_cons_succ, RVs]
    exact ⟨_, _, rfl, q, RVs.set n t k⟩
theorem RVs.nil : RVs g H η [] [] := by simp [RVs]
theorem RVs.cons {d : D} {v : V} {ds : List D} {vs : List V} (h : RV g H η d v) (t : RVs g H η ds vs) : RVs g H η (d :: ds) (v :: vs) := by
  simp only [RVs]; exact ⟨v, vs, rfl, h, t⟩

/-! ### how the store and the heap go on together -/
/-- nothing of the managed objects changes, what was tracked stays -/
theorem Sim.keep (s : Sim g H η S) (k : ∀ a o, H a = some o → H' a = some o) : Ext H η H' η ∧ Sim g H' η S := by
  have e : Ext H η H' η := ⟨⟨[], by simp⟩, fun a o h _ => k a o h, fun _ h => .inl h⟩
  refine ⟨e, s.len, s.nd, fun n o a h1 h2 => (s.ob n o a h1 h2).mono s e ?_⟩
  obtain ⟨_, _, u, q, _⟩ := (s.ob n o a h1 h2).noT
  rw [q, k a u q]
/-- a new tuple (or any new object that is not managed) -/
theorem Sim.newT (s : Sim g H η S) {p : Addr} (hp : H p = none) (o : HO) : Ext H η (upd H p o) η ∧ Sim g (upd H p o) η S :=
  s.keep fun a u h => by rw [upd_ne (ne_of_none h hp)]; exact h
/-- a new managed object -/
theorem Sim.newO (s : Sim g H η S) {p : Addr} (hp : H p = none) {o : HO} {ob : Ob} (h : ∀ H' η', Ext H η H' η' → H' p = some o → η'[S.length]? = some p → ObR g H' η' p ob) :
    Ext H η (upd H p o) (η ++ [p]) ∧ Sim g (upd H p o) (η ++ [p]) (S ++ [ob]) := by
  have e : Ext H η (upd H p o) (η ++ [p]) := ⟨⟨[p], rfl⟩, fun a u h _ => by rw [upd_ne (ne_of_none h hp)]; exact h, fun a m => by
    rcases List.mem_append.mp m with m | m
    · exact .inl m
    · rw [List.mem_singleton.mp m]; exact .inr hp⟩
  refine ⟨e, by simp [s.len], ?_, fun n u a h1 h2 => ?_⟩
  · rw [List.nodup_append]
    refine ⟨s.nd, by simp, fun a ha b hb => ?_⟩
    rw [List.mem_singleton.mp hb]
    exact fun z => s.fresh hp (z ▸ ha)
  · by_cases hn : n < S.length
    · rw [List.getElem?_append_left hn] at h1
      rw [List.getElem?_append_left (by rw [s.len]; exact hn)] at h2
      refine (s.ob n u a h1 h2).mono s e ?_
      obtain ⟨_, _, v, q, _⟩ := (s.ob n u a h1 h2).noT
      exact upd_ne (ne_of_none q hp)
    · have e1 : n = S.length := by
        have := (List.getElem?_eq_some_iff.mp h1).1
        simp at this; omega
      subst e1
      simp at h1
      rw [← s.len] at h2
      simp at h2
      subst h1; subst h2
      exact h _ _ e upd_same (by rw [← s.len]; simp)
/-- an object that was tracked and was no tuple is managed from now on, changed as well -/
theorem Sim.adopt (s : Sim g H η S) {p : Addr} (hn : p ∉ η) (ht : ∀ xs, H p ≠ some (.tup xs)) (hf : ∀ o u, H p ≠ some (.frz o u)) {o : HO} {ob : Ob} (h : Tk H η (upd H p o) (η ++ [p]) → ObR g (upd H p o) (η ++ [p]) p ob) :
    Tk H η (upd H p o) (η ++ [p]) ∧ Sim g (upd H p o) (η ++ [p]) (S ++ [ob]) := by
  have e : Tk H η (upd H p o) (η ++ [p]) := ⟨⟨[p], rfl⟩, fun a xs q => by rw [upd_ne (fun z : a = p => ht xs (by rw [← z]; exact q))]; exact q, fun a o' u q => by rw [upd_ne (fun z : a = p => hf o' u (by rw [← z]; exact q))]; exact q⟩
  refine ⟨e, by simp [s.len], ?_, fun n u a h1 h2 => ?_⟩
  · rw [List.nodup_append]
    refine ⟨s.nd, by simp, fun a ha b hb => ?_⟩
    rw [List.mem_singleton.mp hb]
    exact fun z => hn (z ▸ ha)
  · by_cases hl : n < S.length
    · rw [List.getElem?_append_left hl] at h1
      rw [List.getElem?_append_left (by rw [s.len]; exact hl)] at h2
      exact (s.ob n u a h1 h2).monoT e (upd_ne fun z => hn (z ▸ List.mem_of_getElem? h2))
    · have e1 : n = S.length := by
        have := (List.getElem?_eq_some_iff.mp h1).1
        simp at this; omega
      subst e1
      simp at h1
      rw [← s.len] at h2
      simp at h2
      subst h1; subst h2
      exact h e
/-- a managed object is changed -/
theorem Sim.put (s : Sim g H η S) {n : Nat} {a : Addr} (ha : η[n]? = some a) {o : HO} {ob : Ob} (h : ∀ H', Ext H η H' η → H' a = some o → ObR g H' η a ob) :
    Ext H η (upd H a o) η ∧ Sim g (upd H a o) η (S.set n ob) := by
  have hm : a ∈ η := List.mem_of_getElem? ha
  have e : Ext H η (upd H a o) η := ⟨⟨[], by simp⟩, fun b u q nb => by rw [upd_ne (fun z : b = a => nb (by rw [z]; exact hm))]; exact q, fun _ h => .inl h⟩
  have hn : n < S.length := by rw [← s.len]; exact (List.getElem?_eq_some_iff.mp ha).1
  refine ⟨e, by simp [s.len], s.nd, fun m u b h1 h2 => ?_⟩
  by_cases hmn : m = n
  · subst hmn
    rw [List.getElem?_set_self hn] at h1
    rw [ha] at h2
    cases h1; cases h2
    exact h _ e upd_same
  · rw [List.getElem?_set_ne (Ne.symm hmn)] at h1
    refine (s.ob m u b h1 h2).mono s e (upd_ne fun z => hmn ?_)
    subst z
    obtain ⟨l1, e1⟩ := List.getElem?_eq_some_iff.mp ha
    obtain ⟨l2, e2⟩ := List.getElem?_eq_some_iff.mp h2
    exact (List.getElem_inj s.nd).mp (e2.trans e1.symm)
end

/-- what is wanted of the value d and the store S' behind -/
def Kt (g : Gm) (H : Hp) (η : List Addr) (S' : Sto) (d : D) (Q : VK) : Prop := ∀ v H' η', Ext H η H' η' → Sim g H' η' S' → RV g H' η' d v → Q v H'
/-- an expression's reading by a plain function -/
def tD (g : Gm) (f : Env → M D) : TE := fun σ H Q => ∃ ρ η S d S', EnvR g H η ρ σ ∧ Sim g H η S ∧ f ρ S = some (d, S') ∧ Kt g H η S' d Q
def tDT (g : Gm) (f : Env → M Bool) : TT := fun σ H Q => ∃ ρ η S b S', EnvR g H η ρ σ ∧ Sim g H η S ∧ f ρ S = some (b, S') ∧ ∀ H' η', Ext H η H' η' → Sim g H' η' S' → Q b H'
def tDA (g : Gm) (f : Env → M (List D)) : TA := fun σ H Q => ∃ ρ η S ds S', EnvR g H η ρ σ ∧ Sim g H η S ∧ f ρ S = some (ds, S') ∧ ∀ vs H' η', Ext H η H' η' → Sim g H' η' S' → RVs g H' η' ds vs → Q vs H'
/-- how a statement ends -/
inductive Out where
  | nx | bk | ct | rt (d : D)
abbrev FS := Env → Sto → Option (Out × Env × Sto)
def Ko (g : Gm) (H : Hp) (η : List Addr) (o : Out) (ρ' : Env) (S' : Sto) (E : Ends) : Prop := ∀ σ' H' η', Ext H η H' η' → Sim g H' η' S' → EnvR g H' η' ρ' σ' →
  match o with
  | .nx => E.nx σ' H'
  | .bk => E.bk σ' H'
  | .ct => E.ct σ' H'
  | .rt d => ∀ v, RV g H' η' d v → E.rt v H'
def tDS (g : Gm) (f : FS) : TS := fun E σ H => ∃ ρ η S o ρ' S', EnvR g H η ρ σ ∧ Sim g H η S ∧ f ρ S = some (o, ρ', S') ∧ Ko g H η o ρ' S' E
/-- a target's reading -/
def tDG (g : Gm) (f : D → Env → Sto → Option (Env × Sto)) : TG := fun v σ H Q => ∃ ρ η S d ρ' S', EnvR g H η ρ σ ∧ Sim g H η S ∧ RV g H η d v ∧ f d ρ S = some (ρ', S') ∧ ∀ σ' H' η', Ext H η H' η' → Sim g H' η' S' → EnvR g H' η' ρ' σ' → Q σ' H'
/-- an operation on two values -/
def rD (g : Gm) (h : D → D → M D) : R2 := fun v u H Q => ∃ η S x y d S', Sim g H η S ∧ RV g H η x v ∧ RV g H η y u ∧ h x y S = some (d, S') ∧ Kt g H η S' d Q
/-- a call of a value with values -/
def rDc (g : Gm) (h : List D → M D) : List V → Hp → VK → Prop := fun vs H Q => ∃ η S xs d S', Sim g H η S ∧ RVs g H η xs vs ∧ h xs S = some (d, S') ∧ Kt g H η S' d Q

section
variable {X : Cx}
theorem PE.imp {e : Expr} {t t' : TE} (h : PE X e t) (i : ∀ σ H Q, t' σ H Q → t σ H Q) : PE X e t' := ⟨fun pins s σ H Q I q => h.run pins s σ H Q I (i σ H Q q)⟩
theorem PT.imp {e : Expr} {t t' : TT} (h : PT X e t) (i : ∀ σ H Q, t' σ H Q → t σ H Q) : PT X e t' := ⟨fun pins s σ H Q I q => h.run pins s σ H Q I (i σ H Q q)⟩
theorem PW.imp {e : Expr} {t t' : TT} (h : PW X e t) (i : ∀ σ H Q, t' σ H Q → t σ H Q) : PW X e t' := ⟨fun wh pins s σ H Q I q => h.run wh pins s σ H Q I (i σ H Q q)⟩
theorem PA.imp {e : List Expr} {t t' : TA} (h : PA X e t) (i : ∀ σ H Q, t' σ H Q → t σ H Q) : PA X e t' := ⟨fun pos pins s σ H Q I q => h.run pos pins s σ H Q I (i σ H Q q)⟩
theorem PS.imp {e : Stmt} {t t' : TS} (h : PS X e t) (i : ∀ E σ H, t' E σ H → t E σ H) : PS X e t' := ⟨fun pins s σ H E I q => h.run pins s σ H E I (i E σ H q)⟩
theorem PSs.imp {e : List Stmt} {t t' : TS} (h : PSs X e t) (i : ∀ E σ H, t' E σ H → t E σ H) : PSs X e t' := ⟨fun pins s σ H E I q => h.run pins s σ H E I (i E σ H q)⟩
theorem PG.imp {e : Expr} {t t' : TG} (h : PG X e t) (i : ∀ v σ H Q, t' v σ H Q → t v σ H Q) : PG X e t' := ⟨fun pins s σ H v u Q I r q => h.run pins s σ H v u Q I r (i v σ H Q q)⟩
theorem OpR.imp {f : Value → Value → Sem Value} {r r' : R2} (h : OpR X f r) (i : ∀ v u H Q, r' v u H Q → r v u H Q) : OpR X f r' := fun pins s σ H x y v u Q I r1 r2 q => h pins s σ H x y v u Q I r1 r2 (i x y H Q q)
theorem CallR.imp {f : Value} {r r' : List V → Hp → VK → Prop} (h : CallR X f r) (i : ∀ vs H Q, r' vs H Q → r vs H Q) : CallR X f r' := fun pins s σ H x v Q I r1 q => h pins s σ H x v Q I r1 (i x H Q q)
end
theorem EnvR.set {g : Gm} {H : Hp} {η : List Addr} {ρ : Env} {σ : St} (h : EnvR g H η ρ σ) (i : Nat) {d : D} {v : V} (r : RV g H η d v) : EnvR g H η (ρ.set i (some d)) (σ.set i (some v)) := by
  refine ⟨by simp [h.len], fun j e q => ?_⟩
  by_cases hj : i = j
  · subst hj
    by_cases hl : i < ρ.length
    · rw [List.getElem?_set_self hl] at q
      cases q
      exact ⟨v, by rw [List.getElem?_set_self (by rw [h.len]; exact hl)], r⟩
    · rw [List.getElem?_eq_none (by simpa using hl)] at q; cases q
  · rw [List.getElem?_set_ne hj] at q ⊢
    exact h.at_ j e q
end DL

set_option Elab.async false
set_option linter.all false
set_option maxRecDepth 100000
set_option maxHeartbeats 4000000
/-! DL2: expressions -/
namespace DL
open PySem PySem.Spec L2

def LINE : Nat := 16777216
theorem line_eq : sizeLine = LINE := sizeLine_eq

/-! ### plain functions -/
def bd {α β : Type} (f : M α) (k : α → M β) : M β := fun S => match f S with
  | some (a, S') => k a S'
  | none => none
def pu {α : Type} (a : α) : M α := fun S => some (a, S)
def no {α : Type} : M α := fun _ => none
theorem bd_some {α β : Type} {f : M α} {k : α → M β} {S : Sto} {r : β × Sto} (h : bd f k S = some r) : ∃ a S', f S = some (a, S') ∧ k a S' = some r := by
  unfold bd at h
  split at h
  · exact ⟨_, _, by assumption, h⟩
  · cases h
theorem bd_of {α β : Type} {f : M α} {k : α → M β} {S S' : Sto} {a : α} (h : f S = some (a, S')) : bd f k S = k a S' := by
  unfold bd; rw [h]

def fVar (i : Nat) : Env → M D := fun ρ S => match ρ[i]? with
  | some (some d) => some (d, S)
  | _ => none
def fC (d : D) : Env → M D := fun _ => pu d
def fNo : Env → M D := fun _ => no
def aNil : Env → M (List D) := fun _ => pu []
def aCons (f : Env → M D) (r : Env → M (List D)) : Env → M (List D) := fun ρ => bd (f ρ) fun x => bd (r ρ) fun xs => pu (x :: xs)
def fBin (h : D → D → M D) (f k : Env → M D) : Env → M D := fun ρ => bd (f ρ) fun x => bd (k ρ) fun y => h x y
def fCall (h : List D → M D) (r : Env → M (List D)) : Env → M D := fun ρ => bd (r ρ) h
def tupD (ds : List D) : M D := if ds.length ≤ LINE then pu (.tup ds) else no
/-- a new object of the store -/
def alloc (o : Ob) : M D := fun S => some (.ref S.length, S ++ [o])
def lstD (ds : List D) : M D := if ds.length ≤ LINE then alloc (.lst ds) else no
def fIf (t : Env → M Bool) (f k : Env → M D) : Env → M D := fun ρ => bd (t ρ) fun b => if b = true then f ρ else k ρ
/-- truth -/
def truD (d : D) : M Bool := fun S => match d with
  | .non => some (false, S)
  | .bl b => some (b, S)
  | .int i => some (i != 0, S)
  | .str x => if x.length ≤ LINE then some ((x.length : Int) != 0, S) else none
  | .tup ds => some (!ds.isEmpty, S)
  | .fro ds => some (!ds.isEmpty, S)
  | .ref n => match S[n]? with
    | some (.lst xs) => some (!xs.isEmpty, S)
    | some (.dK kvs) => some (!kvs.isEmpty, S)
    | _ => none
def blD (d : D) : M Bool := match d with
  | .bl b => pu b
  | _ => no
def fTru (f : Env → M D) : Env → M Bool := fun ρ => bd (f ρ) truD
def fBl (f : Env → M D) : Env → M Bool := fun ρ => bd (f ρ) blD
def tAnd' (t u : Env → M Bool) : Env → M Bool := fun ρ => bd (t ρ) fun b => if b = true then u ρ else pu false
def tOr' (t u : Env → M Bool) : Env → M Bool := fun ρ => bd (t ρ) fun b => if b = true then pu true else u ρ
def tNot' (t : Env → M Bool) : Env → M Bool := fun ρ => bd (t ρ) fun b => pu (!b)
def fAnd (f k : Env → M D) : Env → M D := fun ρ => bd (f ρ) fun x => bd (truD x) fun b => if b = true then k ρ else pu x
def fOr (f k : Env → M D) : Env → M D := fun ρ => bd (f ρ) fun x => bd (truD x) fun b => if b = true then pu x else k ρ
def fNot (f : Env → M D) : Env → M D := fun ρ => bd (f ρ) fun x => bd (truD x) fun b => pu (.bl (!b))

abbrev gm (c : Str → Option Addr) (X : Cx) : Gm := ⟨X.K, X.prog, X.w, c⟩

section
variable {c : Str → Option Addr} {X : Cx} {pos : Pos} {e a b : Expr} {es : List Expr}

theorem de_var (i : Nat) {x : Str} (hN : X.N[i]? = some x := by rfl) (hv : Vis X.env.scope x := by first | exact Or.inl rfl | exact Or.inr (Or.inl rfl) | exact Or.inr (Or.inr rfl)) (hd : (x == ("__debug__" : Str)) = false := by decide)
    (hcd : (x == ("__classdict__" : Str)) = false := by decide) : PE X (.Name x pos) (tD (gm c X) (fVar i)) := by
  refine PE.imp (pe_var hN hv hd hcd) fun σ H Q h => ?_
  obtain ⟨ρ, η, S, d, S', er, si, ef, k⟩ := h
  unfold fVar at ef
  split at ef
  · rename_i d' q
    cases ef
    obtain ⟨v, e1, r⟩ := er.at_ i _ q
    exact ⟨v, e1, k v H η (Ext.refl _ _) si r⟩
  · cases ef
theorem de_c {v : V} {d : D} (h : PE X e (tC v)) (r : ∀ H η, RV (gm c X) H η d v) : PE X e (tD (gm c X) (fC d)) := by
  refine PE.imp h fun σ H Q h => ?_
  obtain ⟨ρ, η, S, d', S', er, si, ef, k⟩ := h
  cases ef
  exact k v H η (Ext.refl _ _) si (r H η)
theorem de_int {i j} : PE X (.Constant (.int i) j pos) (tD (gm c X) (fC (.int i))) := de_c pe_int fun _ _ => by simp only [RV]
theorem de_str {x j} : PE X (.Constant (.str x) j pos) (tD (gm c X) (fC (.str x))) := de_c pe_str fun _ _ => by simp only [RV]
theorem de_bl {x j} : PE X (.Constant (.bool x) j pos) (tD (gm c X) (fC (.bl x))) := de_c pe_bl fun _ _ => by simp only [RV]
theorem de_non {j} : PE X (.Constant .none j pos) (tD (gm c X) (fC .non)) := de_c pe_non fun _ _ => by simp only [RV]
/-- a constant of the module -/
theorem de_glob {x : Str} {u : Value} {v : V} {d : D} (hg : Gl X x) (hm : X.mg x = some u) (rv : RelV v u) (r : ∀ H η, RV (gm c X) H η d v) (hd : (x == ("__debug__" : Str)) = false := by decide) : PE X (.Name x pos) (tD (gm c X) (fC d)) :=
  de_c (pe_glob hg hm rv hd) r
theorem de_no : PE X e (tD (gm c X) fNo) := ⟨fun pins s σ H Q I h => by
  obtain ⟨ρ, η, S, d', S', er, si, ef, k⟩ := h
  cases ef⟩

/-! ### argument lists, displays -/
theorem da_nil : PA X [] (tDA (gm c X) aNil) := by
  refine PA.imp pa_nil fun σ H Q h => ?_
  obtain ⟨ρ, η, S, ds, S', er, si, ef, k⟩ := h
  cases ef
  exact k [] H η (Ext.refl _ _) si RVs.nil
theorem da_cons {f : Env → M D} {r : Env → M (List D)} (ha : PE X e (tD (gm c X) f)) (hr : PA X es (tDA (gm c X) r)) (hs : starEach (e :: es) X.env = (false, eval e X.env) :: starEach es X.env := by rfl) : PA X (e :: es) (tDA (gm c X) (aCons f r)) := by
  refine PA.imp (pa_cons ha hr hs) fun σ H Q h => ?_
  obtain ⟨ρ, η, S, ds, S', er, si, ef, k⟩ := h
  obtain ⟨x, S1, e1, ef⟩ := bd_some ef
  obtain ⟨xs, S2, e2, ef⟩ := bd_some ef
  cases ef
  refine ⟨ρ, η, S, x, S1, er, si, e1, fun v H1 η1 x1 s1 r1 => ?_⟩
  refine ⟨ρ, η1, S1, xs, _, er.mono si x1, s1, e2, fun vs H2 η2 x2 s2 r2 => ?_⟩
  exact k (v :: vs) H2 η2 (x1.trans x2) s2 (.cons (r1.mono s1 x2) r2)
theorem de_tup {k : Nat} {r : Env → M (List D)} (h : PA X es (tDA (gm c X) r)) : PE X (.Tuple es k pos) (tD (gm c X) (fCall tupD r)) := by
  refine PE.imp (pe_tup h) fun σ H Q h => ?_
  obtain ⟨ρ, η, S, d, S', er, si, ef, k⟩ := h
  obtain ⟨xs, S1, e1, ef⟩ := bd_some ef
  refine ⟨ρ, η, S, xs, S1, er, si, e1, fun vs H1 η1 x1 s1 r1 => ?_⟩
  unfold tupD at ef
  split at ef
  · rename_i hl
    cases ef
    refine ⟨by rw [r1.length, line_eq]; exact hl, fun p hp => ?_⟩
    obtain ⟨x2, s2⟩ := s1.newT hp (.tup vs)
    refine k _ _ η1 (x1.trans x2) s2 ?_
    simp only [RV]
    exact ⟨p, vs, rfl, SqT.of upd_same, r1.mono s1 x2⟩
  · cases ef
theorem de_lst {r : Env → M (List D)} (h : PA X es (tDA (gm c X) r)) : PE X (.List es pos) (tD (gm c X) (fCall lstD r)) := by
  refine PE.imp (pe_lst h) fun σ H Q h => ?_
  obtain ⟨ρ, η, S, d, S', er, si, ef, k⟩ := h
  obtain ⟨xs, S1, e1, ef⟩ := bd_some ef
  refine ⟨ρ, η, S, xs, S1, er, si, e1, fun vs H1 η1 x1 s1 r1 => ?_⟩
  unfold lstD at ef
  split at ef
  · rename_i hl
    cases ef
    refine ⟨by rw [r1.length, line_eq]; exact hl, fun p hp => ?_⟩
    obtain ⟨x2, s2⟩ := s1.newO (o := .lst vs) (ob := .lst xs) hp fun H' η' x h1 _ => ⟨vs, h1, r1.mono s1 x⟩
    refine k _ _ _ (x1.trans x2) s2 ?_
    simp only [RV]
    exact ⟨p, rfl, by rw [← s1.len]; simp⟩
  · cases ef

/-! ### operators, comparisons -/
theorem bin_run {f k : Env → M D} {h : D → D → M D} {r : R2} (i : ∀ v u H Q, rD (gm c X) h v u H Q → r v u H Q) {σ : L2.St} {H : Hp} {Q : VK} (hq : tD (gm c X) (fBin h f k) σ H Q) : tOp r (tD (gm c X) f) (tD (gm c X) k) σ H Q := by
  obtain ⟨ρ, η, S, d, S', er, si, ef, kk⟩ := hq
  obtain ⟨x, S1, e1, ef⟩ := bd_some ef
  obtain ⟨y, S2, e2, ef⟩ := bd_some ef
  refine ⟨ρ, η, S, x, S1, er, si, e1, fun v H1 η1 x1 s1 r1 => ?_⟩
  refine ⟨ρ, η1, S1, y, S2, er.mono si x1, s1, e2, fun u H2 η2 x2 s2 r2 => ?_⟩
  refine i _ _ _ _ ⟨η2, S2, x, y, d, S', s2, r1.mono s1 x2, r2, ef, fun w H3 η3 x3 s3 r3 => ?_⟩
  exact kk w H3 η3 ((x1.trans x2).trans x3) s3 r3
theorem de_op {op : Operator} {h : D → D → M D} {f k : Env → M D} (ho : OpR X (binaryOp op) (rD (gm c X) h)) (ha : PE X a (tD (gm c X) f)) (hb : PE X b (tD (gm c X) k)) : PE X (.BinOp a op b pos) (tD (gm c X) (fBin h f k)) :=
  PE.imp (pe_op ho ha hb) fun _ _ _ q => bin_run (fun _ _ _ _ z => z) q
theorem de_cmp {op : CmpOp} {h : D → D → M D} {f k : Env → M D} (ho : OpR X (compareOp op) (rD (gm c X) h)) (ha : PE X a (tD (gm c X) f)) (hb : PE X b (tD (gm c X) k)) (hm : behindInMarks op b = false := by first | exact nomark _ | rfl) :
    PE X (.Compare a [op] [b] pos) (tD (gm c X) (fBin h f k)) :=
  PE.imp (pe_cmpR ho ha hb hm) fun _ _ _ q => bin_run (fun _ _ _ _ z => z) q
theorem dt_cmp {op : CmpOp} {h : D → D → M D} {f k : Env → M D} (ho : OpR X (compareOp op) (rD (gm c X) h)) (ha : PE X a (tD (gm c X) f)) (hb : PE X b (tD (gm c X) k)) (hm : behindInMarks op b = false := by first | exact nomark _ | rfl) :
    PT X (.Compare a [op] [b] pos) (tDT (gm c X) (fBl (fBin h f k))) := by
  refine PT.imp (pt_cmpR ho ha hb hm) fun σ H Q q => ?_
  obtain ⟨ρ, η, S, t, S', er, si, ef, kk⟩ := q
  obtain ⟨x, S1, e1, ef⟩ := bd_some ef
  refine bin_run (fun _ _ _ _ z => z) ⟨ρ, η, S, x, S1, er, si, e1, fun v H' η' x1 s1 r1 => ?_⟩
  cases x with
  | bl b' =>
    simp only [RV] at r1
    subst r1
    cases ef
    exact ⟨_, rfl, kk H' η' x1 s1⟩
  | _ => cases ef
/-- a op1 b op2 c -/
def fChain (h h' : D → D → M D) (f k l : Env → M D) : Env → M D := fun ρ => bd (f ρ) fun x => bd (k ρ) fun y => bd (h x y) fun z => bd (blD z) fun q => if q = true then bd (l ρ) fun w => h' y w else pu (.bl false)
theorem chain_run {cc : Expr} {h h' : D → D → M D} {f k l : Env → M D} {σ : L2.St} {H : Hp} {Q : VK} (hq : tD (gm c X) (fChain h h' f k l) σ H Q) : tChain (rD (gm c X) h) (rD (gm c X) h') (tD (gm c X) f) (tD (gm c X) k) (tD (gm c X) l) σ H Q := by
  obtain ⟨ρ, η, S, d, S', er, si, ef, kk⟩ := hq
  obtain ⟨x, S1, e1, ef⟩ := bd_some ef
  obtain ⟨y, S2, e2, ef⟩ := bd_some ef
  obtain ⟨z, S3, e3, ef⟩ := bd_some ef
  obtain ⟨q, S4, e4, ef⟩ := bd_some ef
  refine ⟨ρ, η, S, x, S1, er, si, e1, fun v H1 η1 x1 s1 r1 => ?_⟩
  refine ⟨ρ, η1, S1, y, S2, er.mono si x1, s1, e2, fun u H2 η2 x2 s2 r2 => ?_⟩
  refine ⟨η2, S2, x, y, z, S3, s2, r1.mono s1 x2, r2, e3, fun w H3 η3 x3 s3 r3 => ?_⟩
  cases z with
  | bl b' =>
    simp only [RV] at r3
    subst r3
    cases e4
    refine ⟨_, rfl, ?_⟩
    cases q with
    | true =>
      simp only [if_true] at ef ⊢
      obtain ⟨y2, S5, e5, ef⟩ := bd_some ef
      refine ⟨ρ, η3, S3, y2, S5, er.mono si ((x1.trans x2).trans x3), s3, e5, fun w2 H4 η4 x4 s4 r4 => ?_⟩
      exact ⟨η4, S5, y, y2, d, S', s4, (r2.mono s2 x3).mono s3 x4, r4, ef, fun w3 H5 η5 x5 s5 r5 => kk w3 H5 η5 ((((x1.trans x2).trans x3).trans x4).trans x5) s5 r5⟩
    | false =>
      simp only [Bool.false_eq_true, if_false] at ef ⊢
      cases ef
      exact kk _ H3 η3 ((x1.trans x2).trans x3) s3 (by simp only [RV])
  | _ => cases e4
theorem de_chain {cc : Expr} {op op' : CmpOp} {h h' : D → D → M D} {f k l : Env → M D} (ho : OpR X (compareOp op) (rD (gm c X) h)) (ho' : OpR X (compareOp op') (rD (gm c X) h')) (ha : PE X a (tD (gm c X) f)) (hb : PE X b (tD (gm c X) k)) (hc : PE X cc (tD (gm c X) l))
    (hm : lastMarks [op, op'] [b, cc] = false := by with_unfolding_all rfl) : PE X (.Compare a [op, op'] [b, cc] pos) (tD (gm c X) (fChain h h' f k l)) :=
  PE.imp (pe_chain ho ho' ha hb hc hm) fun _ _ _ q => chain_run (cc := cc) q
theorem dt_chain {cc : Expr} {op op' : CmpOp} {h h' : D → D → M D} {f k l : Env → M D} (ho : OpR X (compareOp op) (rD (gm c X) h)) (ho' : OpR X (compareOp op') (rD (gm c X) h')) (ha : PE X a (tD (gm c X) f)) (hb : PE X b (tD (gm c X) k)) (hc : PE X cc (tD (gm c X) l))
    (hm : lastMarks [op, op'] [b, cc] = false := by with_unfolding_all rfl) : PT X (.Compare a [op, op'] [b, cc] pos) (tDT (gm c X) (fBl (fChain h h' f k l))) := by
  refine PT.imp (pt_chain ho ho' ha hb hc hm) fun σ H Q q => ?_
  obtain ⟨ρ, η, S, t, S', er, si, ef, kk⟩ := q
  obtain ⟨x, S1, e1, ef⟩ := bd_some ef
  refine chain_run (cc := cc) ⟨ρ, η, S, x, S1, er, si, e1, fun v H' η' x1 s1 r1 => ?_⟩
  cases x with
  | bl b' =>
    simp only [RV] at r1
    subst r1
    cases ef
    exact ⟨_, rfl, kk H' η' x1 s1⟩
  | _ => cases ef

/-! ### tests -/
theorem tru_run {x : D} {v : V} {H : Hp} {η : List Addr} {S S' : Sto} {b' : Bool} (s : Sim (gm c X) H η S) (r : RV (gm c X) H η x v) (e1 : truD x S = some (b', S')) : S' = S ∧ TruV X.K v H b' := by
  cases x with
  | non => simp only [RV] at r; subst r; cases e1; exact ⟨rfl, rfl⟩
  | bl q => simp only [RV] at r; subst r; cases e1; exact ⟨rfl, rfl⟩
  | int i => simp only [RV] at r; subst r; cases e1; exact ⟨rfl, rfl⟩
  | str z =>
    simp only [RV] at r; subst r
    simp only [truD] at e1
    split at e1
    · rename_i hl
      cases e1
      exact ⟨rfl, by rw [line_eq]; exact hl, rfl⟩
    · cases e1
  | tup ds =>
    simp only [RV] at r
    obtain ⟨p, vs, rfl, q, t⟩ := r
    cases e1
    refine ⟨rfl, .inr (.inl ⟨vs, q, ?_⟩)⟩
    have := t.length
    cases ds <;> cases vs <;> simp_all
  | fro ds =>
    simp only [RV] at r
    obtain ⟨p, vs, rfl, q, t⟩ := r
    cases e1
    refine ⟨rfl, .inl ⟨vs, ?_, ?_⟩⟩
    · rcases q with ⟨o, q⟩ | q
      · exact .inl (.inr ⟨o, q⟩)
      · exact q H
    · have := t.length
      cases ds <;> cases vs <;> simp_all
  | ref n =>
    simp only [RV] at r
    obtain ⟨p, rfl, hp⟩ := r
    simp only [truD] at e1
    split at e1
    · rename_i xs q
      cases e1
      obtain ⟨vs, h1, h2⟩ := s.ob _ _ _ q hp
      refine ⟨rfl, .inl ⟨vs, SqL.of h1, ?_⟩⟩
      have := h2.length
      cases xs <;> cases vs <;> simp_all
    · rename_i xs q
      cases e1
      obtain ⟨vs, h1, h2⟩ := s.ob _ _ _ q hp
      refine ⟨rfl, .inr (.inr ⟨vs, h1, ?_⟩)⟩
      cases h2 <;> rfl
    · cases e1
theorem dt_truth {f : Env → M D} (ha : PE X a (tD (gm c X) f)) (he : ∀ whole, isTrue a X.env whole = (do let v ← whole; standAt a.pos; holding [v] (truthy v)) := by intro _; rfl) : PT X a (tDT (gm c X) (fTru f)) := by
  refine PT.imp (pt_truth ha he) fun σ H Q q => ?_
  obtain ⟨ρ, η, S, t, S', er, si, ef, kk⟩ := q
  obtain ⟨x, S1, e1, ef⟩ := bd_some ef
  refine ⟨ρ, η, S, x, S1, er, si, e1, fun v H' η' x1 s1 r1 => ?_⟩
  obtain ⟨rfl, h⟩ := tru_run s1 r1 ef
  exact ⟨t, h, kk H' η' x1 s1⟩
theorem dt_not {t : Env → M Bool} (ha : PT X a (tDT (gm c X) t)) : PT X (.UnaryOp .Not a pos) (tDT (gm c X) (tNot' t)) := by
  refine PT.imp (pt_not ha) fun σ H Q q => ?_
  obtain ⟨ρ, η, S, t, S', er, si, ef, kk⟩ := q
  obtain ⟨x, S1, e1, ef⟩ := bd_some ef
  cases ef
  exact ⟨ρ, η, S, x, _, er, si, e1, kk⟩
theorem dw_and1 {t : Env → M Bool} (ha : PT X a (tDT (gm c X) t)) : PW X (.BoolOp .And [a] pos) (tDT (gm c X) t) := pw_and1 ha
theorem dw_or1 {t : Env → M Bool} (ha : PT X a (tDT (gm c X) t)) : PW X (.BoolOp .Or [a] pos) (tDT (gm c X) t) := pw_or1 ha
theorem dw_and {rest : List Expr} {t u : Env → M Bool} (ha : PT X a (tDT (gm c X) t)) (hb : PW X (.BoolOp .And (b :: rest) pos) (tDT (gm c X) u)) : PW X (.BoolOp .And (a :: b :: rest) pos) (tDT (gm c X) (tAnd' t u)) := by
  refine PW.imp (pw_and ha hb) fun σ H Q q => ?_
  obtain ⟨ρ, η, S, t, S', er, si, ef, kk⟩ := q
  obtain ⟨x, S1, e1, ef⟩ := bd_some ef
  refine ⟨ρ, η, S, x, S1, er, si, e1, fun H' η' x1 s1 => ?_⟩
  cases x with
  | true =>
    simp only [if_true] at ef ⊢
    exact ⟨ρ, η', S1, t, S', er.mono si x1, s1, ef, fun H2 η2 x2 s2 => kk H2 η2 (x1.trans x2) s2⟩
  | false =>
    simp only [Bool.false_eq_true, if_false] at ef ⊢
    cases ef
    exact kk H' η' x1 s1
theorem dw_or {rest : List Expr} {t u : Env → M Bool} (ha : PT X a (tDT (gm c X) t)) (hb : PW X (.BoolOp .Or (b :: rest) pos) (tDT (gm c X) u)) : PW X (.BoolOp .Or (a :: b :: rest) pos) (tDT (gm c X) (tOr' t u)) := by
  refine PW.imp (pw_or ha hb) fun σ H Q q => ?_
  obtain ⟨ρ, η, S, t, S', er, si, ef, kk⟩ := q
  obtain ⟨x, S1, e1, ef⟩ := bd_some ef
  refine ⟨ρ, η, S, x, S1, er, si, e1, fun H' η' x1 s1 => ?_⟩
  cases x with
  | false =>
    simp only [Bool.false_eq_true, if_false] at ef ⊢
    exact ⟨ρ, η', S1, t, S', er.mono si x1, s1, ef, fun H2 η2 x2 s2 => kk H2 η2 (x1.trans x2) s2⟩
  | true =>
    simp only [if_true] at ef ⊢
    cases ef
    exact kk H' η' x1 s1
/-! ### and, or, not as values; a if t else b -/
theorem de_one {op} {f : Env → M D} (h : PE X a (tD (gm c X) f)) : PE X (.BoolOp op [a] pos) (tD (gm c X) f) := pe_one h
theorem de_and {rest : List Expr} {f k : Env → M D} (ha : PE X a (tD (gm c X) f)) (hb : PE X (.BoolOp .And (b :: rest) pos) (tD (gm c X) k)) : PE X (.BoolOp .And (a :: b :: rest) pos) (tD (gm c X) (fAnd f k)) := by
  refine PE.imp (pe_andT ha hb) fun σ H Q q => ?_
  obtain ⟨ρ, η, S, t, S', er, si, ef, kk⟩ := q
  obtain ⟨x, S1, e1, ef⟩ := bd_some ef
  obtain ⟨y, S2, e2, ef⟩ := bd_some ef
  refine ⟨ρ, η, S, x, S1, er, si, e1, fun v H' η' x1 s1 r1 => ?_⟩
  obtain ⟨rfl, h⟩ := tru_run s1 r1 e2
  refine ⟨y, h, ?_⟩
  cases y with
  | true =>
    simp only [if_true] at ef ⊢
    exact ⟨ρ, η', _, t, S', er.mono si x1, s1, ef, fun v2 H2 η2 x2 s2 r2 => kk v2 H2 η2 (x1.trans x2) s2 r2⟩
  | false =>
    simp only [Bool.false_eq_true, if_false] at ef ⊢
    cases ef
    exact kk v H' η' x1 s1 r1
theorem de_or {rest : List Expr} {f k : Env → M D} (ha : PE X a (tD (gm c X) f)) (hb : PE X (.BoolOp .Or (b :: rest) pos) (tD (gm c X) k)) : PE X (.BoolOp .Or (a :: b :: rest) pos) (tD (gm c X) (fOr f k)) := by
  refine PE.imp (pe_orT ha hb) fun σ H Q q => ?_
  obtain ⟨ρ, η, S, t, S', er, si, ef, kk⟩ := q
  obtain ⟨x, S1, e1, ef⟩ := bd_some ef
  obtain ⟨y, S2, e2, ef⟩ := bd_some ef
  refine ⟨ρ, η, S, x, S1, er, si, e1, fun v H' η' x1 s1 r1 => ?_⟩
  obtain ⟨rfl, h⟩ := tru_run s1 r1 e2
  refine ⟨y, h, ?_⟩
  cases y with
  | false =>
    simp only [Bool.false_eq_true, if_false] at ef ⊢
    exact ⟨ρ, η', _, t, S', er.mono si x1, s1, ef, fun v2 H2 η2 x2 s2 r2 => kk v2 H2 η2 (x1.trans x2) s2 r2⟩
  | true =>
    simp only [if_true] at ef ⊢
    cases ef
    exact kk v H' η' x1 s1 r1
theorem de_not {f : Env → M D} (ha : PE X a (tD (gm c X) f)) : PE X (.UnaryOp .Not a pos) (tD (gm c X) (fNot f)) := by
  refine PE.imp (pe_notT ha) fun σ H Q q => ?_
  obtain ⟨ρ, η, S, t, S', er, si, ef, kk⟩ := q
  obtain ⟨x, S1, e1, ef⟩ := bd_some ef
  obtain ⟨y, S2, e2, ef⟩ := bd_some ef
  cases ef
  refine ⟨ρ, η, S, x, S1, er, si, e1, fun v H' η' x1 s1 r1 => ?_⟩
  obtain ⟨rfl, h⟩ := tru_run s1 r1 e2
  exact ⟨y, h, kk _ H' η' x1 s1 (by simp only [RV])⟩
theorem de_if {cc : Expr} {t : Env → M Bool} {f k : Env → M D} (hc : PT X cc (tDT (gm c X) t)) (ha : PE X a (tD (gm c X) f)) (hb : PE X b (tD (gm c X) k)) : PE X (.IfExp cc a b pos) (tD (gm c X) (fIf t f k)) := by
  refine PE.imp (pe_ifExp hc ha hb) fun σ H Q q => ?_
  obtain ⟨ρ, η, S, t, S', er, si, ef, kk⟩ := q
  obtain ⟨x, S1, e1, ef⟩ := bd_some ef
  refine ⟨ρ, η, S, x, S1, er, si, e1, fun H' η' x1 s1 => ?_⟩
  cases x with
  | false =>
    simp only [Bool.false_eq_true, if_false] at ef ⊢
    exact ⟨ρ, η', _, t, S', er.mono si x1, s1, ef, fun v2 H2 η2 x2 s2 r2 => kk v2 H2 η2 (x1.trans x2) s2 r2⟩
  | true =>
    simp only [if_true] at ef ⊢
    exact ⟨ρ, η', _, t, S', er.mono si x1, s1, ef, fun v2 H2 η2 x2 s2 r2 => kk v2 H2 η2 (x1.trans x2) s2 r2⟩
/-! ### built-in functions, types -/
theorem call_run {h : List D → M D} {rr : Env → M (List D)} {r : List V → Hp → VK → Prop} (i : ∀ vs H Q, rDc (gm c X) h vs H Q → r vs H Q) {σ : L2.St} {H : Hp} {Q : VK} (hq : tD (gm c X) (fCall h rr) σ H Q) : tCB r (tDA (gm c X) rr) σ H Q := by
  obtain ⟨ρ, η, S, d, S', er, si, ef, kk⟩ := hq
  obtain ⟨xs, S1, e1, ef⟩ := bd_some ef
  exact ⟨ρ, η, S, xs, S1, er, si, e1, fun vs H1 η1 x1 s1 r1 => i _ _ _ ⟨η1, S1, xs, d, S', s1, r1, ef, fun v2 H2 η2 x2 s2 r2 => kk v2 H2 η2 (x1.trans x2) s2 r2⟩⟩
theorem de_callB {x : Str} {id : String} {p : Pos} {h : List D → M D} {r : Env → M (List D)} (hc : CallR X (.builtin id) (rDc (gm c X) h)) (hg : Gl X x) (hm : X.mg x = none) (hv : bootBuiltins x = some (.builtin id)) (ha : PA X (e :: es) (tDA (gm c X) r)) (hn : x ≠ "__name__" := by decide) (hdb : (x == ("__debug__" : Str)) = false := by decide)
    (he : starEach (e :: es) X.env = (false, eval e X.env) :: starEach es X.env := by rfl) (hpl : (backTo pos (starEach es X.env)).any (·.1) = false := by rfl) : PE X (.Call (.Name x p) (e :: es) [] pos) (tD (gm c X) (fCall h r)) :=
  PE.imp (pe_callB hc hg hm hv ha hn hdb he hpl) fun _ _ _ q => call_run (fun _ _ _ z => z) q
theorem de_callTy {x : Str} {T : String} {p : Pos} {h : List D → M D} {r : Env → M (List D)} (hc : CallR X (.type T) (rDc (gm c X) h)) (hg : Gl X x) (hm : X.mg x = none) (hv : bootBuiltins x = some (.type T)) (ha : PA X (e :: es) (tDA (gm c X) r)) (hn : x ≠ "__name__" := by decide) (hdb : (x == ("__debug__" : Str)) = false := by decide)
    (he : starEach (e :: es) X.env = (false, eval e X.env) :: starEach es X.env := by rfl) (hpl : (backTo pos (starEach es X.env)).any (·.1) = false := by rfl) : PE X (.Call (.Name x p) (e :: es) [] pos) (tD (gm c X) (fCall h r)) :=
  PE.imp (pe_callTy hc hg hm hv ha hn hdb he hpl) fun _ _ _ q => call_run (fun _ _ _ z => z) q
end
end DL

set_option Elab.async false
set_option linter.all false
set_option maxRecDepth 100000
set_option maxHeartbeats 4000000
/-! DL3: operations on values -/
namespace DL
open PySem PySem.Spec L2

/-! ### data without handles, as the library's data -/
mutual
def D.pd : D → Option PyData
  | .non => some .none
  | .bl b => some (.bool b)
  | .int i => some (.int i)
  | .str x => some (.str x)
  | .tup ds => match D.pds ds with
    | some xs => some (.tuple xs)
    | none => none
  | .fro ds => match D.pds ds with
    | some xs => some (.list xs)
    | none => none
  | .ref _ => none
def D.pds : List D → Option (List PyData)
  | [] => some []
  | d :: ds => match D.pd d, D.pds ds with
    | some x, some xs => some (x :: xs)
    | _, _ => none
end
section
variable {g : Gm} {H : Hp} {η : List Addr}
mutual
theorem RV.dp : ∀ (d : D) (v : V) (x : PyData), RV g H η d v → d.pd = some x → Dp g.K H v x
  | .non, _, _, h, e => by simp only [RV] at h; simp only [D.pd] at e; cases e; subst h; exact .non
  | .bl _, _, _, h, e => by simp only [RV] at h; simp only [D.pd] at e; cases e; subst h; exact .bl _
  | .int _, _, _, h, e => by simp only [RV] at h; simp only [D.pd] at e; cases e; subst h; exact .int _
  | .str _, _, _, h, e => by simp only [RV] at h; simp only [D.pd] at e; cases e; subst h; exact .str _
  | .tup ds, _, _, h, e => by
    simp only [RV] at h
    obtain ⟨a, vs, rfl, q, r⟩ := h
    simp only [D.pd] at e
    split at e
    · rename_i xs e1
      cases e
      exact .tup q (RVs.dp ds vs xs r e1)
    · cases e
  | .fro ds, _, _, h, e => by
    simp only [RV] at h
    obtain ⟨a, vs, rfl, q, r⟩ := h
    simp only [D.pd] at e
    split at e
    · rename_i xs e1
      cases e
      refine .lst ?_ (RVs.dp ds vs xs r e1)
      rcases q with ⟨o, q⟩ | q
      · exact .inl (.inr ⟨o, q⟩)
      · exact q H
    · cases e
  | .ref _, _, _, _, e => by simp only [D.pd] at e; cases e
theorem RVs.dp : ∀ (ds : List D) (vs : List V) (xs : List PyData), RVs g H η ds vs → D.pds ds = some xs → DpAll g.K H vs xs
  | [], _, _, h, e => by simp only [RVs] at h; simp only [D.pds] at e; cases e; subst h; exact .nil
  | d :: ds, _, _, h, e => by
    simp only [RVs] at h
    obtain ⟨v, r, rfl, q, t⟩ := h
    simp only [D.pds] at e
    split at e
    · rename_i x xs e1 e2
      cases e
      exact .cons (RV.dp d v x q e1) (RVs.dp ds r xs t e2)
    · cases e
end
end
/-- with the lists of the store that hold plain data -/
def pdS (S : Sto) (d : D) : Option PyData := match d with
  | .ref n => match S[n]? with
    | some (.lst xs) => (D.pds xs).map .list
    | _ => none
  | d => d.pd
theorem RV.dpS {g : Gm} {H : Hp} {η : List Addr} {S : Sto} (s : Sim g H η S) {d : D} {v : V} {x : PyData} (h : RV g H η d v) (e : pdS S d = some x) : Dp g.K H v x := by
  cases d with
  | ref n =>
    simp only [RV] at h
    obtain ⟨a, rfl, q⟩ := h
    simp only [pdS] at e
    split at e
    · rename_i xs e1
      obtain ⟨vs, h1, h2⟩ := s.ob _ _ _ e1 q
      obtain ⟨ys, e2, rfl⟩ := Option.map_eq_some_iff.mp e
      exact .lst (SqL.of h1) (RVs.dp xs vs ys h2 e2)
    · cases e
  | _ => exact RV.dp _ _ _ h e

/-! ### rules by cases -/
section
variable {c : Str → Option Addr} {X : Cx}
/-- the end of an operation that hands back a scalar and changes nothing -/
theorem Kt.at_ {g : Gm} {H : Hp} {η : List Addr} {S : Sto} {d : D} {v : V} {Q : VK} (s : Sim g H η S) (k : Kt g H η S d Q) (r : RV g H η d v) : Q v H := k v H η (Ext.refl _ _) s r
theorem Kt.tup {g : Gm} {H : Hp} {η : List Addr} {S : Sto} {ds : List D} {vs : List V} {Q : VK} (s : Sim g H η S) (k : Kt g H η S (.tup ds) Q) (r : RVs g H η ds vs) {p : Addr} (hp : H p = none) : Q (.ref p) (upd H p (.tup vs)) := by
  obtain ⟨x2, s2⟩ := s.newT hp (.tup vs)
  refine k _ _ η x2 s2 ?_
  simp only [RV]
  exact ⟨p, vs, rfl, SqT.of upd_same, r.mono s x2⟩
theorem Kt.lst {g : Gm} {H : Hp} {η : List Addr} {S : Sto} {ds : List D} {vs : List V} {Q : VK} (s : Sim g H η S) (k : Kt g H η (S ++ [.lst ds]) (.ref S.length) Q) (r : RVs g H η ds vs) {p : Addr} (hp : H p = none) : Q (.ref p) (upd H p (.lst vs)) := by
  obtain ⟨x2, s2⟩ := s.newO (o := .lst vs) (ob := .lst ds) hp fun H' η' x h1 _ => ⟨vs, h1, r.mono s x⟩
  refine k _ _ _ x2 s2 ?_
  simp only [RV]
  exact ⟨p, rfl, by rw [← s.len]; simp⟩

def addD (x y : D) : M D := fun S => match x, y with
  | .int i, .int j => some (.int (i + j), S)
  | .int i, .bl k => some (.int (i + PyProof.Rows.b2i k), S)
  | .str i, .str j => if i.length + j.length ≤ LINE then some (.str (i ++ j), S) else none
  | .tup xs, .tup ys => if xs.length + ys.length ≤ LINE then some (.tup (xs ++ ys), S) else none
  | .ref n, .ref m => match S[n]?, S[m]? with
    | some (.lst xs), some (.lst ys) => if xs.length + ys.length ≤ LINE then some (.ref S.length, S ++ [.lst (xs ++ ys)]) else none
    | _, _ => none
  | _, _ => none
theorem op_addD : OpR X (binaryOp .Add) (rD (gm c X) addD) := by
  intro pins s σ H xv yv v u Q I rx ry h
  obtain ⟨η, S, x, y, d, S', si, r1, r2, ef, k⟩ := h
  unfold addD at ef
  split at ef
  · cases ef
    simp only [RV] at r1 r2; subst r1; subst r2
    exact op_add pins s σ H _ _ v u Q I rx ry ⟨_, _, rfl, rfl, k.at_ si (by simp only [RV])⟩
  · cases ef
    simp only [RV] at r1 r2; subst r1; subst r2
    exact op_add_ib pins s σ H _ _ v u Q I rx ry ⟨_, _, rfl, rfl, k.at_ si (by simp only [RV])⟩
  · split at ef
    · rename_i hl
      cases ef
      simp only [RV] at r1 r2; subst r1; subst r2
      exact op_add_str pins s σ H _ _ v u Q I rx ry ⟨_, _, rfl, rfl, by rw [line_eq]; exact hl, k.at_ si (by simp only [RV])⟩
    · cases ef
  · split at ef
    · rename_i xs ys hl
      cases ef
      have r1' := r1; have r2' := r2
      simp only [RV] at r1 r2
      obtain ⟨a, vs, rfl, q1, t1⟩ := r1
      obtain ⟨b, us, rfl, q2, t2⟩ := r2
      refine op_catA pins s σ H _ _ v u Q I rx ry ⟨a, b, vs, us, rfl, rfl, q1, q2, by rw [t1.length, t2.length, line_eq]; exact hl, fun e => ?_, fun e e' => ?_, fun _ _ p hp => k.tup si (t1.append t2) hp⟩
      · have : xs = [] := by have := t1.length; subst e; cases xs <;> simp_all
        subst this
        exact k.at_ si r2'
      · have : ys = [] := by have := t2.length; subst e'; cases ys <;> simp_all
        subst this
        exact k.at_ si (by rw [List.append_nil]; exact r1')
    · cases ef
  · split at ef
    · rename_i n m _ _ xs ys e1 e2
      split at ef
      · rename_i hl
        cases ef
        simp only [RV] at r1 r2
        obtain ⟨a, rfl, q1⟩ := r1
        obtain ⟨b, rfl, q2⟩ := r2
        obtain ⟨vs, h1, t1⟩ := si.ob _ _ _ e1 q1
        obtain ⟨us, h2, t2⟩ := si.ob _ _ _ e2 q2
        exact op_cat pins s σ H _ _ v u Q I rx ry ⟨a, b, vs, us, rfl, rfl, h1, h2, by rw [t1.length, t2.length, line_eq]; exact hl, fun p hp => k.lst si (t1.append t2) hp⟩
      · cases ef
    · cases ef
  · cases ef
def subD (x y : D) : M D := fun S => match x, y with
  | .int i, .int j => some (.int (i - j), S)
  | _, _ => none
theorem op_subD : OpR X (binaryOp .Sub) (rD (gm c X) subD) := by
  intro pins s σ H xv yv v u Q I rx ry h
  obtain ⟨η, S, x, y, d, S', si, r1, r2, ef, k⟩ := h
  unfold subD at ef
  split at ef
  · cases ef
    simp only [RV] at r1 r2; subst r1; subst r2
    exact op_sub pins s σ H _ _ v u Q I rx ry ⟨_, _, rfl, rfl, k.at_ si (by simp only [RV])⟩
  · cases ef
def small64 (i : Int) : Bool := decide (-(2 ^ 64) < i) && decide (i < 2 ^ 64)
theorem small64_ok {i : Int} (h : small64 i = true) : -(2 ^ 64) < i ∧ i < 2 ^ 64 := by
  unfold small64 at h
  rw [Bool.and_eq_true, decide_eq_true_eq, decide_eq_true_eq] at h
  exact h
def modD (x y : D) : M D := fun S => match x, y with
  | .int i, .int j => if 0 < j then some (.int (i % j), S) else none
  | _, _ => none
theorem op_modD : OpR X (binaryOp .Mod) (rD (gm c X) modD) := by
  intro pins s σ H xv yv v u Q I rx ry h
  obtain ⟨η, S, x, y, d, S', si, r1, r2, ef, k⟩ := h
  unfold modD at ef
  split at ef
  · split at ef
    · rename_i hj
      cases ef
      simp only [RV] at r1 r2; subst r1; subst r2
      exact op_mod pins s σ H _ _ v u Q I rx ry ⟨_, _, rfl, rfl, hj, k.at_ si (by simp only [RV])⟩
    · cases ef
  · cases ef
def fdivD (x y : D) : M D := fun S => match x, y with
  | .int i, .int j => if 0 < j ∧ j < 1073741824 then some (.int (i / j), S) else none
  | _, _ => none
theorem op_fdivD : OpR X (binaryOp .FloorDiv) (rD (gm c X) fdivD) := by
  intro pins s σ H xv yv v u Q I rx ry h
  obtain ⟨η, S, x, y, d, S', si, r1, r2, ef, k⟩ := h
  unfold fdivD at ef
  split at ef
  · split at ef
    · rename_i hj
      cases ef
      simp only [RV] at r1 r2; subst r1; subst r2
      exact op_fdiv pins s σ H _ _ v u Q I rx ry ⟨_, _, rfl, rfl, hj, k.at_ si (by simp only [RV])⟩
    · cases ef
  · cases ef
theorem iop_fdivD : PIp X .FloorDiv (rD (gm c X) fdivD) := by
  intro pins s σ H xv yv v u Q I rx ry h
  obtain ⟨η, S, x, y, d, S', si, r1, r2, ef, k⟩ := h
  unfold fdivD at ef
  split at ef
  · split at ef
    · rename_i hj
      cases ef
      simp only [RV] at r1 r2; subst r1; subst r2
      exact iop_fdiv pins s σ H _ _ v u Q I rx ry ⟨_, _, rfl, rfl, hj, k.at_ si (by simp only [RV])⟩
    · cases ef
  · cases ef
def powD (x y : D) : M D := fun S => match x, y with
  | .int i, .int j => if 0 ≤ j ∧ j ≤ 1000000 ∧ i.natAbs < 2 ^ 64 then some (.int (i ^ j.toNat), S) else none
  | _, _ => none
theorem op_powD : OpR X (binaryOp .Pow) (rD (gm c X) powD) := by
  intro pins s σ H xv yv v u Q I rx ry h
  obtain ⟨η, S, x, y, d, S', si, r1, r2, ef, k⟩ := h
  unfold powD at ef
  split at ef
  · split at ef
    · rename_i hj
      cases ef
      simp only [RV] at r1 r2; subst r1; subst r2
      exact op_pow pins s σ H _ _ v u Q I rx ry ⟨_, _, rfl, rfl, hj, k.at_ si (by simp only [RV])⟩
    · cases ef
  · cases ef

/-! ### comparisons -/
def ltD (p : Int → Int → Bool) (x y : D) : M D := fun S => match x, y with
  | .int i, .int j => some (.bl (p i j), S)
  | _, _ => none
theorem cmpI {op : CmpOp} {p : Int → Int → Bool} (h0 : OpR X (compareOp op) (rI0 fun i j => .bl (p i j))) : OpR X (compareOp op) (rD (gm c X) (ltD p)) := by
  intro pins s σ H xv yv v u Q I rx ry h
  obtain ⟨η, S, x, y, d, S', si, r1, r2, ef, k⟩ := h
  unfold ltD at ef
  split at ef
  · cases ef
    simp only [RV] at r1 r2; subst r1; subst r2
    exact h0 pins s σ H _ _ v u Q I rx ry ⟨_, _, rfl, rfl, k.at_ si (by simp only [RV])⟩
  · cases ef
theorem op_ltD : OpR X (compareOp .Lt) (rD (gm c X) (ltD fun i j => decide (i < j))) := cmpI op_lt
theorem op_leD : OpR X (compareOp .LtE) (rD (gm c X) (ltD fun i j => decide (i ≤ j))) := cmpI op_le
theorem op_gtD : OpR X (compareOp .Gt) (rD (gm c X) (ltD fun i j => decide (j < i))) := cmpI op_gt
theorem op_geD : OpR X (compareOp .GtE) (rD (gm c X) (ltD fun i j => decide (j ≤ i))) := cmpI op_ge
/-- == of what holds no handle (one list deep) -/
def eqB (S : Sto) (x y : D) : Option Bool := match x, y with
  | .int i, .int j => some (decide (i = j))
  | .str i, .str j => some (decide (i = j))
  | .bl i, .bl j => some (decide (i = j))
  | x, y => match pdS S x, pdS S y with
    | some p, some q => if SeqAt.shaped p = true ∧ SeqAt.shaped q = true then some (PyData.eqv p q) else none
    | _, _ => none
def eqD' (f : Bool → Bool) (x y : D) : M D := fun S => match eqB S x y with
  | some b => some (.bl (f b), S)
  | none => none
theorem eq_run {op : CmpOp} {f : Bool → Bool} (h0 : OpR X (compareOp op) (fun x y H Q => scal x y = true ∧ Q (.bl (f (decide (x = y)))) H)) (h1 : OpR X (compareOp op) (fun x y H Q => ∃ d e, Dp X.K H x d ∧ Dp X.K H y e ∧ SeqAt.shaped d = true ∧ SeqAt.shaped e = true ∧ Q (.bl (f (PyData.eqv d e))) H)) :
    OpR X (compareOp op) (rD (gm c X) (eqD' f)) := by
  intro pins s σ H xv yv v u Q I rx ry h
  obtain ⟨η, S, x, y, d, S', si, r1, r2, ef, k⟩ := h
  unfold eqD' at ef
  split at ef
  · rename_i b eb
    cases ef
    unfold eqB at eb
    split at eb
    · cases eb
      simp only [RV] at r1 r2; subst r1; subst r2
      exact h0 pins s σ H _ _ v u Q I rx ry ⟨rfl, k.at_ si (by simp [RV])⟩
    · cases eb
      simp only [RV] at r1 r2; subst r1; subst r2
      exact h0 pins s σ H _ _ v u Q I rx ry ⟨rfl, k.at_ si (by simp [RV])⟩
    · cases eb
      simp only [RV] at r1 r2; subst r1; subst r2
      exact h0 pins s σ H _ _ v u Q I rx ry ⟨rfl, k.at_ si (by simp [RV])⟩
    · split at eb
      · rename_i p q e1 e2
        split at eb
        · rename_i hs
          cases eb
          exact h1 pins s σ H _ _ v u Q I rx ry ⟨p, q, r1.dpS si e1, r2.dpS si e2, hs.1, hs.2, k.at_ si (by simp only [RV])⟩
        · cases eb
      · cases eb
  · cases ef
def eqD : D → D → M D := eqD' fun b => b
def neD : D → D → M D := eqD' fun b => !b
theorem op_eqDD (hu : X.A.units + 64 < cLine) : OpR X (compareOp .Eq) (rD (gm c X) eqD) := eq_run op_eq (op_eqD hu)
theorem op_neDD (hu : X.A.units + 64 < cLine) : OpR X (compareOp .NotEq) (rD (gm c X) neD) := eq_run op_ne (op_neD hu)

/-! ### in -/
def keyF : D → Option Key
  | .int i => some (.inl i)
  | .str x => some (.inr x)
  | _ => none
def inB (S : Sto) (x y : D) : Option Bool := match y with
  | .str z => match x with
    | .str a => some (!(Builtin.Str.occurrences z a 0 z.length 1).isEmpty)
    | _ => none
  | .ref n => match S[n]? with
    | some (.lst ys) => match x.pd, D.pds ys with
      | some p, some qs => if SeqAt.shaped p = true ∧ SeqAt.shaped (.list qs) = true then some (qs.any fun z => PyData.eqv z p) else none
      | _, _ => none
    | some (.dK kvs) => match keyF x with
      | some k => some (kvs.any fun p => decide (p.1 = k))
      | none => none
    | some (.dN kvs) => match x with
      | .tup ds => match (D.tup ds).key with
        | some k => if k.depth ≤ 8 then some (kvs.any fun p => decide (p.1 = k)) else none
        | none => none
      | _ => none
    | _ => none
  | .tup ys => match x.pd, D.pds ys with
    | some p, some qs => if SeqAt.shaped p = true ∧ SeqAt.shaped (.tuple qs) = true then some (qs.any fun z => PyData.eqv z p) else none
    | _, _ => none
  | _ => none
end
end DL

set_option Elab.async false
set_option linter.all false
set_option maxRecDepth 100000
set_option maxHeartbeats 4000000
/-! DL4: in, subscripts, dicts -/
namespace DL
open PySem PySem.Spec L2
open PyProof.Rows hiding St

section
variable {κ : Type} [DecidableEq κ]
def getK (kvs : List (κ × D)) (k : κ) : Option D := (kvs.find? fun p => decide (p.1 = k)).map (·.2)
def putD (kvs : List (κ × D)) (k : κ) (d : D) : List (κ × D) := if (kvs.any fun p => decide (p.1 = k)) = true then kvs.map (fun p => if p.1 = k then (p.1, d) else p) else kvs ++ [(k, d)]
variable {g : Gm} {H : Hp} {η : List Addr}
theorem RK.length {kvs : List (κ × D)} {vs : List (κ × V)} (r : RK g H η kvs vs) : vs.length = kvs.length := by
  induction r with
  | nil => rfl
  | cons _ _ ih => simp [ih]
theorem RK.any {kvs : List (κ × D)} {vs : List (κ × V)} (r : RK g H η kvs vs) (k : κ) : (kvs.any fun p => decide (p.1 = k)) = (vs.any fun p => decide (p.1 = k)) := by
  induction r with
  | nil => rfl
  | cons _ _ ih => simp only [List.any_cons, ih]
theorem RK.get {kvs : List (κ × D)} {vs : List (κ × V)} (r : RK g H η kvs vs) {k : κ} {d : D} (h : getK kvs k = some d) : ∃ v, valV vs k = some v ∧ RV g H η d v := by
  induction r with
  | nil => cases h
  | @cons k' d' v' r s a b ih =>
    by_cases e : k' = k
    · have q : d' = d := by simpa [getK, List.find?_cons, e] using h
      subst q
      exact ⟨v', valV_pos e, a⟩
    · rw [valV_neg e]
      exact ih (by simpa [getK, List.find?_cons, e] using h)
theorem RK.get0 {kvs : List (κ × D)} {vs : List (κ × V)} (r : RK g H η kvs vs) {k : κ} (h : getK kvs k = none) : valV vs k = none := by
  induction r with
  | nil => rfl
  | @cons k' d' v' r s a b ih =>
    by_cases e : k' = k
    · simp [getK, List.find?_cons, e] at h
    · rw [valV_neg e]
      exact ih (by simpa [getK, List.find?_cons, e] using h)
theorem RK.snoc {kvs : List (κ × D)} {vs : List (κ × V)} (r : RK g H η kvs vs) {k : κ} {d : D} {v : V} (rv : RV g H η d v) : RK g H η (kvs ++ [(k, d)]) (vs ++ [(k, v)]) := by
  induction r with
  | nil => exact .cons rv .nil
  | cons a _ ih => exact .cons a ih
theorem RK.repl {kvs : List (κ × D)} {vs : List (κ × V)} (r : RK g H η kvs vs) (k : κ) {d : D} {v : V} (rv : RV g H η d v) : RK g H η (kvs.map (fun p => if p.1 = k then (p.1, d) else p)) (vs.map (fun kv => if kv.1 = k then (kv.1, v) else kv)) := by
  induction r with
  | nil => exact .nil
  | @cons k' d' v' r s a b ih =>
    simp only [List.map_cons]
    by_cases e : k' = k
    · rw [if_pos e, if_pos e]; exact .cons rv ih
    · rw [if_neg e, if_neg e]; exact .cons a ih
theorem RK.put {kvs : List (κ × D)} {vs : List (κ × V)} (r : RK g H η kvs vs) (k : κ) {d : D} {v : V} (rv : RV g H η d v) : RK g H η (putD kvs k d) (putK vs k v) := by
  unfold putD putK
  rw [r.any k]
  split
  · exact r.repl k rv
  · exact r.snoc rv
theorem anyGet (k : κ) : ∀ kvs : List (κ × D), (kvs.any fun p => decide (p.1 = k)) = (getK kvs k).isSome
  | [] => rfl
  | p :: r => by
    by_cases e : p.1 = k
    · simp [getK, List.find?_cons, e]
    · simpa [getK, List.find?_cons, e] using anyGet k r
end
section
variable {g : Gm} {H : Hp} {η : List Addr}
theorem RN.length {kvs xs} (r : RN g H η kvs xs) : xs.length = kvs.length := by
  induction r with
  | nil => rfl
  | cons _ _ _ _ _ _ ih => simp [ih]
theorem RN.get {kvs xs} (r : RN g H η kvs xs) {k : NestedKey} {d : D} (h : getK kvs k = some d) : ∃ b u v, atKey xs k = some (b, u) ∧ RelV v u ∧ RV g H η d v := by
  induction r with
  | nil => cases h
  | @cons k' d' b kd v u r s a b1 b2 a2 a3 t ih =>
    by_cases e : k' = k
    · have q : d' = d := by simpa [getK, List.find?_cons, e] using h
      subst q
      exact ⟨b, u, v, by simp [atKey, List.find?_cons, e], a3, a2⟩
    · obtain ⟨b', u', v', h1, h2⟩ := ih (by simpa [getK, List.find?_cons, e] using h)
      exact ⟨b', u', v', by simpa [atKey, List.find?_cons, e] using h1, h2⟩
theorem RN.get0 {kvs xs} (r : RN g H η kvs xs) (k : NestedKey) : (atKey xs k).isSome = (getK kvs k).isSome := by
  induction r with
  | nil => rfl
  | @cons k' d' b kd v u r s a b1 b2 a2 a3 t ih =>
    by_cases e : k' = k
    · simp [getK, atKey, List.find?_cons, e]
    · simpa [getK, atKey, List.find?_cons, e] using ih
theorem RN.snoc {kvs xs} (r : RN g H η kvs xs) {k : NestedKey} {d kd : D} {v : V} {u : Value} {b : Addr} (h1 : RV g H η kd (.ref b)) (h2 : kd.key = some k) (h3 : k.depth ≤ 8) (h4 : RV g H η d v) (h5 : RelV v u) : RN g H η (kvs ++ [(k, d)]) (xs ++ [(k, b, u)]) := by
  induction r with
  | nil => exact .cons h1 h2 h3 h4 h5 .nil
  | cons a b c d' e _ ih => exact .cons a b c d' e ih
theorem RN.repl {kvs xs} (r : RN g H η kvs xs) (k : NestedKey) {d : D} {v : V} {u : Value} (h4 : RV g H η d v) (h5 : RelV v u) : RN g H η (kvs.map (fun p => if p.1 = k then (p.1, d) else p)) (xs.map (putAt k u)) := by
  induction r with
  | nil => exact .nil
  | @cons k' d' b' kd' v' u' r s a b1 b2 a2 a3 t ih =>
    simp only [List.map_cons]
    by_cases e : k' = k
    · rw [if_pos e]; simp only [putAt, if_pos e]; exact .cons a b1 b2 h4 h5 ih
    · rw [if_neg e]; simp only [putAt, if_neg e]; exact .cons a b1 b2 a2 a3 ih
theorem RN.put {kvs xs} (r : RN g H η kvs xs) {k : NestedKey} {d kd : D} {v : V} {u : Value} {b : Addr} (h1 : RV g H η kd (.ref b)) (h2 : kd.key = some k) (h3 : k.depth ≤ 8) (h4 : RV g H η d v) (h5 : RelV v u) :
    RN g H η (putD kvs k d) (storedH xs k b u) := by
  unfold putD storedH
  rw [anyGet, ← r.get0 k]
  split
  · exact r.repl k h4 h5
  · exact r.snoc h1 h2 h3 h4 h5
end

/-! ### keys -/
section
variable {c : Str → Option Addr} {X : Cx} {pins : List (Addr × Obj)} {σ : L2.St} {H : Hp} {s : Shared} {η : List Addr}
mutual
theorem RV.nested (I : Inv X pins σ H s) : ∀ (d : D) (v : V) (u : Value) (k : NestedKey), RV (gm c X) H η d v → RelV v u → d.key = some k → NestedIs s.heap k u
  | .non, _, _, _, h, r, e => by simp only [RV] at h; subst h; simp only [D.key] at e; cases e; cases r; exact .none
  | .bl b, _, _, _, h, r, e => by simp only [RV] at h; subst h; simp only [D.key] at e; cases e; cases r; exact .bool rfl
  | .int i, _, _, _, h, r, e => by simp only [RV] at h; subst h; simp only [D.key] at e; cases e; obtain ⟨t, rfl⟩ := r; exact .int _ _
  | .str x, _, _, _, h, r, e => by simp only [RV] at h; subst h; simp only [D.key] at e; cases e; obtain ⟨t, rfl⟩ := r; exact .text _ _
  | .tup ds, _, _, _, h, r, e => by
    simp only [RV] at h
    obtain ⟨a, vs, rfl, q, t⟩ := h
    simp only [D.key] at e
    split at e
    · rename_i ks e1
      cases e
      cases r
      obtain ⟨its, rv, ⟨o, ho, hc, n, hd⟩, _⟩ := I.tuple q
      exact .tup ho hc hd (by simpa using RVs.nested I ds vs its ks t rv e1)
    · cases e
  | .fro _, _, _, _, _, _, e => by simp only [D.key] at e; cases e
  | .ref _, _, _, _, _, _, e => by simp only [D.key] at e; cases e
theorem RVs.nested (I : Inv X pins σ H s) : ∀ (ds : List D) (vs : List V) (us : List Value) (ks : List NestedKey), RVs (gm c X) H η ds vs → Vals vs us → D.keys ds = some ks → NestedAll s.heap ks us
  | [], _, _, _, h, r, e => by simp only [RVs] at h; subst h; simp only [D.keys] at e; cases e; cases r; exact .nil
  | d :: ds, _, _, _, h, r, e => by
    simp only [RVs] at h
    obtain ⟨v, r', rfl, q, t⟩ := h
    simp only [D.keys] at e
    split at e
    · rename_i k ks e1 e2
      cases e
      cases r with
      | cons r1 r2 => exact .cons (RV.nested I d v _ k q r1 e1) (RVs.nested I ds r' _ ks t r2 e2)
    · cases e
end
theorem RV.isKey (I : Inv X pins σ H s) {d : D} {b : Addr} {k : NestedKey} (h : RV (gm c X) H η d (.ref b)) (e : d.key = some k) (hd : k.depth ≤ 8) : (nestedKind X.prog X.w).is s.heap k b := ⟨RV.nested I d _ _ k h rfl e, hd⟩
/-- the dict at a as the library has it -/
theorem dn_of (I : Inv X pins σ H s) {a : Addr} {kvs : List (NestedKey × D)} (h : ObR (gm c X) H η a (.dN kvs)) : (a == sysModules) = false ∧ ∃ xs, s.heap.DictOfH (nestedKind X.prog X.w) a xs ∧ RN (gm c X) H η kvs xs := by
  obtain ⟨o, e, hs, ex, es, ep, xs, h1, h2, h3, r⟩ := h
  obtain ⟨q, _, _⟩ := (show ObjOk X.prog X.w H s.heap a (.ext fun h => h.get? a = some o) from I.hok a _ e)
  refine ⟨hs, xs, ⟨o, es, ep, q, ex, h1, h2, fun x hx => ?_, h3⟩, r⟩
  clear h1 h2 h3
  induction r with
  | nil => cases hx
  | cons a1 a2 a3 _ _ _ ih =>
    rcases List.mem_cons.mp hx with z | z
    · subst z; exact RV.isKey I a1 a2 a3
    · exact ih z
end
/-- what the dict o says behind -/
theorem dn_mk {g : Gm} {H : Hp} {η : List Addr} {h : Heap} {a : Addr} {kvs : List (NestedKey × D)} {xs} (hm : h.DictOfH (nestedKind g.P g.w) a xs) (r : RN g H η kvs xs) : ∃ o, h.get? a = some o ∧ DN g H η o kvs := by
  obtain ⟨o, es, ep, q, ex, h1, h2, _, h3⟩ := hm
  exact ⟨o, q, ex, es, ep, xs, h1, h2, h3, r⟩

/-! ### in, not in -/
section
variable {c : Str → Option Addr} {X : Cx}
def inD' (f : Bool → Bool) (x y : D) : M D := fun S => match inB S x y with
  | some b => some (.bl (f b), S)
  | none => none
def inD : D → D → M D := inD' fun b => b
def ninD : D → D → M D := inD' fun b => !b
theorem keyF_is {g : Gm} {H : Hp} {η : List Addr} {d : D} {v : V} {k : Key} (r : RV g H η d v) (e : keyF d = some k) : v = kV k := by
  cases d <;> simp only [keyF] at e <;> first | (cases e; simp only [RV] at r; subst r; rfl) | cases e
theorem tuple_in {K : PySem.W.Frag} (hu : X.A.units + 65 < cLine) {pins : List (Addr × Obj)} {σ : L2.St} {H : Hp} {s : Shared} (I : Inv X pins σ H s) {x : V} {y : Addr} {u : Value} {d : PyData} {ds : List PyData} (hd : Dp X.K H x d) (he : Dp X.K H (.ref y) (.tuple ds)) (rx : RelV x u)
    (sd : SeqAt.shaped d = true) (se : SeqAt.shaped (.tuple ds) = true) {Q : Value → Shared → Prop} : (Q (.bool (ds.any fun z => PyData.eqv z d)) s → wpAny (model X.prog X.w) X.A (compareOp .In u (.ref y)) Q X.xe s) ∧ (Q (.bool (!ds.any fun z => PyData.eqv z d)) s → wpAny (model X.prog X.w) X.A (compareOp .NotIn u (.ref y)) Q X.xe s) := by
  obtain ⟨as, r1⟩ := Dp.reads I d x u hd rx
  obtain ⟨bs, r2⟩ := Dp.reads I (.tuple ds) (.ref y) (.ref y) he rfl
  exact ⟨fun q => SeqAt.in_tuple_reads r2 r1 (SeqAt.canLay_of_shaped se) (SeqAt.canLay_of_shaped sd) (room_in_shaped sd hu) q, fun q => SeqAt.notIn_tuple_reads r2 r1 (SeqAt.canLay_of_shaped se) (SeqAt.canLay_of_shaped sd) (room_in_shaped sd hu) q⟩
theorem in_run {op : CmpOp} {f : Bool → Bool} (hop : (op = .In ∧ f = fun b => b) ∨ (op = .NotIn ∧ f = fun b => !b)) (hu : X.A.units + 65 < cLine) (hn : (nestedKind X.prog X.w).room X.A.in1) : OpR X (compareOp op) (rD (gm c X) (inD' f)) := by
  intro pins s σ H xv yv v u Q I rx ry h
  obtain ⟨η, S, x, y, d, S', si, r1, r2, ef, k⟩ := h
  unfold inD' at ef
  split at ef
  · rename_i b eb
    cases ef
    have k' : Q (.bl (f b)) H := k.at_ si (by simp only [RV])
    clear k
    unfold inB at eb
    split at eb
    · -- a text
      split at eb
      · cases eb
        simp only [RV] at r1 r2; subst r1; subst r2
        rcases hop with ⟨rfl, rfl⟩ | ⟨rfl, rfl⟩
        · exact op_in_str pins s σ H _ _ v u Q I rx ry ⟨_, _, rfl, rfl, k'⟩
        · exact op_notin_str pins s σ H _ _ v u Q I rx ry ⟨_, _, rfl, rfl, k'⟩
      · cases eb
    · have r2' := r2
      simp only [RV] at r2
      obtain ⟨a, rfl, qa⟩ := r2
      split at eb
      · rename_i n ys e1
        split at eb
        · rename_i p qs e2 e3
          split at eb
          · rename_i hs
            cases eb
            have h1 := r1.dp _ _ _ e2
            have h2 : Dp X.K H (.ref a) (.list qs) := r2'.dpS si (x := .list qs) (by simp only [pdS, e1, e3, Option.map_some])
            rcases hop with ⟨rfl, rfl⟩ | ⟨rfl, rfl⟩
            · exact op_inD hu pins s σ H _ _ v u Q I rx ry ⟨p, qs, h1, h2, hs.1, hs.2, k'⟩
            · exact op_notInD hu pins s σ H _ _ v u Q I rx ry ⟨p, qs, h1, h2, hs.1, hs.2, k'⟩
          · cases eb
        · cases eb
      · rename_i n kvs e1
        split at eb
        · rename_i ky e2
          cases eb
          have ex := keyF_is r1 e2
          subst ex
          obtain ⟨vs, h1, h2⟩ := si.ob _ _ _ e1 qa
          have hu1 : X.A.units + 1 < cLine := by omega
          have eq : (valV vs ky).isSome = kvs.any fun p => decide (p.1 = ky) := by rw [h2.any ky, valV_any]
          cases ry
          rcases hop with ⟨rfl, rfl⟩ | ⟨rfl, rfl⟩
          · exact d_in hu1 I (DGet.k h1) rx fun s' I' => ⟨.bl _, H, I', rfl, by rw [eq]; exact k'⟩
          · exact d_notIn hu1 I (DGet.k h1) rx fun s' I' => ⟨.bl _, H, I', rfl, by rw [eq]; exact k'⟩
        · cases eb
      · rename_i n kvs e1
        split at eb
        · rename_i ds
          split at eb
          · rename_i ky e2
            split at eb
            · rename_i hd8
              cases eb
              have r1' := r1
              simp only [RV] at r1
              obtain ⟨b, vs, rfl, _, _⟩ := r1
              cases rx
              cases ry
              obtain ⟨hs, xs, hm, hr⟩ := dn_of I (si.ob _ _ _ e1 qa)
              have eq : (atKey xs ky).isSome = kvs.any fun p => decide (p.1 = ky) := by rw [hr.get0 ky, anyGet]
              rcases hop with ⟨rfl, rfl⟩ | ⟨rfl, rfl⟩
              · exact wpAny_in_heap hn (r1'.isKey I e2 hd8) hs hm ⟨.bl _, H, I.tok _, rfl, by rw [eq]; exact k'⟩
              · exact wpAny_notIn_heap hn (r1'.isKey I e2 hd8) hs hm ⟨.bl _, H, I.tok _, rfl, by rw [eq]; exact k'⟩
            · cases eb
          · cases eb
        · cases eb
      · cases eb
    · rename_i ys
      split at eb
      · rename_i p qs e2 e3
        split at eb
        · rename_i hs
          cases eb
          have h1 := r1.dp _ _ _ e2
          have h2 : Dp X.K H yv (.tuple qs) := r2.dp _ _ _ (by simp only [D.pd, e3])
          simp only [RV] at r2
          obtain ⟨a, vs, rfl, _, _⟩ := r2
          cases ry
          rcases hop with ⟨rfl, rfl⟩ | ⟨rfl, rfl⟩
          · exact (tuple_in (K := X.K) hu I h1 h2 rx hs.1 hs.2).1 ⟨.bl _, H, I, rfl, k'⟩
          · exact (tuple_in (K := X.K) hu I h1 h2 rx hs.1 hs.2).2 ⟨.bl _, H, I, rfl, k'⟩
        · cases eb
      · cases eb
    · cases eb
  · cases ef
theorem op_inDD (hu : X.A.units + 65 < cLine) (hn : (nestedKind X.prog X.w).room X.A.in1) : OpR X (compareOp .In) (rD (gm c X) inD) := in_run (.inl ⟨rfl, rfl⟩) hu hn
theorem op_ninDD (hu : X.A.units + 65 < cLine) (hn : (nestedKind X.prog X.w).room X.A.in1) : OpR X (compareOp .NotIn) (rD (gm c X) ninD) := in_run (.inr ⟨rfl, rfl⟩) hu hn
def nonB : D → Bool
  | .non => true
  | _ => false
def isND (x y : D) : M D := fun S => match y with
  | .non => some (.bl (nonB x), S)
  | _ => none
def notND (x y : D) : M D := fun S => match y with
  | .non => some (.bl (!nonB x), S)
  | _ => none
theorem isNon {g : Gm} {H : Hp} {η : List Addr} {x : D} {v : V} (r : RV g H η x v) : decide (v = .non) = (nonB x) := by
  cases x <;> simp only [RV] at r
  · subst r; simp [nonB]
  · subst r; simp [nonB]
  · subst r; simp [nonB]
  · subst r; simp [nonB]
  · obtain ⟨a, vs, rfl, _⟩ := r; simp [nonB]
  · obtain ⟨a, vs, rfl, _⟩ := r; simp [nonB]
  · obtain ⟨a, rfl, _⟩ := r; simp [nonB]
theorem op_isND : OpR X (compareOp .Is) (rD (gm c X) isND) := by
  intro pins s σ H xv yv v u Q I rx ry h
  obtain ⟨η, S, x, y, d, S', si, r1, r2, ef, k⟩ := h
  cases y with
  | non =>
    cases ef
    simp only [RV] at r2; subst r2
    exact op_isN pins s σ H _ _ v u Q I rx ry ⟨rfl, by rw [isNon r1]; exact k.at_ si (by simp only [RV])⟩
  | _ => cases ef
theorem op_notND : OpR X (compareOp .IsNot) (rD (gm c X) notND) := by
  intro pins s σ H xv yv v u Q I rx ry h
  obtain ⟨η, S, x, y, d, S', si, r1, r2, ef, k⟩ := h
  cases y with
  | non =>
    cases ef
    simp only [RV] at r2; subst r2
    refine op_notN pins s σ H _ _ v u Q I rx ry ⟨rfl, ?_⟩
    rw [isNon r1]
    exact k.at_ si (by simp only [RV])
  | _ => cases ef

/-! ### o[i] -/
def idxD (x y : D) : M D := fun S => match y with
  | .int i => match x with
    | .tup ds => match atI ds i with
      | some d => some (d, S)
      | none => none
    | .fro ds => match atI ds i with
      | some d => some (d, S)
      | none => none
    | .str z => if z.length ≤ LINE then match atI z.cps.toList i with
      | some ch => some (.str ⟨#[ch]⟩, S)
      | none => none else none
    | .ref n => match S[n]? with
      | some (.lst ds) => match atI ds i with
        | some d => some (d, S)
        | none => none
      | some (.dK kvs) => match getK kvs (.inl i) with
        | some d => some (d, S)
        | none => none
      | _ => none
    | _ => none
  | .str z => match x with
    | .ref n => match S[n]? with
      | some (.dK kvs) => match getK kvs (.inr z) with
        | some d => some (d, S)
        | none => none
      | _ => none
    | _ => none
  | .tup ds => match x with
    | .ref n => match S[n]? with
      | some (.dN kvs) => match (D.tup ds).key with
        | some k => if k.depth ≤ 8 then match getK kvs k with
          | some d => some (d, S)
          | none => none else none
        | none => none
      | _ => none
    | _ => none
  | _ => none
theorem RVs.atI {g : Gm} {H : Hp} {η : List Addr} {ds : List D} {vs : List V} {i : Int} {d : D} (r : RVs g H η ds vs) (h : L2.atI ds i = some d) : ∃ v, L2.atI vs i = some v ∧ RV g H η d v := by
  unfold L2.atI at h ⊢
  rw [r.length]
  obtain ⟨j, hj, h⟩ := Option.bind_eq_some_iff.mp h
  rw [hj]
  obtain ⟨v, h1, h2⟩ := r.get h
  exact ⟨v, h1, h2⟩
/-- subscripts of sequences and dicts: one rule by the value's type -/
theorem de_idx {a b : Expr} {pos : Pos} {f k : Env → M D} (hu : X.A.units + 65 < cLine) (hn : (nestedKind X.prog X.w).room X.A.in1) (ha : PE X a (tD (gm c X) f)) (hb : PE X b (tD (gm c X) k)) (hs : PlainIx b := by intro _ _; rfl) : PE X (.Subscript a b pos) (tD (gm c X) (fBin idxD f k)) := by
  refine ⟨fun pins s σ H Q I q => ?_⟩
  have qq : tOp (fun xv yv H2 Q => ∃ η S x y d S', Sim (gm c X) H2 η S ∧ RV (gm c X) H2 η x xv ∧ RV (gm c X) H2 η y yv ∧ idxD x y S = some (d, S') ∧ Kt (gm c X) H2 η S' d Q) (tD (gm c X) f) (tD (gm c X) k) σ H Q := bin_run (fun _ _ _ _ z => z) q
  refine Subscript_ (binT ha hb I qq fun v u s2 xv yv H2 I2 rx ry h => ?_)
  obtain ⟨η, S, x, y, d, S', si, r1, r2, ef, kk⟩ := h
  have sub : ∀ {T id : String}, typeLookup (.type T) "__getitem__" = pure (some (.builtin id)) → s2.TypeIs v T → wpAny (model X.prog X.w) X.A (getItem v u) (EP X pins σ Q) X.xe s2 → wpAny (model X.prog X.w) X.A (subscriptTail a b v u) (EP X pins σ Q) X.xe s2 := fun hl hT h => PyProof.Rows.tail_any hT hl h (hs _ _)
  unfold idxD at ef
  split at ef
  · rename_i i
    have r2' := r2
    simp only [RV] at r2; subst r2
    split at ef
    · split at ef
      · rename_i d' e1
        cases ef
        simp only [RV] at r1
        obtain ⟨p, vs, rfl, q1, t1⟩ := r1
        obtain ⟨v', h1, h2⟩ := t1.atI e1
        exact ix_tup a b pins s2 σ H2 _ _ v u Q I2 rx ry ⟨p, vs, i, v', rfl, rfl, q1, h1, kk.at_ si h2⟩ (hs _ _)
      · cases ef
    · split at ef
      · rename_i d' e1
        cases ef
        simp only [RV] at r1
        obtain ⟨p, vs, rfl, q1, t1⟩ := r1
        obtain ⟨v', h1, h2⟩ := t1.atI e1
        have q1' : SqL X.K H2 p vs := by
          rcases q1 with ⟨o, q⟩ | q
          · exact .inl (.inr ⟨o, q⟩)
          · exact q H2
        exact ix_list a b pins s2 σ H2 _ _ v u Q I2 rx ry ⟨p, vs, i, v', rfl, rfl, q1', h1, kk.at_ si h2⟩ (hs _ _)
      · cases ef
    · split at ef
      · rename_i hl
        split at ef
        · rename_i ch e1
          cases ef
          simp only [RV] at r1; subst r1
          exact ix_str a b pins s2 σ H2 _ _ v u Q I2 rx ry ⟨_, i, ch, rfl, rfl, by rw [line_eq]; exact hl, e1, kk.at_ si (by simp only [RV])⟩ (hs _ _)
        · cases ef
      · cases ef
    · simp only [RV] at r1
      obtain ⟨p, rfl, qp⟩ := r1
      split at ef
      · rename_i n ds e0
        split at ef
        · rename_i d' e1
          cases ef
          obtain ⟨vs, h1, t1⟩ := si.ob _ _ _ e0 qp
          obtain ⟨v', h3, h4⟩ := t1.atI e1
          exact ix_list a b pins s2 σ H2 _ _ v u Q I2 rx ry ⟨p, vs, i, v', rfl, rfl, SqL.of h1, h3, kk.at_ si h4⟩ (hs _ _)
        · cases ef
      · rename_i n kvs e0
        split at ef
        · rename_i d' e1
          cases ef
          obtain ⟨vs, h1, t1⟩ := si.ob _ _ _ e0 qp
          obtain ⟨v', h3, h4⟩ := t1.get e1
          cases rx
          have g : DGet H2 p (.int i) (some v') := by have g := DGet.k (k := .inl i) h1; rw [h3] at g; exact g
          exact sub PySem.F.slot_dict_getitem.lookup (dict_typeIs I2 g) (d_getItem (by omega) I2 g ry fun w' s3 I3 rw' => ⟨v', H2, I3, rw', kk.at_ si h4⟩)
        · cases ef
      · cases ef
    · cases ef
  · rename_i z
    split at ef
    · simp only [RV] at r1 r2; subst r2
      obtain ⟨p, rfl, qp⟩ := r1
      split at ef
      · rename_i n kvs e0
        split at ef
        · rename_i d' e1
          cases ef
          obtain ⟨vs, h1, t1⟩ := si.ob _ _ _ e0 qp
          obtain ⟨v', h3, h4⟩ := t1.get e1
          cases rx
          have g : DGet H2 p (.str z) (some v') := by have g := DGet.k (k := .inr z) h1; rw [h3] at g; exact g
          exact sub PySem.F.slot_dict_getitem.lookup (dict_typeIs I2 g) (d_getItem (by omega) I2 g ry fun w' s3 I3 rw' => ⟨v', H2, I3, rw', kk.at_ si h4⟩)
        · cases ef
      · cases ef
    · cases ef
  · rename_i ds
    split at ef
    · have r2' := r2
      simp only [RV] at r1 r2
      obtain ⟨p, rfl, qp⟩ := r1
      obtain ⟨bq, ws, rfl, _, _⟩ := r2
      split at ef
      · rename_i n kvs e0
        split at ef
        · rename_i ky e2
          split at ef
          · rename_i hd8
            split at ef
            · rename_i d' e1
              cases ef
              obtain ⟨hsm, xs, hm, hr⟩ := dn_of I2 (si.ob _ _ _ e0 qp)
              obtain ⟨b', u', v', h3, h4, h5⟩ := hr.get e1
              cases rx
              cases ry
              exact sub PySem.F.slot_dict_getitem.lookup hm.typeIs (wpAny_getItem_heap hn (r2'.isKey I2 e2 hd8) hm h3 ⟨v', H2, I2.tok _, h4, kk.at_ si h5⟩)
            · cases ef
          · cases ef
        · cases ef
      · cases ef
    · cases ef
  · cases ef
end
end DL

set_option Elab.async false
set_option linter.all false
set_option maxRecDepth 100000
set_option maxHeartbeats 4000000
/-! DL5a: tuple * int -/
namespace DL
open PySem PySem.Spec L2
open PyProof.Rows hiding St
theorem tuple_mul1 (l : Addr) (items : Array Value) (n : Nat) (dd : Option Addr) (sl : Array (Option Value)) (x : Int) (u : Tok) (c0 : (decide (x < -(2 ^ 63)) || decide (x ≥ 2 ^ 63)) = false) (c1 : (items.isEmpty || x == 1) = true) :
    Meets (Builtin.«tuple.__mul__» ⟨[.ref l, .int x u], []⟩) (fun _ R s => s.heap.get? l = some { cls := .type "tuple", dict := dd, data := .seq items n, slots := sl } ∧
      R (.ok (.ret (Value.ref l))) s) :=
  .of_wp fun prog w A R s h => by
    obtain ⟨hp, g, d, tk, os⟩ := s
    obtain ⟨hl, h⟩ := h
    have f1 := AutoSeq1.idx_int
    wp_walk using wpAny_loadPart' hl
    repeat (first
      | (refine wpAny_ite_false (decide_eq_false (by rw [c0]; exact Bool.false_ne_true)) ?_; wp_walk using wpAny_loadPart' hl)
      | (refine wpAny_ite_true (decide_eq_true (by rw [c1])) ?_; wp_walk using wpAny_loadPart' hl))
    exact ⟨_, rfl, h⟩
theorem tuple_mul0 (l : Addr) (items : Array Value) (n : Nat) (dd : Option Addr) (sl : Array (Option Value)) (x : Int) (u : Tok) (c0 : (decide (x < -(2 ^ 63)) || decide (x ≥ 2 ^ 63)) = false) (c1 : (items.isEmpty || x == 1) = false) (c2 : (decide (x ≤ 0) || items.isEmpty) = true) :
    Meets (Builtin.«tuple.__mul__» ⟨[.ref l, .int x u], []⟩) (fun _ R s => s.heap.get? l = some { cls := .type "tuple", dict := dd, data := .seq items n, slots := sl } ∧
      R (.ok (.ret (Value.ref s.heap.objs.size))) { s with heap := s.heap.push { cls := Value.type "tuple", data := Data.seq #[] }, toks := s.toks }) :=
  .of_wp fun prog w A R s h => by
    obtain ⟨hp, g, d, tk, os⟩ := s
    obtain ⟨hl, h⟩ := h
    have f1 := AutoSeq1.idx_int
    wp_walk using wpAny_loadPart' hl
    repeat (first
      | (refine wpAny_ite_false (decide_eq_false (by rw [c0]; exact Bool.false_ne_true)) ?_; wp_walk using wpAny_loadPart' hl)
      | (refine wpAny_ite_false (decide_eq_false (by rw [c1]; exact Bool.false_ne_true)) ?_; wp_walk using wpAny_loadPart' hl)
      | (refine wpAny_ite_true (decide_eq_true (by rw [c2])) ?_; wp_walk using wpAny_loadPart' hl))
    exact ⟨_, rfl, h⟩
end DL

set_option Elab.async false
set_option linter.all false
set_option maxRecDepth 100000
set_option maxHeartbeats 4000000
/-! DL5: *, slices, built-in calls -/
namespace DL
open PySem PySem.Spec L2
open PyProof.Rows hiding St

section
variable {c : Str → Option Addr} {X : Cx}
/-- tuple * int -/
theorem op_repT' {pins : List (Addr × Obj)} {s : Shared} {σ : L2.St} {H : Hp} {l : Addr} {k : Int} {t : Tok} {xs : List V} {Q : VK} (I : Inv X pins σ H s) (hT : SqT X.K H l xs) (hk : 0 ≤ k ∧ k ≤ 1000) (hz : xs.length ≤ 1000)
    (q1 : (xs = [] ∨ k = 1) → Q (.ref l) H) (q : ∀ p, H p = none → Q (.ref p) (upd H p (.tup (List.replicate k.toNat xs).flatten))) : wpAny (model X.prog X.w) X.A (binaryOp .Mult (.ref l) (.int k t)) (EP X pins σ Q) X.xe s := by
  by_cases h2 : xs ≠ [] ∧ 2 ≤ k
  · exact op_repT pins s σ H (.ref l) (.int k) _ _ Q I rfl ⟨t, rfl⟩ ⟨l, k, xs, rfl, rfl, hT, h2.1, h2.2, hk.2, hz, q⟩
  · obtain ⟨its, r, ⟨⟨cls, dd, data, sl⟩, ho, hc, n, hd⟩, hs⟩ := I.tuple hT
    simp only at hc hd
    subst hc hd
    have c0 : (decide (k < -(2 ^ 63)) || decide (k ≥ 2 ^ 63)) = false := by
      rw [decide_eq_false (by omega), decide_eq_false (by omega)] <;> rfl
    have hle : its.length = xs.length := r.length.symm
    have hemp : its.toArray.isEmpty = decide (xs = []) := by
      cases r <;> simp
    refine wpAny_binaryOp_repeat_ref (T := "tuple") (U := "int") (by decide) ⟨_, ho, rfl⟩ (fun s' => typeIs_int s' k t) noFill_tuple_mul F.fills_int_mul F.slot_int_rmul repeat_tuple F.slot_int_index.lookup
      (call_meets F.slot_int_rmul (typeIs_int s k t) F.entry_int_rmul (F.args_int_rmul_2 _ _) (int_rmul_tuple k t l its.toArray n dd sl) ⟨ho, rfl, ⟨_, ho, rfl⟩, ?_⟩)
    by_cases h1 : xs = [] ∨ k = 1
    · have c1 : (its.toArray.isEmpty || k == 1) = true := by
        rw [hemp]
        rcases h1 with h | h
        · simp [h]
        · simp [h]
      exact call_meets F.slot_tuple_mul ⟨_, ho, rfl⟩ F.entry_tuple_mul (F.args_tuple_mul_2 _ _) (tuple_mul1 l its.toArray n dd sl k t c0 c1) ⟨ho, ⟨.ref l, H, I, rfl, q1 h1⟩⟩
    · have hx : xs ≠ [] := fun e => h1 (.inl e)
      have hk0 : k = 0 := by
        have a1 : ¬ 2 ≤ k := fun z => h2 ⟨hx, z⟩
        have a2 : k ≠ 1 := fun z => h1 (.inr z)
        omega
      have c1 : (its.toArray.isEmpty || k == 1) = false := by
        rw [hemp, hk0, decide_eq_false hx]; rfl
      have c2 : (decide (k ≤ 0) || its.toArray.isEmpty) = true := by rw [hk0]; rfl
      refine call_meets F.slot_tuple_mul ⟨_, ho, rfl⟩ F.entry_tuple_mul (F.args_tuple_mul_2 _ _) (tuple_mul0 l its.toArray n dd sl k t c0 c1 c2) ⟨ho, ?_⟩
      have e0 : (List.replicate k.toNat xs).flatten = [] := by rw [hk0]; rfl
      refine ⟨.ref s.heap.objs.size, _, I.laid (t' := s.toks) (o := .tup (List.replicate k.toNat xs).flatten) (fun b ob q => Heap.get?_push_of_some _ q) (Nat.le_refl _) ?_, rfl, q _ (I.hok.fresh (Nat.le_refl _))⟩
      rw [e0]
      exact ⟨Nat.zero_le _, [], .nil, IsTup.new _ _⟩
def mulD (x y : D) : M D := fun S => match x, y with
  | .int i, .int j => if small64 i = true ∨ small64 j = true then some (.int (i * j), S) else none
  | .tup ds, .int k => if (0 ≤ k ∧ k ≤ 1000) ∧ ds.length ≤ 1000 then some (.tup (List.replicate k.toNat ds).flatten, S) else none
  | .ref n, .int k => match S[n]? with
    | some (.lst ds) => if (0 ≤ k ∧ k ≤ 1000) ∧ ds.length ≤ 1000 then some (.ref S.length, S ++ [.lst (List.replicate k.toNat ds).flatten]) else none
    | _ => none
  | _, _ => none
theorem RVs.rep {g : Gm} {H : Hp} {η : List Addr} {ds : List D} {vs : List V} (r : RVs g H η ds vs) : ∀ k : Nat, RVs g H η (List.replicate k ds).flatten (List.replicate k vs).flatten
  | 0 => RVs.nil
  | k + 1 => by
    rw [List.replicate_succ, List.replicate_succ, List.flatten_cons, List.flatten_cons]
    exact r.append (RVs.rep r k)
theorem op_mulD : OpR X (binaryOp .Mult) (rD (gm c X) mulD) := by
  intro pins s σ H xv yv v u Q I rx ry h
  obtain ⟨η, S, x, y, d, S', si, r1, r2, ef, k⟩ := h
  unfold mulD at ef
  split at ef
  · split at ef
    · rename_i hs
      cases ef
      simp only [RV] at r1 r2; subst r1; subst r2
      refine op_mul pins s σ H _ _ v u Q I rx ry ⟨_, _, rfl, rfl, ?_, k.at_ si (by simp only [RV])⟩
      rcases hs with h | h
      · exact .inl (small64_ok h)
      · exact .inr (small64_ok h)
    · cases ef
  · split at ef
    · rename_i ds kk hs
      cases ef
      have r1' := r1
      simp only [RV] at r1 r2; subst r2
      obtain ⟨a, vs, rfl, q, t⟩ := r1
      cases rx
      obtain ⟨tk, rfl⟩ := ry
      refine op_repT' I q hs.1 (by rw [t.length]; exact hs.2) (fun e => ?_) (fun p hp => k.tup si (t.rep _) hp)
      have ee : (List.replicate kk.toNat ds).flatten = ds := by
        rcases e with e | e
        · have : ds = [] := by have := t.length; subst e; cases ds <;> simp_all
          subst this
          induction kk.toNat with
          | zero => rfl
          | succ n ih => rw [List.replicate_succ, List.flatten_cons, ih]; rfl
        · subst e; simp
      rw [ee] at k
      exact k.at_ si r1'
    · cases ef
  · split at ef
    · rename_i n kk _ ds e0
      split at ef
      · rename_i hs
        cases ef
        simp only [RV] at r1 r2; subst r2
        obtain ⟨a, rfl, q⟩ := r1
        obtain ⟨vs, h1, t⟩ := si.ob _ _ _ e0 q
        refine op_rep pins s σ H _ _ v u Q I rx ry ⟨a, kk, vs, rfl, rfl, h1, by omega, by omega, ?_, fun p hp => k.lst si (t.rep _) hp⟩
        rw [t.length, sizeLine_eq]
        have a1 : ds.length * kk.toNat ≤ 1000 * 1000 := Nat.mul_le_mul hs.2 (by omega)
        omega
      · cases ef
    · cases ef
  · cases ef

/-! ### slices -/
def oNone : Env → M (Option Int) := fun _ => pu none
def oSome (f : Env → M D) : Env → M (Option Int) := fun ρ => bd (f ρ) fun d => match d with
  | .int i => pu (some i)
  | _ => no
def tDO (g : Gm) (f : Env → M (Option Int)) : TO := fun σ H Q => ∃ ρ η S o S', EnvR g H η ρ σ ∧ Sim g H η S ∧ f ρ S = some (o, S') ∧ ∀ H' η', Ext H η H' η' → Sim g H' η' S' → Q o H'
theorem PO.imp {e : Option Expr} {t t' : TO} (h : PO X e t) (i : ∀ σ H Q, t' σ H Q → t σ H Q) : PO X e t' := ⟨fun pins s σ H Q I q => h.run pins s σ H Q I (i σ H Q q)⟩
theorem do_none : PO X none (tDO (gm c X) oNone) := by
  refine PO.imp po_none fun σ H Q h => ?_
  obtain ⟨ρ, η, S, o, S', er, si, ef, k⟩ := h
  cases ef
  exact k H η (Ext.refl _ _) si
theorem do_some {e : Expr} {f : Env → M D} (h : PE X e (tD (gm c X) f)) : PO X (some e) (tDO (gm c X) (oSome f)) := by
  refine PO.imp (po_some h) fun σ H Q h => ?_
  obtain ⟨ρ, η, S, o, S', er, si, ef, k⟩ := h
  obtain ⟨x, S1, e1, ef⟩ := bd_some ef
  refine ⟨ρ, η, S, x, S1, er, si, e1, fun v H1 η1 x1 s1 r1 => ?_⟩
  cases x with
  | int i =>
    cases ef
    simp only [RV] at r1
    exact ⟨i, r1, k H1 η1 x1 s1⟩
  | _ => cases ef
def cutD (xs : List D) (lo hi : Option Int) : List D := (xs.drop (HT.sIx xs.length 0 lo)).take (HT.sIx xs.length xs.length hi - HT.sIx xs.length 0 lo)
theorem RVs.cut {g : Gm} {H : Hp} {η : List Addr} {ds : List D} {vs : List V} (r : RVs g H η ds vs) (lo hi : Option Int) : RVs g H η (cutD ds lo hi) (cutV vs lo hi) := by
  unfold cutD cutV
  rw [r.length]
  exact (r.drop _).take _
def slD (x : D) (lo hi : Option Int) : M D := fun S => match x with
  | .tup ds => some (.tup (cutD ds lo hi), S)
  | .ref n => match S[n]? with
    | some (.lst ds) => some (.ref S.length, S ++ [.lst (cutD ds lo hi)])
    | _ => none
  | _ => none
def fSl (f : Env → M D) (lo hi : Env → M (Option Int)) : Env → M D := fun ρ => bd (f ρ) fun x => bd (lo ρ) fun l => bd (hi ρ) fun h => slD x l h
theorem cut_whole {ds : List D} {lo hi : Option Int} (h : HT.sIx ds.length 0 lo = 0 ∧ HT.sIx ds.length ds.length hi = ds.length) : cutD ds lo hi = ds := by
  unfold cutD
  rw [h.1, h.2]
  simp
theorem de_sl {e : Expr} {lo hi : Option Expr} {pos p2 : Pos} {f : Env → M D} {l h : Env → M (Option Int)} (he : PE X e (tD (gm c X) f)) (hl : PO X lo (tDO (gm c X) l)) (hh : PO X hi (tDO (gm c X) h)) : PE X (.Subscript e (.Slice lo hi none p2) pos) (tD (gm c X) (fSl f l h)) := by
  refine PE.imp (pe_slice (sl_tupA.or sl_list) he hl hh) fun σ H Q q => ?_
  obtain ⟨ρ, η, S, d, S', er, si, ef, k⟩ := q
  obtain ⟨x, S1, e1, ef⟩ := bd_some ef
  obtain ⟨lv, S2, e2, ef⟩ := bd_some ef
  obtain ⟨hv, S3, e3, ef⟩ := bd_some ef
  refine ⟨ρ, η, S, x, S1, er, si, e1, fun v H1 η1 x1 s1 r1 => ?_⟩
  refine ⟨ρ, η1, S1, lv, S2, er.mono si x1, s1, e2, fun H2 η2 x2 s2 => ?_⟩
  refine ⟨ρ, η2, S2, hv, S3, (er.mono si x1).mono s1 x2, s2, e3, fun H3 η3 x3 s3 => ?_⟩
  have r3 := (r1.mono s1 x2).mono s2 x3
  have k3 : Kt (gm c X) H3 η3 S' d Q := fun v' H' η' xx ss rr => k v' H' η' (((x1.trans x2).trans x3).trans xx) ss rr
  unfold slD at ef
  split at ef
  · rename_i ds
    cases ef
    have r3' := r3
    simp only [RV] at r3
    obtain ⟨a, vs, rfl, q, t⟩ := r3
    refine .inl ⟨a, vs, rfl, q, fun hw => ?_, fun _ p hp => k3.tup s3 (t.cut lv hv) hp⟩
    rw [t.length] at hw
    rw [cut_whole hw] at k3
    exact k3.at_ s3 r3'
  · split at ef
    · rename_i n _ ds e0
      cases ef
      simp only [RV] at r3
      obtain ⟨a, rfl, q⟩ := r3
      obtain ⟨vs, h1, t⟩ := s3.ob _ _ _ e0 q
      exact .inr ⟨a, vs, rfl, SqL.of h1, fun p hp => k3.lst s3 (t.cut lv hv) hp⟩
    · cases ef
  · cases ef

/-! ### built-in functions -/
theorem one_of {g : Gm} {H : Hp} {η : List Addr} {x : D} {vs : List V} (r : RVs g H η [x] vs) : ∃ v, vs = [v] ∧ RV g H η x v := by
  simp only [RVs] at r
  obtain ⟨v, r, rfl, h, rfl⟩ := r
  exact ⟨v, rfl, h⟩
theorem two_of {g : Gm} {H : Hp} {η : List Addr} {x y : D} {vs : List V} (r : RVs g H η [x, y] vs) : ∃ v u, vs = [v, u] ∧ RV g H η x v ∧ RV g H η y u := by
  simp only [RVs] at r
  obtain ⟨v, r, rfl, h, u, r', rfl, h', rfl⟩ := r
  exact ⟨v, u, rfl, h, h'⟩
/-- the items of a list, a tuple -/
def itemsD (x : D) (S : Sto) : Option (List D) := match x with
  | .tup ds => some ds
  | .fro ds => some ds
  | .ref n => match S[n]? with
    | some (.lst ds) => some ds
    | _ => none
  | _ => none
theorem items_of {H : Hp} {η : List Addr} {S : Sto} (si : Sim (gm c X) H η S) {x : D} {v : V} {ds : List D} (r : RV (gm c X) H η x v) (e : itemsD x S = some ds) : ∃ a vs, v = .ref a ∧ (SqL X.K H a vs ∨ SqT X.K H a vs) ∧ RVs (gm c X) H η ds vs := by
  cases x <;> simp only [itemsD] at e
  · cases e
  · cases e
  · cases e
  · cases e
  · cases e
    simp only [RV] at r
    obtain ⟨a, vs, rfl, q, t⟩ := r
    exact ⟨a, vs, rfl, .inr q, t⟩
  · cases e
    simp only [RV] at r
    obtain ⟨a, vs, rfl, q, t⟩ := r
    refine ⟨a, vs, rfl, .inl ?_, t⟩
    rcases q with ⟨o, q⟩ | q
    · exact .inl (.inr ⟨o, q⟩)
    · exact q H
  · split at e
    · rename_i e0
      cases e
      simp only [RV] at r
      obtain ⟨a, rfl, q⟩ := r
      obtain ⟨vs, h1, t⟩ := si.ob _ _ _ e0 q
      exact ⟨a, vs, rfl, .inl (SqL.of h1), t⟩
    · cases e
/-- of a list alone -/
def listD (x : D) (S : Sto) : Option (List D) := match x with
  | .tup _ => none
  | x => itemsD x S
theorem list_of {H : Hp} {η : List Addr} {S : Sto} (si : Sim (gm c X) H η S) {x : D} {v : V} {ds : List D} (r : RV (gm c X) H η x v) (e : listD x S = some ds) : ∃ a vs, v = .ref a ∧ SqL X.K H a vs ∧ RVs (gm c X) H η ds vs := by
  cases x <;> simp only [listD, itemsD] at e
  · cases e
  · cases e
  · cases e
  · cases e
  · cases e
  · cases e
    simp only [RV] at r
    obtain ⟨a, vs, rfl, q, t⟩ := r
    refine ⟨a, vs, rfl, ?_, t⟩
    rcases q with ⟨o, q⟩ | q
    · exact .inl (.inr ⟨o, q⟩)
    · exact q H
  · split at e
    · rename_i e0
      cases e
      simp only [RV] at r
      obtain ⟨a, rfl, q⟩ := r
      obtain ⟨vs, h1, t⟩ := si.ob _ _ _ e0 q
      exact ⟨a, vs, rfl, SqL.of h1, t⟩
    · cases e
def lenD (xs : List D) : M D := fun S => match xs with
  | [.str z] => if z.length ≤ LINE then some (.int z.length, S) else none
  | [x] => match itemsD x S with
    | some ds => some (.int ds.length, S)
    | none => none
  | _ => none
theorem call_lenD : CallR X (.builtin "len") (rDc (gm c X) lenD) := by
  refine CallR.imp call_len fun vs H Q h => ?_
  obtain ⟨η, S, xs, d, S', si, r, ef, k⟩ := h
  unfold lenD at ef
  split at ef
  · split at ef
    · rename_i hl
      cases ef
      obtain ⟨v, rfl, r1⟩ := one_of r
      simp only [RV] at r1; subst r1
      exact ⟨_, _, rfl, ⟨by rw [line_eq]; exact hl, rfl⟩, k.at_ si (by simp only [RV])⟩
    · cases ef
  · split at ef
    · rename_i e0
      cases ef
      obtain ⟨v, rfl, r1⟩ := one_of r
      obtain ⟨a, vs, rfl, q, t⟩ := items_of si r1 e0
      refine ⟨_, vs.length, rfl, ?_, k.at_ si (by simp only [RV]; rw [t.length])⟩
      rcases q with q | q
      · exact .inl ⟨vs, q, rfl⟩
      · exact .inr ⟨vs, q, rfl⟩
    · cases ef
  · cases ef
def blsD : List D → Option (List Bool)
  | [] => some []
  | .bl b :: r => (blsD r).map (b :: ·)
  | _ :: _ => none
theorem bls_of {g : Gm} {H : Hp} {η : List Addr} : ∀ {ds : List D} {vs : List V} {bs : List Bool}, RVs g H η ds vs → blsD ds = some bs → vs = bs.map V.bl
  | [], _, _, r, e => by simp only [RVs] at r; subst r; simp only [blsD] at e; cases e; rfl
  | .bl b :: ds, _, _, r, e => by
    simp only [RVs] at r
    obtain ⟨v, r', rfl, h, t⟩ := r
    simp only [blsD] at e
    obtain ⟨bs, e1, rfl⟩ := Option.map_eq_some_iff.mp e
    simp only [RV] at h; subst h
    rw [bls_of t e1]; rfl
  | .non :: _, _, _, _, e => by simp only [blsD] at e; cases e
  | .int _ :: _, _, _, _, e => by simp only [blsD] at e; cases e
  | .str _ :: _, _, _, _, e => by simp only [blsD] at e; cases e
  | .tup _ :: _, _, _, _, e => by simp only [blsD] at e; cases e
  | .fro _ :: _, _, _, _, e => by simp only [blsD] at e; cases e
  | .ref _ :: _, _, _, _, e => by simp only [blsD] at e; cases e
def intsD : List D → Option (List Int)
  | [] => some []
  | .int b :: r => (intsD r).map (b :: ·)
  | _ :: _ => none
theorem ints_of {g : Gm} {H : Hp} {η : List Addr} : ∀ {ds : List D} {vs : List V} {bs : List Int}, RVs g H η ds vs → intsD ds = some bs → vs = bs.map V.int
  | [], _, _, r, e => by simp only [RVs] at r; subst r; simp only [intsD] at e; cases e; rfl
  | .int b :: ds, _, _, r, e => by
    simp only [RVs] at r
    obtain ⟨v, r', rfl, h, t⟩ := r
    simp only [intsD] at e
    obtain ⟨bs, e1, rfl⟩ := Option.map_eq_some_iff.mp e
    simp only [RV] at h; subst h
    rw [ints_of t e1]; rfl
  | .non :: _, _, _, _, e => by simp only [intsD] at e; cases e
  | .bl _ :: _, _, _, _, e => by simp only [intsD] at e; cases e
  | .str _ :: _, _, _, _, e => by simp only [intsD] at e; cases e
  | .tup _ :: _, _, _, _, e => by simp only [intsD] at e; cases e
  | .fro _ :: _, _, _, _, e => by simp only [intsD] at e; cases e
  | .ref _ :: _, _, _, _, e => by simp only [intsD] at e; cases e
def bqD (f : List Bool → Bool) (xs : List D) : M D := fun S => match xs with
  | [x] => match listD x S with
    | some ds => match blsD ds with
      | some bs => some (.bl (f bs), S)
      | none => none
    | none => none
  | _ => none
theorem bq_run {f : List Bool → Bool} {b : Value} (h0 : CallR X b (fun vs H Q => ∃ (a : Addr) (bs : List Bool), vs = [V.ref a] ∧ SqL X.K H a (bs.map V.bl) ∧ Q (.bl (f bs)) H)) : CallR X b (rDc (gm c X) (bqD f)) := by
  refine CallR.imp h0 fun vs H Q h => ?_
  obtain ⟨η, S, xs, d, S', si, r, ef, k⟩ := h
  unfold bqD at ef
  split at ef
  · split at ef
    · rename_i e0
      split at ef
      · rename_i e1
        cases ef
        obtain ⟨v, rfl, r1⟩ := one_of r
        obtain ⟨a, vs, rfl, q, t⟩ := list_of si r1 e0
        have := bls_of t e1
        subst this
        exact ⟨a, _, rfl, q, k.at_ si (by simp only [RV])⟩
      · cases ef
    · cases ef
  · cases ef
def allD : List D → M D := bqD fun bs => bs.all id
def anyD : List D → M D := bqD fun bs => bs.any id
theorem call_allD (hc : X.calm = true) : CallR X (.builtin "all") (rDc (gm c X) allD) := bq_run (cr_all hc)
theorem call_anyD (hc : X.calm = true) : CallR X (.builtin "any") (rDc (gm c X) anyD) := bq_run (cr_any hc)
def maxL : Int → List Int → Int
  | m, [] => m
  | m, x :: r => maxL (if x > m then x else m) r
theorem maxL_mem : ∀ (r : List Int) (m : Int), maxL m r ∈ m :: r ∧ ∀ y ∈ m :: r, y ≤ maxL m r
  | [], m => by simp [maxL]
  | x :: r, m => by
    obtain ⟨h1, h2⟩ := maxL_mem r (if x > m then x else m)
    simp only [maxL]
    by_cases hx : x > m
    · rw [if_pos hx] at h1 h2 ⊢
      refine ⟨List.mem_cons_of_mem _ h1, fun y hy => ?_⟩
      rcases List.mem_cons.mp hy with e | hy
      · have := h2 x List.mem_cons_self
        omega
      · exact h2 y hy
    · rw [if_neg hx] at h1 h2 ⊢
      refine ⟨?_, fun y hy => ?_⟩
      · rcases List.mem_cons.mp h1 with e | h1
        · rw [e]; exact List.mem_cons_self
        · exact List.mem_cons_of_mem _ (List.mem_cons_of_mem _ h1)
      · rcases List.mem_cons.mp hy with e | hy
        · rw [e]; exact h2 m List.mem_cons_self
        · rcases List.mem_cons.mp hy with e | hy
          · have := h2 m List.mem_cons_self
            omega
          · exact h2 y (List.mem_cons_of_mem _ hy)
/-- max(list of ints), max(a, b) -/
def maxD (xs : List D) : M D := fun S => match xs with
  | [x] => match listD x S with
    | some ds => match intsD ds with
      | some (m :: r) => some (.int (maxL m r), S)
      | _ => none
    | none => none
  | [.int i, .int j] => some (.int (if j > i then j else i), S)
  | _ => none
theorem call_maxD (hc : X.calm = true) : CallR X (.builtin "max") (rDc (gm c X) maxD) := by
  refine CallR.imp ((cr_max hc).or (call_max2 hc)) fun vs H Q h => ?_
  obtain ⟨η, S, xs, d, S', si, r, ef, k⟩ := h
  unfold maxD at ef
  split at ef
  · split at ef
    · rename_i e0
      split at ef
      · rename_i m rr e1
        cases ef
        obtain ⟨v, rfl, r1⟩ := one_of r
        obtain ⟨a, vs, rfl, q, t⟩ := list_of si r1 e0
        have := ints_of t e1
        subst this
        refine .inl ⟨a, _, rfl, q, by simp, fun m' hm hy => ?_⟩
        obtain ⟨h1, h2⟩ := maxL_mem rr m
        have e : m' = maxL m rr := by
          have a1 := h2 m' hm
          have a2 := hy _ h1
          omega
        rw [e]
        exact k.at_ si (by simp only [RV])
      · cases ef
    · cases ef
  · cases ef
    obtain ⟨v, u, rfl, r1, r2⟩ := two_of r
    simp only [RV] at r1 r2; subst r1; subst r2
    exact .inr ⟨_, _, rfl, k.at_ si (by simp only [RV])⟩
  · cases ef
def minD (xs : List D) : M D := fun S => match xs with
  | [.int i, .int j] => some (.int (if j < i then j else i), S)
  | _ => none
theorem call_minD (hc : X.calm = true) : CallR X (.builtin "min") (rDc (gm c X) minD) := by
  refine CallR.imp (call_min2 hc) fun vs H Q h => ?_
  obtain ⟨η, S, xs, d, S', si, r, ef, k⟩ := h
  unfold minD at ef
  split at ef
  · cases ef
    obtain ⟨v, u, rfl, r1, r2⟩ := two_of r
    simp only [RV] at r1 r2; subst r1; subst r2
    exact ⟨_, _, rfl, k.at_ si (by simp only [RV])⟩
  · cases ef
def intD (xs : List D) : M D := fun S => match xs with
  | [.int i] => some (.int i, S)
  | [.bl b] => some (.int (if b then 1 else 0), S)
  | _ => none
theorem call_intD : CallR X (.type "int") (rDc (gm c X) intD) := by
  refine CallR.imp call_int1 fun vs H Q h => ?_
  obtain ⟨η, S, xs, d, S', si, r, ef, k⟩ := h
  unfold intD at ef
  split at ef
  · cases ef
    obtain ⟨v, rfl, r1⟩ := one_of r
    simp only [RV] at r1; subst r1
    exact .inl ⟨_, rfl, k.at_ si (by simp only [RV])⟩
  · cases ef
    obtain ⟨v, rfl, r1⟩ := one_of r
    simp only [RV] at r1; subst r1
    exact .inr ⟨_, rfl, k.at_ si (by simp only [RV])⟩
  · cases ef
def tupleD (xs : List D) : M D := fun S => match xs with
  | [x] => match itemsD x S with
    | some ds => some (.tup ds, S)
    | none => none
  | _ => none
theorem call_tupleD : CallR X (.type "tuple") (rDc (gm c X) tupleD) := by
  refine CallR.imp call_tuple_of fun vs H Q h => ?_
  obtain ⟨η, S, xs, d, S', si, r, ef, k⟩ := h
  unfold tupleD at ef
  split at ef
  · split at ef
    · rename_i x ds e0
      cases ef
      obtain ⟨v, rfl, r1⟩ := one_of r
      obtain ⟨a, vs, rfl, q, t⟩ := items_of si r1 e0
      rcases q with q | q
      · exact ⟨a, vs, rfl, .inl ⟨q, fun l hl => k.tup si t hl⟩⟩
      · refine ⟨a, vs, rfl, .inr ⟨q, k.at_ si ?_⟩⟩
        simp only [RV]
        exact ⟨a, vs, rfl, q, t⟩
    · cases ef
  · cases ef
def listofD (xs : List D) : M D := fun S => match xs with
  | [x] => match itemsD x S with
    | some ds => some (.ref S.length, S ++ [.lst ds])
    | none => none
  | _ => none
theorem call_listofD : CallR X (.type "list") (rDc (gm c X) listofD) := by
  refine CallR.imp call_list_of fun vs H Q h => ?_
  obtain ⟨η, S, xs, d, S', si, r, ef, k⟩ := h
  unfold listofD at ef
  split at ef
  · split at ef
    · rename_i x ds e0
      cases ef
      obtain ⟨v, rfl, r1⟩ := one_of r
      obtain ⟨a, vs, rfl, q, t⟩ := items_of si r1 e0
      exact ⟨a, vs, rfl, q, fun l hl => k.lst si t hl⟩
    · cases ef
  · cases ef
def reprD (xs : List D) : M D := fun S => match xs with
  | [.bl b] => some (.str (if b then "True" else "False"), S)
  | _ => none
theorem call_reprD : CallR X (.builtin "repr") (rDc (gm c X) reprD) := by
  intro pins s σ H vs us Q I r h
  obtain ⟨η, S, xs, d, S', si, rr, ef, k⟩ := h
  unfold reprD at ef
  split at ef
  · cases ef
    obtain ⟨v, rfl, r1⟩ := one_of rr
    simp only [RV] at r1; subst r1
    obtain ⟨u, rfl, r2⟩ := vals1 r
    cases r2
    exact PySem.P.repr_of_bool ⟨.str _, H, I.tok _, ⟨_, rfl⟩, k.at_ si (by simp only [RV])⟩
  · cases ef
def dictD (xs : List D) : M D := fun S => match xs with
  | [.ref n] => match S[n]? with
    | some (.dK kvs) => some (.ref S.length, S ++ [.dK kvs])
    | _ => none
  | _ => none
theorem call_dictD : CallR X (.type "dict") (rDc (gm c X) dictD) := by
  intro pins s σ H vs us Q I r h
  obtain ⟨η, S, xs, d, S', si, rr, ef, k⟩ := h
  unfold dictD at ef
  split at ef
  · split at ef
    · rename_i n _ kvs e0
      cases ef
      obtain ⟨v, rfl, r1⟩ := one_of rr
      simp only [RV] at r1
      obtain ⟨a, rfl, q⟩ := r1
      obtain ⟨u, rfl, r2⟩ := vals1 r
      cases r2
      obtain ⟨ws, h1, t⟩ := si.ob _ _ _ e0 q
      refine d_copyOf I (.inl h1) fun p s' hp I' => ⟨.ref p, _, I', rfl, ?_⟩
      obtain ⟨x2, s2⟩ := si.newO (o := .dK ws) (ob := .dK kvs) hp fun H' η' x h1 _ => ⟨ws, h1, t.mono si x⟩
      refine k _ _ _ x2 s2 ?_
      simp only [RV]
      exact ⟨p, rfl, by rw [← si.len]; simp⟩
    · cases ef
  · cases ef
end
end DL

set_option Elab.async false
set_option linter.all false
set_option maxRecDepth 100000
set_option maxHeartbeats 4000000
/-! DL6: sorted, isinstance, methods of built-in types, dicts made, own defs and classes -/
namespace DL
open PySem PySem.Spec L2
open PyProof.Rows hiding St

section
variable {c : Str → Option Addr} {X : Cx}
/-! ### sorted -/
def D.pdT (d : D) : PyData := d.pd.getD .none
def alikeB (xs : List PyData) : Bool := xs.all fun d => xs.all fun e => PySem.W.alike d e
def tupB : PyData → Bool
  | .tuple (_ :: _) => true
  | _ => false
def othB : PyData → Bool
  | .none => false
  | .tuple _ => false
  | _ => true
def sortB (xs : List PyData) : Bool := xs.all tupB || xs.all othB
def sortD (ds : List D) : List D := ds.mergeSort (PySem.W.dataLe false D.pdT)
theorem pds_map : ∀ {ds : List D} {xs : List PyData}, D.pds ds = some xs → ds.map D.pdT = xs ∧ ∀ d ∈ ds, ∃ x, d.pd = some x
  | [], _, e => by simp only [D.pds] at e; cases e; exact ⟨rfl, by simp⟩
  | d :: ds, _, e => by
    simp only [D.pds] at e
    split at e
    · rename_i x xs e1 e2
      cases e
      obtain ⟨h1, h2⟩ := pds_map e2
      refine ⟨by rw [List.map_cons, h1]; simp [D.pdT, e1], fun y hy => ?_⟩
      rcases List.mem_cons.mp hy with z | z
      · subst z; exact ⟨x, e1⟩
      · exact h2 y z
    · cases e
def sortedD (xs : List D) : M D := fun S => match xs with
  | [x] => match listD x S with
    | some ds => match D.pds ds with
      | some ps => if alikeB ps = true ∧ sortB ps = true ∧ ps.all (fun p => decide (p.depth ≤ 60)) = true then some (.ref S.length, S ++ [.lst (sortD ds)]) else none
      | none => none
    | none => none
  | _ => none
/-- an item of the list as a value: what the library's sort carries -/
def isV (g : Gm) (H : Hp) (η : List Addr) (u : Value) (d : D) : Prop := ∃ v, RelV v u ∧ RV g H η d v
theorem each_of {g : Gm} {H : Hp} {η : List Addr} : ∀ {ds : List D} {vs : List V} {us : List Value}, RVs g H η ds vs → Vals vs us → PySem.W.EachIs (isV g H η) us ds
  | [], _, _, r, q => by simp only [RVs] at r; subst r; cases q; exact .nil
  | d :: ds, _, _, r, q => by
    simp only [RVs] at r
    obtain ⟨v, r', rfl, h, t⟩ := r
    cases q with
    | cons q1 q2 => exact .cons ⟨v, q1, h⟩ (each_of t q2)
theorem of_each {g : Gm} {H : Hp} {η : List Addr} : ∀ {ds : List D} {us : List Value}, PySem.W.EachIs (isV g H η) us ds → ∃ vs, Vals vs us ∧ RVs g H η ds vs
  | _, _, .nil => ⟨[], .nil, RVs.nil⟩
  | _, _, .cons ⟨v, q, h⟩ t => by
    obtain ⟨vs, q2, r⟩ := of_each t
    exact ⟨v :: vs, .cons q q2, .cons h r⟩
theorem each_reads {H : Hp} {η : List Addr} {pins : List (Addr × Obj)} {σ : L2.St} {s : Shared} (I : Inv X pins σ H s) : ∀ {ds : List D} {vs : List V} {us : List Value}, RVs (gm c X) H η ds vs → Vals vs us → (∀ d ∈ ds, ∃ x, d.pd = some x) → PySem.W.EachIs (fun v b => ∃ as, Reads s.heap v (D.pdT b) as) us ds
  | [], _, _, r, q, _ => by simp only [RVs] at r; subst r; cases q; exact .nil
  | d :: ds, _, _, r, q, h0 => by
    simp only [RVs] at r
    obtain ⟨v, r', rfl, h, t⟩ := r
    cases q with
    | cons q1 q2 =>
      refine .cons ?_ (each_reads I t q2 fun y hy => h0 y (List.mem_cons_of_mem _ hy))
      obtain ⟨x, e⟩ := h0 d List.mem_cons_self
      have : D.pdT d = x := by simp [D.pdT, e]
      rw [this]
      exact Dp.reads I x v _ (RV.dp d v x h e) q1
theorem call_sortedD (hu : X.A.units + 64 < cLine) : CallR X (.builtin "sorted") (rDc (gm c X) sortedD) := by
  intro pins s σ H vs us Q I r h
  obtain ⟨η, S, xs, d, S', si, rr, ef, k⟩ := h
  unfold sortedD at ef
  split at ef
  · split at ef
    · rename_i x ds e0
      split at ef
      · rename_i ps e1
        split at ef
        · rename_i hh
          cases ef
          obtain ⟨v, rfl, r1⟩ := one_of rr
          obtain ⟨a, ws, rfl, q, t⟩ := list_of si r1 e0
          obtain ⟨its, rv, hl, hz⟩ := I.list q
          obtain ⟨u, rfl, ru⟩ := vals1 r
          cases ru
          obtain ⟨m1, m2⟩ := pds_map e1
          have hal : PySem.W.AllAlike (ds.map D.pdT) := by
            rw [m1]
            intro d hd d' hd'
            exact List.all_eq_true.mp (List.all_eq_true.mp hh.1 d hd) d' hd'
          have hk : PySem.W.Sortable (ds.map D.pdT) := by
            rw [m1]
            rcases Bool.or_eq_true_iff.mp hh.2.1 with z | z
            · refine .inl fun d hd => ?_
              have := List.all_eq_true.mp z d hd
              cases d <;> simp [tupB] at this
              rename_i ys
              cases ys with
              | nil => simp at this
              | cons y ys => exact ⟨y, ys, rfl⟩
            · refine .inr fun d hd => ?_
              have := List.all_eq_true.mp z d hd
              cases d <;> simp [othB] at this ⊢
          have hdep : ∀ b, b ∈ ds → X.A.units + 2 + (D.pdT b).depth < cLine := fun b hb => by
            have h1 : D.pdT b ∈ ps := by rw [← m1]; exact List.mem_map_of_mem hb
            have h2 := of_decide_eq_true (List.all_eq_true.mp hh.2.2 _ h1)
            omega
          refine PySem.W.sorted_data (enc := D.pdT) (R := isV (gm c X) H η) hl.isList (each_of t rv) (each_reads I t rv m2) hal hk (by rw [← t.length]; exact hz) hdep fun out ho eo => ?_
          obtain ⟨ep, he'⟩ := PyProof.Rows.sortedAll_at s.heap its (List.toArray out)
          obtain ⟨ys, q1, q2⟩ := of_each eo
          have hlen : ys.length ≤ sizeLine := by rw [q2.length, List.length_mergeSort, ← t.length]; exact hz
          refine ⟨.ref _, upd H (s.heap.objs.size + 1) (.lst ys), I.laid (t' := s.toks) (fun _ _ => PyProof.Rows.sortedAll_old) (Nat.le_succ _) ⟨hlen, out, ep, q1, ?_⟩, rfl, k.lst si q2 (I.hok.fresh (Nat.le_succ _))⟩
          exact he'
        · cases ef
      · cases ef
    · cases ef
  · cases ef

/-! ### isinstance(x, T), T a built-in type -/
def tyD (S : Sto) : D → Option String
  | .non => some "NoneType"
  | .bl _ => some "bool"
  | .int _ => some "int"
  | .str _ => some "str"
  | .tup _ => some "tuple"
  | .fro _ => some "list"
  | .ref n => match S[n]? with
    | some (.lst _) => some "list"
    | some (.dK _) => some "dict"
    | _ => none
def isiB (a b : String) : Bool := a == b || (a == "bool" && b == "int")
def isiD (T : String) (x : D) : M D := fun S => match tyD S x with
  | some a => some (.bl (isiB a T), S)
  | none => none
def fIsi (T : String) (f : Env → M D) : Env → M D := fun ρ => bd (f ρ) (isiD T)
theorem ty_of {H : Hp} {η : List Addr} {S : Sto} (si : Sim (gm c X) H η S) {x : D} {v : V} {a : String} (r : RV (gm c X) H η x v) (e : tyD S x = some a) : TyX X.K H v (.type a) := by
  cases x <;> simp only [tyD] at e
  · cases e; simp only [RV] at r; subst r; exact .base .non
  · cases e; simp only [RV] at r; subst r; exact .base (.bl _)
  · cases e; simp only [RV] at r; subst r; exact .base (.int _)
  · cases e; simp only [RV] at r; subst r; exact .base (.str _)
  · cases e
    simp only [RV] at r
    obtain ⟨p, vs, rfl, q, _⟩ := r
    rcases q with (q | ⟨o, q⟩) | ⟨o, its, n, q, h1, _⟩
    · exact .base (.tup q)
    · exact .fTuple q
    · exact .kTuple q h1
  · cases e
    simp only [RV] at r
    obtain ⟨p, vs, rfl, q, _⟩ := r
    rcases q with ⟨o, q⟩ | q
    · exact .base (.frz q)
    · rcases q (fun _ => none) with (z | ⟨o, z⟩) | ⟨o, its, n, z, h1, _⟩
      · cases z
      · cases z
      · exact .kList z h1
  · simp only [RV] at r
    obtain ⟨p, rfl, q⟩ := r
    split at e
    · rename_i e0
      cases e
      obtain ⟨vs, h1, _⟩ := si.ob _ _ _ e0 q
      exact .base (.lst h1)
    · rename_i e0
      cases e
      obtain ⟨vs, h1, _⟩ := si.ob _ _ _ e0 q
      exact .base (.dK h1)
    · cases e
theorem de_isi {T : String} {a : Expr} {f : Env → M D} {n : Str} {p p2 pos : Pos} (ha : PE X a (tD (gm c X) f)) (hg : Gl X "isinstance") (hm : X.mg "isinstance" = none) (hg2 : Gl X n) (hm2 : X.mg n = none) (hv2 : bootBuiltins n = some (.type T))
    (hk : ∀ t, t ∈ ["NoneType", "bool", "int", "str", "tuple", "list", "dict"] → kitB t T = some (isiB t T)) (hn2 : n ≠ "__name__" := by decide) (hd2 : (n == ("__debug__" : Str)) = false := by decide)
    (he1 : starEach [.Name n p2] X.env = [(false, eval (.Name n p2) X.env)] := by rfl) (he : starEach [a, .Name n p2] X.env = [(false, eval a X.env), (false, eval (.Name n p2) X.env)] := by rfl) :
    PE X (.Call (.Name "isinstance" p) [a, .Name n p2] [] pos) (tD (gm c X) (fIsi T f)) := by
  have h1 : PE X (.Name n p2) (tC (.ty T)) := pe_bltn hg2 hm2 hv2 rfl hn2 hd2
  refine PE.imp (pe_callB call_isi hg hm (by decide +kernel) (pa_cons ha (pa_cons h1 pa_nil (by rw [he1] <;> rfl)) (by rw [he, he1])) (by decide) (by decide) (by rw [he, he1]) (by rw [he1]; rfl)) fun σ H Q q => ?_
  obtain ⟨ρ, η, S, d, S', er, si, ef, k⟩ := q
  obtain ⟨x, S1, e1, ef⟩ := bd_some ef
  refine ⟨ρ, η, S, x, S1, er, si, e1, fun v H1 η1 x1 s1 r1 => ?_⟩
  unfold isiD at ef
  split at ef
  · rename_i t e2
    cases ef
    refine ⟨v, .ty T, .type t, .type T, isiB t T, rfl, .ty T, ty_of s1 r1 e2, kit_ty (hk t ?_), k _ H1 η1 x1 s1 (by simp only [RV])⟩
    cases x <;> simp only [tyD] at e2 <;> first
      | (cases e2; decide)
      | (split at e2 <;> first | (cases e2; decide) | cases e2)
  · cases ef

/-! ### found.append(x) -/
def isLst (o : D) : M D := fun S => match o with
  | .ref n => match S[n]? with
    | some (.lst _) => some (o, S)
    | _ => none
  | _ => none
def appD (o x : D) : M D := fun S => match o with
  | .ref n => match S[n]? with
    | some (.lst ds) => if ds.length < LINE then some (.non, S.set n (.lst (ds ++ [x]))) else none
    | _ => none
  | _ => none
def fApp (f k : Env → M D) : Env → M D := fun ρ => bd (bd (f ρ) isLst) fun o => bd (k ρ) fun x => appD o x
theorem de_app {o e : Expr} {apos cpos : Pos} {f k : Env → M D} (ho : PE X o (tD (gm c X) f)) (he : PE X e (tD (gm c X) k)) 
    (hbase : attributeBase o "append" X.env (eval o X.env) = eval o X.env := by rfl)
    (hfew : ((backTo cpos (starEach [e] X.env)).all (fun x => !x.1) && (backToKw cpos (keywordEach [] X.env)).all (fun x => x.1.isSome)
      && decide (([e] : List Expr).length + ([] : List Keyword).length + (if ([] : List Keyword).isEmpty then 0 else 1) < 30)) = true := by rfl)
    (hline : (apos.endLine == cpos.line) = true := by rfl) (hs : starEach [e] X.env = [(false, eval e X.env)] := by rfl) :
    PE X (.Call (.Attribute o "append" apos) [e] [] cpos) (tD (gm c X) (fApp f k)) := by
  refine PE.imp (pe_bm PySem.F.plainAttrs_list PySem.F.slot_list_append PySem.F.type_list_append mt_append ho (pa_cons he pa_nil hs) hbase hfew hline hs (by rfl)) fun σ H Q q => ?_
  obtain ⟨ρ, η, S, d, S', er, si, ef, kk⟩ := q
  obtain ⟨o', S1, e1, ef⟩ := bd_some ef
  obtain ⟨o2, S0, e0, e1⟩ := bd_some e1
  unfold isLst at e1
  split at e1
  · rename_i n
    split at e1
    · rename_i ds0 q0
      cases e1
      obtain ⟨x, S2, e2, ef⟩ := bd_some ef
      refine ⟨ρ, η, S, _, _, er, si, e0, fun v H1 η1 x1 s1 r1 => ?_⟩
      have r1' := r1
      simp only [RV] at r1
      obtain ⟨a, rfl, qa⟩ := r1
      obtain ⟨vs0, h0, _⟩ := s1.ob _ _ _ q0 qa
      refine ⟨.inl ⟨rfl, vs0, SqL.of h0⟩, ρ, η1, _, x, S2, er.mono si x1, s1, e2, fun u H2 η2 x2 s2 r2 => ?_⟩
      simp only [appD] at ef
      split at ef
      · rename_i ds q2
        split at ef
        · rename_i hl
          cases ef
          have qa2 := x2.get qa
          obtain ⟨vs, h1, t⟩ := s2.ob _ _ _ q2 qa2
          refine ⟨a, vs, u, rfl, rfl, h1, by rw [t.length, line_eq]; exact hl, ?_⟩
          obtain ⟨x3, s3⟩ := s2.put (o := .lst (vs ++ [u])) (ob := .lst (ds ++ [x])) qa2 fun H' xx h3 => ⟨_, h3, (t.mono s2 xx).append (.one (r2.mono s2 xx))⟩
          exact kk _ _ η2 ((x1.trans x2).trans x3) s3 (by simp only [RV])
        · cases ef
      · cases ef
    · cases e1
  · cases e1

/-! ### dicts made -/
def fDict0 (f : Unit) : Env → M D := fun _ => alloc (.dK [])
def fDictN : Env → M D := fun _ => alloc (.dN [])
theorem de_dict0 {pos : Pos} : PE X (.Dict [] [] pos) (tD (gm c X) (fDict0 ())) := by
  refine PE.imp pe_dnewK fun σ H Q q => ?_
  obtain ⟨ρ, η, S, d, S', er, si, ef, kk⟩ := q
  cases ef
  intro p hp
  obtain ⟨x2, s2⟩ := si.newO (o := .dK []) (ob := .dK []) hp fun H' η' x h1 _ => ⟨[], h1, .nil⟩
  refine kk _ _ _ x2 s2 ?_
  simp only [RV]
  exact ⟨p, rfl, by rw [← si.len]; simp⟩
theorem de_dictN {pos : Pos} : PE X (.Dict [] [] pos) (tD (gm c X) fDictN) := ⟨fun pins s σ H Q I h => by
  obtain ⟨ρ, η, S, d, S', er, si, ef, kk⟩ := h
  cases ef
  have hn := I.hok.fresh (Nat.le_refl s.heap.objs.size)
  have hg : (s.heap.push { cls := .type "dict", data := .dict #[] }).get? s.heap.objs.size = some { cls := .type "dict", data := .dict #[] } := Heap.get?_push_size _ rfl
  have I1 := I.laid (a := s.heap.objs.size) (o := .ext fun h => h.get? s.heap.objs.size = some { cls := .type "dict", data := .dict #[] }) (h' := s.heap.push { cls := .type "dict", data := .dict #[] }) (t' := s.toks) (fun _ _ q => Heap.get?_push_of_some _ q) (Nat.le_refl _)
    ⟨hg, ⟨_, hg⟩, fun h1 h2 a b => b _ a⟩
  refine wpAny_Dict_empty ⟨.ref s.heap.objs.size, _, I1, rfl, ?_⟩
  obtain ⟨x2, s2⟩ := si.newO (o := .ext fun h => h.get? s.heap.objs.size = some { cls := .type "dict", data := .dict #[] }) (ob := .dN []) hn fun H' η' x h1 _ =>
    ⟨_, h1, beq_eq_false_iff_ne.mpr (Ne.symm (Nat.ne_of_lt I.big)), ⟨rfl, rfl, rfl⟩, #[], 0, [], rfl, rfl, List.nodup_nil, .nil⟩
  refine kk _ _ _ x2 s2 ?_
  simp only [RV]
  exact ⟨_, rfl, by rw [← si.len]; simp⟩⟩

/-- {'a': x, ..}: written texts as keys -/
def pairsD : List (Str × (Env → M D)) → Env → M (List (Key × D))
  | [], _ => pu []
  | (k, f) :: r, ρ => bd (f ρ) fun d => bd (pairsD r ρ) fun ps => pu ((Sum.inr k, d) :: ps)
def mergeD (kvs more : List (Key × D)) : List (Key × D) := more.foldl (fun acc p => putD acc p.1 p.2) kvs
def fDisp (ps : List (Str × (Env → M D))) : Env → M D := fun ρ => bd (pairsD ps ρ) fun kvs => if kvs.length ≤ 15 then alloc (.dK (mergeD [] kvs)) else no
def trsOf (g : Gm) : List (Str × (Env → M D)) → List (TE × TE)
  | [] => []
  | (k, f) :: r => (tC (.str k), tD g f) :: trsOf g r
theorem RK.merge {g : Gm} {H : Hp} {η : List Addr} {kvs : List (Key × D)} {vs : List (Key × V)} {more : List (Key × D)} {ms : List (Key × V)} (r : RK g H η kvs vs) (m : RK g H η more ms) : RK g H η (mergeD kvs more) (mergeK vs ms) := by
  induction m generalizing kvs vs with
  | nil => exact r
  | cons a t ih => exact ih (r.put _ a)
theorem pairs_run {g : Gm} {σ : L2.St} {ρ : Env} {p : Addr} {Qf : List (V × V) → Hp → Prop} : ∀ (ps : List (Str × (Env → M D))) (H : Hp) (η : List Addr) (S S' : Sto) (kvs : List (Key × D)), EnvR g H η ρ σ → Sim g H η S → pairsD ps ρ S = some (kvs, S') → H p = some (.dK []) → p ∉ η →
    (∀ H' η' vs, Ext H η H' η' → Sim g H' η' S' → RK g H' η' kvs vs → H' p = some (.dK []) → p ∉ η' → Qf (vs.map fun kv => (kV kv.1, kv.2)) H') → tPairs (trsOf g ps) σ H Qf
  | [], H, η, S, S', kvs, er, si, e, hp, hn, q => by
    cases e
    exact q H η [] (Ext.refl _ _) si .nil hp hn
  | (k, f) :: r, H, η, S, S', kvs, er, si, e, hp, hn, q => by
    obtain ⟨d, S1, e1, e⟩ := bd_some e
    obtain ⟨ps, S2, e2, e⟩ := bd_some e
    cases e
    refine ⟨ρ, η, S, d, S1, er, si, e1, fun v H1 η1 x1 s1 r1 => ?_⟩
    have hp1 : H1 p = some (.dK []) := x1.kp p _ hp hn
    have hn1 : p ∉ η1 := fun z => by
      rcases x1.nw p z with z | z
      · exact hn z
      · rw [hp] at z; cases z
    refine pairs_run r H1 η1 S1 _ ps (er.mono si x1) s1 e2 hp1 hn1 fun H2 η2 vs x2 s2 r2 hp2 hn2 => ?_
    exact q H2 η2 ((.inr k, v) :: vs) (x1.trans x2) s2 (.cons (r1.mono s1 x2) r2) hp2 hn2
theorem de_disp {pos : Pos} {keys : List (Option Expr)} {values : List Expr} {ps : List (Str × (Env → M D))} (h : PPs X pos keys values (trsOf (gm c X) ps)) (hall : keys.all (·.isSome) = true := by rfl) (hl : keys.length = values.length := by rfl) (h0 : keys ≠ [] := by (intro z; cases z))
    (h15 : keys.length ≤ 15 := by decide) : PE X (.Dict keys values pos) (tD (gm c X) (fDisp ps)) := by
  refine PE.imp (pe_disp h hall hl h0 h15) fun σ H Q q => ?_
  obtain ⟨ρ, η, S, d, S', er, si, ef, kk⟩ := q
  obtain ⟨kvs, S1, e1, ef⟩ := bd_some ef
  split at ef
  · rename_i h15
    cases ef
    intro p hp
    obtain ⟨x0, s0⟩ := si.newT hp (.dK [])
    refine pairs_run ps _ η S S1 kvs (er.mono si x0) s0 e1 upd_same (si.fresh hp) fun H1 η1 vs x1 s1 r1 hp1 hn1 => ⟨hp1, vs, rfl, by rw [r1.length]; exact h15, ?_⟩
    have ex : Ext H η (upd H1 p (.dK (mergeK [] vs))) (η1 ++ [p]) := by
      have xx := x0.trans x1
      obtain ⟨t, ht⟩ := xx.pre
      refine ⟨⟨t ++ [p], by rw [ht]; simp⟩, fun a o h n => ?_, fun a m => ?_⟩
      · rw [upd_ne (fun z => by rw [z, hp] at h; cases h)]
        exact xx.kp a o h n
      · rcases List.mem_append.mp m with m | m
        · exact xx.nw a m
        · rw [List.mem_singleton.mp m]; exact .inr hp
    obtain ⟨t2, s2⟩ := s1.adopt (p := p) (o := .dK (mergeK [] vs)) (ob := .dK (mergeD [] kvs)) hn1 (fun xs z => by rw [hp1] at z; cases z) (fun o u z => by rw [hp1] at z; cases z) fun tk => ⟨_, upd_same, RK.merge .nil (r1.monoT tk)⟩
    refine kk _ _ _ ex s2 ?_
    simp only [RV]
    exact ⟨p, rfl, by rw [← s1.len]; simp⟩
  · cases ef
end
end DL

set_option Elab.async false
set_option linter.all false
set_option maxRecDepth 100000
set_option maxHeartbeats 4000000
/-! DL7: own defs and classes; what is walked -/
namespace DL
open PySem PySem.Spec L2
open PyProof.Rows hiding St

/-- a def's promise by a plain function -/
def spD (g : Gm) (n : Nat) (h : List D → M D) : Sp := fun vs H Q _ => ∃ η S ds d S', Sim g H η S ∧ RVs g H η ds vs ∧ ds.length = n ∧ h ds S = some (d, S') ∧ Kt g H η S' d Q
theorem spD_len {g : Gm} {n : Nat} {h : List D → M D} {vs : List V} {H : Hp} {Q : VK} {E : XK} (q : spD g n h vs H Q E) : vs.length = n := by
  obtain ⟨η, S, ds, d, S', _, r, l, _⟩ := q
  rw [r.length, l]
def chk (n : Nat) (h : List D → M D) (ds : List D) : M D := if ds.length = n then h ds else no
structure CallOk (c : Str → Option Addr) (X : Cx) (x : Str) (k n : Nat) (h : List D → M D) : Prop where
  ex : ∃ f fd ps, FnOk X.prog X.w X.K X.mg X.base CX0 k f fd ps (spD (gm c X) n h) ∧ X.mg x = some (.ref f) ∧ PySem.W.keepIn X.K (.ref f) = true ∧ Binds X.K fd ps [] ∧ Room k X.A
structure MethOk (c : Str → Option Addr) (X : Cx) (cn m : Str) (k n : Nat) (h : List D → M D) : Prop where
  ex : ∃ C f fd ps, c cn = some C ∧ Cls X.K C ∧ Meth X.K C m f ∧ FnOk X.prog X.w X.K X.mg X.base CX0 k f fd ps (spD (gm c X) n h) ∧ Binds X.K fd ps [] ∧ Room k X.A
structure MakeOk (c : Str → Option Addr) (X : Cx) (cn : Str) (k n : Nat) (h : List D → M D) : Prop where
  ex : ∃ C f fd ps, c cn = some C ∧ X.mg cn = some (.ref C) ∧ Mk X.K C f ∧ FnOk X.prog X.w X.K X.mg X.base CX0 k f fd ps (spD (gm c X) n h) ∧ Binds X.K fd ps [] ∧ Room (k + 1) X.A
structure FldOk (c : Str → Option Addr) (X : Cx) (cn f : Str) : Prop where
  ex : ∃ C, c cn = some C ∧ Cls X.K C ∧ NoAttr X.K C f
def fMeth (cn m : Str) (n : Nat) (h : List D → M D) (f : Env → M D) (r : Env → M (List D)) : Env → M D := fun ρ => bd (f ρ) fun o => bd (fun S => match o with
    | .ref i => match S[i]? with
      | some (.ins cn' fs) => if cn' = cn ∧ fs.lookup m = none then some ((), S) else none
      | _ => none
    | _ => none) fun _ => bd (r ρ) fun ds => chk n h (o :: ds)
def makeD (cn : Str) (n : Nat) (h : List D → M D) (ds : List D) : M D := fun S => match chk n h (.ref S.length :: ds) (S ++ [.ins cn []]) with
  | some (.non, S') => some (.ref S.length, S')
  | _ => none
def fldD (cn f : Str) (o : D) : M D := fun S => match o with
  | .ref i => match S[i]? with
    | some (.ins cn' fs) => if cn' = cn then match fs.lookup f with
      | some d => some (d, S)
      | none => none else none
    | _ => none
  | _ => none
def fFld (cn f : Str) (k : Env → M D) : Env → M D := fun ρ => bd (k ρ) (fldD cn f)
theorem RK.lookup {g : Gm} {H : Hp} {η : List Addr} {fs : List (Str × D)} {vs : List (Str × V)} (r : RK g H η fs vs) (f : Str) : (∀ d, fs.lookup f = some d → ∃ v, vs.lookup f = some v ∧ RV g H η d v) ∧ (fs.lookup f = none → vs.lookup f = none) := by
  induction r with
  | nil => exact ⟨fun _ h => (nomatch h), fun _ => rfl⟩
  | @cons k d v r s a b ih =>
    by_cases e : f = k
    · subst e
      simp only [List.lookup, beq_self_eq_true]
      exact ⟨fun d' h => by cases h; exact ⟨v, rfl, a⟩, fun h => (nomatch h)⟩
    · have : (f == k) = false := by simpa using e
      simp only [List.lookup, this]
      exact ih

section
variable {c : Str → Option Addr} {X : Cx} {x cn m f : Str} {k n : Nat} {h : List D → M D} {e o : Expr} {es : List Expr} {p pos apos : Pos} {r : Env → M (List D)} {ff : Env → M D}
theorem spD_of {g : Gm} {H : Hp} {η : List Addr} {S S' : Sto} {ds : List D} {vs : List V} {d : D} {Q : VK} {E : XK} (si : Sim g H η S) (rr : RVs g H η ds vs) (ef : chk n h ds S = some (d, S')) (k : Kt g H η S' d Q) : spD g n h vs H Q E := by
  unfold chk at ef
  split at ef
  · rename_i hl
    exact ⟨η, S, ds, d, S', si, rr, hl, ef, k⟩
  · cases ef
theorem de_call (C : CallOk c X x k n h) (hg : Gl X x) (ha : PA X (e :: es) (tDA (gm c X) r)) (hdb : (x == ("__debug__" : Str)) = false := by decide) (he : starEach (e :: es) X.env = (false, eval e X.env) :: starEach es X.env := by rfl) (hpl : (backTo pos (starEach es X.env)).any (·.1) = false := by rfl) :
    PE X (.Call (.Name x p) (e :: es) [] pos) (tD (gm c X) (fCall (chk n h) r)) := by
  obtain ⟨fa, fd, ps, F, hm, hk, hb, hr⟩ := C.ex
  refine PE.imp (pe_call F hr hg hm hk hb .nil pass0 ha hdb he hpl) fun σ H Q q => ?_
  obtain ⟨ρ, η, S, d, S', er, si, ef, kk⟩ := q
  obtain ⟨xs, S1, e1, ef⟩ := bd_some ef
  refine ⟨ρ, η, S, xs, S1, er, si, e1, fun vs H1 η1 x1 s1 r1 => ?_⟩
  show spD (gm c X) n h (vs ++ []) H1 Q E0
  rw [List.append_nil]
  exact spD_of s1 r1 ef fun v H2 η2 x2 s2 r2 => kk v H2 η2 (x1.trans x2) s2 r2
theorem de_call0 (C : CallOk c X x k n h) (hg : Gl X x) (hdb : (x == ("__debug__" : Str)) = false := by decide) : PE X (.Call (.Name x p) [] [] pos) (tD (gm c X) (fCall (chk n h) aNil)) := by
  obtain ⟨fa, fd, ps, F, hm, hk, hb, hr⟩ := C.ex
  refine PE.imp (pe_call0 F hr hg hm hk hb .nil pass0 hdb) fun σ H Q q => ?_
  obtain ⟨ρ, η, S, d, S', er, si, ef, kk⟩ := q
  obtain ⟨xs, S1, e1, ef⟩ := bd_some ef
  cases e1
  show spD (gm c X) n h ([] ++ []) H Q E0
  exact spD_of si RVs.nil ef kk
theorem meth_run {C : Addr} (hC : c cn = some C) {t : Env → M (List D)} {σ : L2.St} {H : Hp} {Q : VK} (q : tD (gm c X) (fMeth cn m n h ff t) σ H Q) : tMeth C m (spD (gm c X) n h) [] E0 (tD (gm c X) ff) (tDA (gm c X) t) σ H Q := by
  obtain ⟨ρ, η, S, d, S', er, si, ef, kk⟩ := q
  obtain ⟨o', S1, e1, ef⟩ := bd_some ef
  obtain ⟨u, S2, e2, ef⟩ := bd_some ef
  obtain ⟨xs, S3, e3, ef3⟩ := bd_some ef
  refine ⟨ρ, η, S, o', S1, er, si, e1, fun v H1 η1 x1 s1 r1 => ?_⟩
  cases o' with
  | ref i =>
    have r1' := r1
    simp only [RV] at r1
    obtain ⟨a, rfl, qa⟩ := r1
    simp only at e2
    split at e2
    · rename_i cn' fs q0
      split at e2
      · rename_i hcn
        cases e2
        obtain ⟨rfl, hl⟩ := hcn
        obtain ⟨C', dx, vs, hC', hH, hr⟩ := s1.ob _ _ _ q0 qa
        have : C' = C := by have z : c _ = some C' := hC'; rw [hC] at z; exact (Option.some.inj z).symm
        subst this
        refine ⟨a, dx, vs, rfl, hH, (hr.lookup m).2 hl, ρ, η1, _, xs, S3, er.mono si x1, s1, e3, fun ws H2 η2 x2 s2 r2 => ?_⟩
        show spD (gm c X) n h (V.ref a :: (ws ++ [])) H2 Q E0
        rw [List.append_nil]
        exact spD_of s2 (.cons (r1'.mono s1 x2) r2) ef3 fun v H3 η3 x3 s3 r3 => kk v H3 η3 ((x1.trans x2).trans x3) s3 r3
      · cases e2
    · cases e2
  | _ => cases e2
theorem de_meth {pl : Sem Bool} (C : MethOk c X cn m k n h) (ho : PE X o (tD (gm c X) ff)) (ha : PA X (e :: es) (tDA (gm c X) r)) (hst : starEach (e :: es) X.env = (false, eval e X.env) :: starEach es X.env := by rfl) (hpl : (backTo pos (starEach es X.env)).any (·.1) = false := by rfl)
    (ht : eval (.Call (.Attribute o m apos) (e :: es) [] pos) X.env = (do
      let ov ← eval o X.env
      standAt apos.atName
      let (f, first) ← holding [ov] (getMethod ov m pl)
      callWith pos f first (backTo pos (starEach (e :: es) X.env)) (backToKw pos (keywordEach [] X.env))) := by rfl) :
    PE X (.Call (.Attribute o m apos) (e :: es) [] pos) (tD (gm c X) (fMeth cn m n h ff r)) := by
  obtain ⟨Ca, fa, fd, ps, hC, hcl, hm, F, hb, hr⟩ := C.ex
  exact PE.imp (pe_meth ho hcl hm F hr hb .nil pass0 ha hst hpl ht) fun σ H Q q => meth_run hC q
theorem de_meth0 {pl : Sem Bool} (C : MethOk c X cn m k n h) (ho : PE X o (tD (gm c X) ff))
    (ht : eval (.Call (.Attribute o m apos) [] [] pos) X.env = (do
      let ov ← eval o X.env
      standAt apos.atName
      let (f, first) ← holding [ov] (getMethod ov m pl)
      callWith pos f first (backTo pos (starEach [] X.env)) (backToKw pos (keywordEach [] X.env))) := by rfl) :
    PE X (.Call (.Attribute o m apos) [] [] pos) (tD (gm c X) (fMeth cn m n h ff aNil)) := by
  obtain ⟨Ca, fa, fd, ps, hC, hcl, hm, F, hb, hr⟩ := C.ex
  refine PE.imp (pe_meth0 ho hcl hm F hr hb .nil pass0 ht) fun σ H Q q => ?_
  obtain ⟨ρ, η, S, d, S', er, si, ef, kk⟩ := meth_run hC q
  refine ⟨ρ, η, S, d, S', er, si, ef, fun v H1 η1 x1 s1 r1 => ?_⟩
  obtain ⟨a, dx, fs, e1, e2, e3, q'⟩ := kk v H1 η1 x1 s1 r1
  refine ⟨a, dx, fs, e1, e2, e3, ?_⟩
  obtain ⟨ρ', η', S2, ds, S3, er', si', ef', k'⟩ := q'
  cases ef'
  exact k' [] H1 η' (Ext.refl _ _) si' RVs.nil
/-- a new instance -/
theorem Sim.newI {g : Gm} {H : Hp} {η : List Addr} {S : Sto} (s : Sim g H η S) {x dx C : Addr} (hx : H x = none) (hdx : H dx = none) (hne : dx ≠ x) {cn : Str} (hC : g.cls cn = some C) :
    Ext H η (upd (upd H dx (.own x)) x (.ins C dx [])) (η ++ [x]) ∧ Sim g (upd (upd H dx (.own x)) x (.ins C dx [])) (η ++ [x]) (S ++ [.ins cn []]) := by
  obtain ⟨e1, s1⟩ := s.newT hdx (.own x)
  have hx1 : upd H dx (.own x) x = none := by rw [upd_ne (Ne.symm hne)]; exact hx
  obtain ⟨e2, s2⟩ := s1.newO hx1 (o := .ins C dx []) (ob := .ins cn []) fun H' η' _ h1 _ => ⟨C, dx, [], hC, h1, .nil⟩
  exact ⟨e1.trans e2, s2⟩
theorem make_run {C : Addr} (hC : c cn = some C) {σ : L2.St} {H : Hp} {Q : VK} {t : Env → M (List D)} (q : tD (gm c X) (fCall (makeD cn n h) t) σ H Q) : tMake C (spD (gm c X) n h) [] E0 (tDA (gm c X) t) σ H Q := by
  obtain ⟨ρ, η, S, d, S', er, si, ef, kk⟩ := q
  obtain ⟨xs, S1, e1, ef⟩ := bd_some ef
  refine ⟨ρ, η, S, xs, S1, er, si, e1, fun vs H1 η1 x1 s1 r1 xa dx h1 h2 h3 => ?_⟩
  show spD (gm c X) n h (.ref xa :: (vs ++ [])) _ _ E0
  rw [List.append_nil]
  obtain ⟨x2, s2⟩ := s1.newI (g := gm c X) h1 h2 h3 hC
  unfold makeD at ef
  split at ef
  · rename_i S2 e2
    cases ef
    have ra : RV (gm c X) (upd (upd H1 dx (.own xa)) xa (.ins C dx [])) (η1 ++ [xa]) (.ref S1.length) (.ref xa) := by
      simp only [RV]
      exact ⟨xa, rfl, by rw [← s1.len]; simp⟩
    refine spD_of s2 (.cons ra (r1.mono s1 x2)) e2 fun v H3 η3 x3 s3 r3 => ?_
    simp only [RV] at r3
    exact ⟨r3, kk _ H3 η3 ((x1.trans x2).trans x3) s3 (ra.mono s2 x3)⟩
  · cases ef
theorem de_make (C : MakeOk c X cn k n h) (hg : Gl X cn) (ha : PA X (e :: es) (tDA (gm c X) r)) (hdb : (cn == ("__debug__" : Str)) = false := by decide) (he : starEach (e :: es) X.env = (false, eval e X.env) :: starEach es X.env := by rfl) (hpl : (backTo pos (starEach es X.env)).any (·.1) = false := by rfl) :
    PE X (.Call (.Name cn p) (e :: es) [] pos) (tD (gm c X) (fCall (makeD cn n h) r)) := by
  obtain ⟨Ca, fa, fd, ps, hC, hm, M, F, hb, hr⟩ := C.ex
  exact PE.imp (pe_make M F hr hg hm hb .nil pass0 ha hdb he hpl) fun σ H Q q => make_run hC q
theorem de_make0 (C : MakeOk c X cn k n h) (hg : Gl X cn) (hdb : (cn == ("__debug__" : Str)) = false := by decide) : PE X (.Call (.Name cn p) [] [] pos) (tD (gm c X) (fCall (makeD cn n h) aNil)) := by
  obtain ⟨Ca, fa, fd, ps, hC, hm, M, F, hb, hr⟩ := C.ex
  refine PE.imp (pe_make0 M F hr hg hm hb .nil pass0 hdb) fun σ H Q q => ?_
  obtain ⟨ρ, η, S, ds, S', er, si, ef, kk⟩ := make_run hC q
  cases ef
  exact kk [] H η (Ext.refl _ _) si RVs.nil
theorem de_fld (F : FldOk c X cn f) (ho : PE X o (tD (gm c X) ff)) (hb : attributeBase o f X.env (eval o X.env) = eval o X.env := by rfl) : PE X (.Attribute o f pos) (tD (gm c X) (fFld cn f ff)) := by
  obtain ⟨C, hC, hcl, hna⟩ := F.ex
  refine PE.imp (pe_fld ho hb) fun σ H Q q => ?_
  obtain ⟨ρ, η, S, d, S', er, si, ef, kk⟩ := q
  obtain ⟨o', S1, e1, ef⟩ := bd_some ef
  refine ⟨ρ, η, S, o', S1, er, si, e1, fun v H1 η1 x1 s1 r1 => ?_⟩
  unfold fldD at ef
  split at ef
  · split at ef
    · rename_i cn' fs q0
      split at ef
      · rename_i hcn
        split at ef
        · rename_i d' hl
          cases ef
          subst hcn
          simp only [RV] at r1
          obtain ⟨a, rfl, qa⟩ := r1
          obtain ⟨C', dx, vs, hC', hH, hr⟩ := s1.ob _ _ _ q0 qa
          have : C' = C := by have z : c _ = some C' := hC'; rw [hC] at z; exact (Option.some.inj z).symm
          subst this
          obtain ⟨v', h1, h2⟩ := (hr.lookup f).1 _ hl
          exact ⟨a, C', dx, vs, v', rfl, hH, hcl, hna, h1, kk v' H1 η1 x1 s1 h2⟩
        · cases ef
      · cases ef
    · cases ef
  · cases ef
end

/-! ### what a loop walks -/
structure Src where
  n : Nat
  ok : Sto → Bool
  item : Nat → Sto → Option D
structure Runs (g : Gm) (J : It) (src : Src) (H0 : Hp) (η0 : List Addr) : Prop where
  go : ∀ i H η S d, Tk H0 η0 H η → Sim g H η S → i < src.n → src.item i S = some d → J.go i H
  yld : ∀ i H η S d x H', Tk H0 η0 H η → Sim g H η S → i < src.n → src.item i S = some d → J.yld i H x H' → Ext H η H' η ∧ Sim g H' η S ∧ RV g H' η d x ∧ (∀ a o, H a = some o → H' a = some o)
  stop : ∀ H η S, Tk H0 η0 H η → Sim g H η S → src.ok S = true → J.stop src.n H
def tDI (g : Gm) (f : Env → M Src) : TI := fun σ H R => ∃ ρ η S src S', EnvR g H η ρ σ ∧ Sim g H η S ∧ f ρ S = some (src, S') ∧ ∀ J H' η', Ext H η H' η' → Sim g H' η' S' → Runs g J src H' η' → R J H'
theorem PI.imp {X : Cx} {tg iter : Expr} {w w' : TI} (h : PI X tg iter w) (i : ∀ σ H R, w' σ H R → w σ H R) : PI X tg iter w' := ⟨fun pins s σ H R I q => h.run pins s σ H R I (i σ H R q)⟩
theorem PI.or {X : Cx} {tg iter : Expr} {w w' : TI} (h : PI X tg iter w) (h' : PI X tg iter w') : PI X tg iter (fun σ H R => w σ H R ∨ w' σ H R) := ⟨fun pins s σ H R I q => by
  rcases q with q | q
  · exact h.run pins s σ H R I q
  · exact h'.run pins s σ H R I q⟩
def sqSrc (ds : List D) : Src := ⟨ds.length, fun _ => true, fun i _ => ds[i]?⟩
/-- the list with that handle, as it stands at each turn -/
def lstSrc (h n : Nat) : Src := ⟨n, fun S => match S[h]? with
    | some (.lst xs) => decide (xs.length ≤ n)
    | _ => false, fun i S => match S[h]? with
    | some (.lst xs) => xs[i]?
    | _ => none⟩
def seqS (x : D) : M Src := fun S => match x with
  | .tup ds => some (sqSrc ds, S)
  | .fro ds => some (sqSrc ds, S)
  | .ref h => match S[h]? with
    | some (.lst xs) => some (lstSrc h xs.length, S)
    | _ => none
  | _ => none
def fSeq (f : Env → M D) : Env → M Src := fun ρ => bd (f ρ) seqS
section
variable {c : Str → Option Addr} {X : Cx} {tg : Expr}
theorem get_inj {g : Gm} {H : Hp} {η : List Addr} {ds : List D} {vs : List V} {i : Nat} {d : D} {v : V} (r : RVs g H η ds vs) (h : ds[i]? = some d) (h' : vs[i]? = some v) : RV g H η d v := by
  obtain ⟨v', h1, h2⟩ := r.get h
  rw [h'] at h1
  cases h1
  exact h2
theorem refl_all {g : Gm} {H : Hp} {η : List Addr} {S : Sto} {d : D} {x : V} (s : Sim g H η S) (r : RV g H η d x) : Ext H η H η ∧ Sim g H η S ∧ RV g H η d x ∧ (∀ a o, H a = some o → H a = some o) := ⟨Ext.refl _ _, s, r, fun _ _ h => h⟩
theorem runs_tup {H0 : Hp} {η0 : List Addr} {ds : List D} {vs : List V} {a : Addr} (q : SqT X.K H0 a vs) (r : RVs (gm c X) H0 η0 ds vs) : Runs (gm c X) (Itt X.K a) (sqSrc ds) H0 η0 := by
  have inj : ∀ {H : Hp} {η : List Addr} {S : Sto}, Tk H0 η0 H η → SqT X.K H a vs := fun t => sqT_mono (g := gm c X) t q
  refine ⟨fun i H η S d t s hi e => ?_, fun i H η S d x H' t s hi e y => ?_, fun H η S t s _ => ?_⟩
  · obtain ⟨v, h1, _⟩ := r.get e
    exact ⟨vs, v, sqT_mono (g := gm c X) t q, h1⟩
  · obtain ⟨rfl, y⟩ := y
    exact refl_all s (get_inj (RVs.monoT t _ _ r) e (y vs (sqT_mono (g := gm c X) t q)))
  · exact ⟨vs, sqT_mono (g := gm c X) t q, by rw [r.length]; exact Nat.le_refl _⟩
theorem sqF {H0 H : Hp} {η0 η : List Addr} {vs : List V} {a : Addr} (q : (∃ o, H0 a = some (.frz o (.lst vs))) ∨ (∀ H', SqL X.K H' a vs)) (t : Tk H0 η0 H η) : SqL X.K H a vs := by
  rcases q with ⟨o, q⟩ | q
  · exact .inl (.inr ⟨o, t.kf _ _ _ q⟩)
  · exact q H
theorem runs_fro {H0 : Hp} {η0 : List Addr} {ds : List D} {vs : List V} {a : Addr} (q : (∃ o, H0 a = some (.frz o (.lst vs))) ∨ (∀ H', SqL X.K H' a vs)) (r : RVs (gm c X) H0 η0 ds vs) : Runs (gm c X) (Itl X.K a) (sqSrc ds) H0 η0 := by
  refine ⟨fun i H η S d t s hi e => ?_, fun i H η S d x H' t s hi e y => ?_, fun H η S t s _ => ?_⟩
  · obtain ⟨v, h1, _⟩ := r.get e
    exact ⟨vs, v, sqF q t, h1⟩
  · obtain ⟨rfl, y⟩ := y
    exact refl_all s (get_inj (RVs.monoT t _ _ r) e (y vs (sqF q t)))
  · exact ⟨vs, sqF q t, by rw [r.length]; exact Nat.le_refl _⟩
theorem runs_lst {H0 : Hp} {η0 : List Addr} {h n : Nat} {a : Addr} (qa : η0[h]? = some a) : Runs (gm c X) (Itl X.K a) (lstSrc h n) H0 η0 := by
  refine ⟨fun i H η S d t s hi e => ?_, fun i H η S d x H' t s hi e y => ?_, fun H η S t s e => ?_⟩
  · simp only [lstSrc] at e
    split at e
    · rename_i xs e0
      obtain ⟨vs, h1, h2⟩ := s.ob _ _ _ e0 (t.get qa)
      obtain ⟨v, h3, _⟩ := h2.get e
      exact ⟨vs, v, SqL.of h1, h3⟩
    · cases e
  · obtain ⟨rfl, y⟩ := y
    simp only [lstSrc] at e
    split at e
    · rename_i xs e0
      obtain ⟨vs, h1, h2⟩ := s.ob _ _ _ e0 (t.get qa)
      exact refl_all s (get_inj h2 e (y vs (SqL.of h1)))
    · cases e
  · simp only [lstSrc] at e ⊢
    split at e
    · rename_i xs e0
      obtain ⟨vs, h1, h2⟩ := s.ob _ _ _ e0 (t.get qa)
      exact ⟨vs, SqL.of h1, by rw [h2.length]; exact of_decide_eq_true e⟩
    · cases e
/-- for x in a list, a tuple -/
theorem di_seq {l : Expr} {f : Env → M D} (hl : PE X l (tD (gm c X) f)) : PI X tg l (tDI (gm c X) (fSeq f)) := by
  refine PI.imp (PI.or (pi_list hl) (pi_tup hl)) fun σ H R q => ?_
  obtain ⟨ρ, η, S, src, S', er, si, ef, k⟩ := q
  obtain ⟨x, S1, e1, ef⟩ := bd_some ef
  cases x with
  | tup ds =>
    cases ef
    refine .inr ⟨ρ, η, S, _, _, er, si, e1, fun v H1 η1 x1 s1 r1 => ?_⟩
    simp only [RV] at r1
    obtain ⟨a, vs, rfl, q, t⟩ := r1
    exact ⟨a, rfl, ⟨vs, q⟩, k _ H1 η1 x1 s1 (runs_tup q t)⟩
  | fro ds =>
    cases ef
    refine .inl ⟨ρ, η, S, _, _, er, si, e1, fun v H1 η1 x1 s1 r1 => ?_⟩
    simp only [RV] at r1
    obtain ⟨a, vs, rfl, q, t⟩ := r1
    refine ⟨a, rfl, ⟨vs, ?_⟩, k _ H1 η1 x1 s1 (runs_fro q t)⟩
    rcases q with ⟨o, q⟩ | q
    · exact .inl (.inr ⟨o, q⟩)
    · exact q H1
  | ref h =>
    simp only [seqS] at ef
    split at ef
    · rename_i xs e0
      cases ef
      refine .inl ⟨ρ, η, S, _, _, er, si, e1, fun v H1 η1 x1 s1 r1 => ?_⟩
      simp only [RV] at r1
      obtain ⟨a, rfl, qa⟩ := r1
      obtain ⟨vs, h1, _⟩ := s1.ob _ _ _ e0 qa
      exact ⟨a, rfl, ⟨vs, SqL.of h1⟩, k _ H1 η1 x1 s1 (runs_lst qa)⟩
    · cases ef
  | _ => cases ef
/-- for i in range(n), range(a, b) -/
def rngSrc (lo : Int) (n : Nat) : Src := ⟨n, fun _ => true, fun i _ => some (.int (lo + i))⟩
def natB (j : Int) : Option Nat := match j with
  | .ofNat n => if Nat.ble n 2305843009213693952 = true then some n else none
  | .negSucc _ => none
theorem natB_some {j : Int} {n : Nat} (h : natB j = some n) : j = (n : Int) ∧ n ≤ 2305843009213693952 := by
  unfold natB at h
  split at h
  · split at h
    · rename_i hb
      cases h
      exact ⟨rfl, Nat.le_of_ble_eq_true hb⟩
    · cases h
  · cases h
def rng1S (xs : List D) : M Src := fun S => match xs with
  | [.int j] => match natB j with
    | some n => some (rngSrc 0 n, S)
    | none => none
  | _ => none
def rng2S (xs : List D) : M Src := fun S => match xs with
  | [.int i, .int j] => match natB i, natB j with
    | some n, some m => some (rngSrc n (m - n), S)
    | _, _ => none
  | _ => none
def fRng1 (r : Env → M (List D)) : Env → M Src := fun ρ => bd (r ρ) rng1S
def fRng2 (r : Env → M (List D)) : Env → M Src := fun ρ => bd (r ρ) rng2S
theorem runs_rng {H0 : Hp} {η0 : List Addr} {lo : Int} {n : Nat} : Runs (gm c X) (Itr lo n) (rngSrc lo n) H0 η0 :=
  ⟨fun i H η S d t s hi e => hi, fun i H η S d x H' t s hi e y => by
    obtain ⟨rfl, rfl⟩ := y
    cases e
    exact refl_all s (by simp only [RV]), fun H η S t s _ => Nat.le_refl _⟩
theorem di_rng1 {a : Expr} {r : Env → M (List D)} {p pos : Pos} (hg : Gl X "range") (hm : X.mg "range" = none) (ha : PA X [a] (tDA (gm c X) r)) (hs : starEach [a] X.env = [(false, eval a X.env)] := by rfl) : PI X tg (.Call (.Name "range" p) [a] [] pos) (tDI (gm c X) (fRng1 r)) := by
  refine PI.imp (pi_range1 hg hm ha hs) fun σ H R q => ?_
  obtain ⟨ρ, η, S, src, S', er, si, ef, k⟩ := q
  obtain ⟨xs, S1, e1, ef⟩ := bd_some ef
  refine ⟨ρ, η, S, xs, S1, er, si, e1, fun vs H1 η1 x1 s1 r1 => ?_⟩
  unfold rng1S at ef
  split at ef
  · split at ef
    · rename_i n h
      cases ef
      obtain ⟨rfl, hn⟩ := natB_some h
      obtain ⟨v, rfl, r2⟩ := one_of r1
      simp only [RV] at r2; subst r2
      exact ⟨_, rfl, by omega, by omega, k _ H1 η1 x1 s1 runs_rng⟩
    · cases ef
  · cases ef
theorem di_rng2 {a b : Expr} {r : Env → M (List D)} {p pos : Pos} (hg : Gl X "range") (hm : X.mg "range" = none) (ha : PA X [a, b] (tDA (gm c X) r)) (hs : starEach [a, b] X.env = [(false, eval a X.env), (false, eval b X.env)] := by rfl) (hs2 : starEach [b] X.env = [(false, eval b X.env)] := by rfl) : PI X tg (.Call (.Name "range" p) [a, b] [] pos) (tDI (gm c X) (fRng2 r)) := by
  refine PI.imp (pi_range2 hg hm ha hs hs2) fun σ H R q => ?_
  obtain ⟨ρ, η, S, src, S', er, si, ef, k⟩ := q
  obtain ⟨xs, S1, e1, ef⟩ := bd_some ef
  refine ⟨ρ, η, S, xs, S1, er, si, e1, fun vs H1 η1 x1 s1 r1 => ?_⟩
  unfold rng2S at ef
  split at ef
  · split at ef
    · rename_i n m h h'
      cases ef
      obtain ⟨rfl, hn⟩ := natB_some h
      obtain ⟨rfl, hm⟩ := natB_some h'
      obtain ⟨v, u, rfl, r2, r3⟩ := two_of r1
      simp only [RV] at r2 r3; subst r2; subst r3
      have e : ((m : Int) - (n : Int)).toNat = m - n := by omega
      have kk := k _ H1 η1 x1 s1 (runs_rng (lo := (n : Int)) (n := m - n))
      rw [← e] at kk
      exact ⟨_, _, rfl, ⟨by omega, by omega, by omega, by omega⟩, kk⟩
    · cases ef
  · cases ef
/-- for ch in a text -/
def strSrc (z : Str) : Src := ⟨z.cps.size, fun _ => true, fun i _ => match z.cps[i]? with
  | some ch => some (.str ⟨#[ch]⟩)
  | none => none⟩
def strS (x : D) : M Src := fun S => match x with
  | .str z => some (strSrc z, S)
  | _ => none
def fStrS (f : Env → M D) : Env → M Src := fun ρ => bd (f ρ) strS
theorem di_str {l : Expr} {f : Env → M D} (hl : PE X l (tD (gm c X) f)) : PI X tg l (tDI (gm c X) (fStrS f)) := by
  refine PI.imp (pi_str hl) fun σ H R q => ?_
  obtain ⟨ρ, η, S, src, S', er, si, ef, k⟩ := q
  obtain ⟨x, S1, e1, ef⟩ := bd_some ef
  refine ⟨ρ, η, S, x, S1, er, si, e1, fun v H1 η1 x1 s1 r1 => ?_⟩
  cases x with
  | str z =>
    cases ef
    simp only [RV] at r1; subst r1
    refine ⟨z, rfl, k _ H1 η1 x1 s1 ⟨fun i H η S d t s hi e => hi, fun i H η S d x H' t s hi e y => ?_, fun H η S t s _ => Nat.le_refl _⟩⟩
    obtain ⟨rfl, ch, h1, rfl⟩ := y
    simp only [strSrc, h1] at e
    cases e
    exact refl_all s (by simp only [RV])
  | _ => cases ef
/-- enumerate of a list -/
def enuSrc (h n : Nat) : Src := ⟨n, (lstSrc h n).ok, fun i S => match (lstSrc h n).item i S with
  | some d => some (.tup [.int i, d])
  | none => none⟩
def enuFSrc (ds : List D) : Src := ⟨ds.length, fun _ => true, fun i S => match ds[i]? with
  | some d => some (.tup [.int i, d])
  | none => none⟩
def enuS (xs : List D) : M Src := fun S => match xs with
  | [.ref h] => match S[h]? with
    | some (.lst ys) => some (enuSrc h ys.length, S)
    | _ => none
  | [.fro ds] => some (enuFSrc ds, S)
  | _ => none
def fEnu (r : Env → M (List D)) : Env → M Src := fun ρ => bd (r ρ) enuS
/-- a new pair has come -/
theorem pair_all {g : Gm} {H : Hp} {η : List Addr} {S : Sto} {d : D} {x : V} {i : Int} {T : Addr} (s : Sim g H η S) (r : RV g H η d x) (hT : H T = none) :
    Ext H η (upd H T (.tup [.int i, x])) η ∧ Sim g (upd H T (.tup [.int i, x])) η S ∧ RV g (upd H T (.tup [.int i, x])) η (.tup [.int i, d]) (.ref T) ∧ (∀ a o, H a = some o → upd H T (.tup [.int i, x]) a = some o) := by
  obtain ⟨e, s'⟩ := s.newT hT (.tup [.int i, x])
  refine ⟨e, s', ?_, fun a o h => by rw [upd_ne (ne_of_none h hT)]; exact h⟩
  simp only [RV]
  exact ⟨T, _, rfl, SqT.of upd_same, .cons (by simp only [RV]) (.one (r.mono s e))⟩
theorem di_enu {e : Expr} {r : Env → M (List D)} {p pos tpos : Pos} {elts : List Expr} {kk : Nat} (hg : Gl X "enumerate") (hm : X.mg "enumerate" = none) (ha : PA X [e] (tDA (gm c X) r)) (hs : starEach [e] X.env = [(false, eval e X.env)] := by rfl) :
    PI X (.Tuple elts kk tpos) (.Call (.Name "enumerate" p) [e] [] pos) (tDI (gm c X) (fEnu r)) := by
  refine PI.imp (pi_enum hg hm ha hs) fun σ H R q => ?_
  obtain ⟨ρ, η, S, src, S', er, si, ef, k⟩ := q
  obtain ⟨xs, S1, e1, ef⟩ := bd_some ef
  refine ⟨ρ, η, S, xs, S1, er, si, e1, fun vs H1 η1 x1 s1 r1 => ?_⟩
  unfold enuS at ef
  split at ef
  · split at ef
    · rename_i h _ ys e0
      cases ef
      obtain ⟨v, rfl, r2⟩ := one_of r1
      simp only [RV] at r2
      obtain ⟨a, rfl, qa⟩ := r2
      obtain ⟨ws, h1, _⟩ := s1.ob _ _ _ e0 qa
      refine ⟨a, ws, rfl, SqL.of h1, k _ H1 η1 x1 s1 ⟨fun i H η S d t s hi e => ?_, fun i H η S d x H' t s hi e y => ?_, fun H η S t s e => ?_⟩⟩
      · simp only [enuSrc, lstSrc] at e
        split at e
        · rename_i d' e'
          split at e'
          · rename_i xs' e0'
            obtain ⟨us, h2, h3⟩ := s.ob _ _ _ e0' (t.get qa)
            obtain ⟨v, h4, _⟩ := h3.get e'
            exact ⟨us, v, SqL.of h2, h4⟩
          · cases e'
        · cases e
      · obtain ⟨T, x', rfl, hT, rfl, y⟩ := y
        simp only [enuSrc, lstSrc] at e
        split at e
        · rename_i d' e'
          cases e
          split at e'
          · rename_i xs' e0'
            obtain ⟨us, h2, h3⟩ := s.ob _ _ _ e0' (t.get qa)
            exact pair_all s (get_inj h3 e' (y us (SqL.of h2))) hT
          · cases e'
        · cases e
      · simp only [enuSrc, lstSrc] at e ⊢
        split at e
        · rename_i xs' e0'
          obtain ⟨us, h2, h3⟩ := s.ob _ _ _ e0' (t.get qa)
          exact ⟨us, SqL.of h2, by rw [h3.length]; exact of_decide_eq_true e⟩
        · cases e
    · cases ef
  · cases ef
    obtain ⟨v, rfl, r2⟩ := one_of r1
    simp only [RV] at r2
    obtain ⟨a, ws, rfl, q, tt⟩ := r2
    refine ⟨a, ws, rfl, ?_, k _ H1 η1 x1 s1 ⟨fun i H η S d t s hi e => ?_, fun i H η S d x H' t s hi e y => ?_, fun H η S t s e => ?_⟩⟩
    · rcases q with ⟨o, q⟩ | q
      · exact .inl (.inr ⟨o, q⟩)
      · exact q H1
    · simp only [enuFSrc] at e
      split at e
      · rename_i d' e'
        obtain ⟨v, h4, _⟩ := tt.get e'
        exact ⟨ws, v, sqF q t, h4⟩
      · cases e
    · obtain ⟨T, x', rfl, hT, rfl, y⟩ := y
      simp only [enuFSrc] at e
      split at e
      · rename_i d' e'
        cases e
        exact pair_all s (get_inj (RVs.monoT t _ _ tt) e' (y ws (sqF q t))) hT
      · cases e
    · exact ⟨ws, sqF q t, by rw [tt.length]; exact Nat.le_refl _⟩
  · cases ef
end
end DL

set_option Elab.async false
set_option linter.all false
set_option maxRecDepth 100000
set_option maxHeartbeats 4000000
/-! DLe: enumerate of a tuple -/
namespace PySem
open Sem (wp)
theorem meets_enumerate_newB1 {v : Value} {o : Obj} {H : Heap → Prop} (B : Begins v o H) :
    Meets (Builtin.«enumerate.__new__» ⟨[.type "enumerate", v], []⟩) (fun _ R s => H s.heap ∧
      R (.ok (.ret (.ref (s.heap.push o).objs.size))) { s with heap := (s.heap.push o).push { cls := .type "enumerate", data := .fields #[.none, .bool false, .ref s.heap.objs.size, rawInt 0, .none, .none] } }) :=
  .of_wp fun prog w A R s h => by
    obtain ⟨hp, g, d, tk, os⟩ := s; obtain ⟨h1, h⟩ := h
    have hsub := sub_enumerate
    have q1 : ∀ {A' : Around} {E : Value → Shared → Prop} {Q : Value → Shared → Prop}, Q (.ref hp.objs.size) ⟨hp.push o, g, d, tk, os⟩ → wpAny (model prog w) A' (pyIter v) Q E ⟨hp, g, d, tk, os⟩ :=
      fun q => B.iter prog w _ _ ⟨hp, g, d, tk, os⟩ _ h1 q
    wp_walk using q1
    refine wpAny_stack_any fun st => wpAny_pure ?_
    split
    · rename_i c _ _ _ _ _
      cases (c == Value.type "enumerate")
      · wp_walk using q1
        exact ⟨_, rfl, h⟩
      · wp_walk using q1
        exact ⟨_, rfl, h⟩
    · wp_walk using q1
      exact ⟨_, rfl, h⟩
theorem enum_begins1 {prog : Program} {w : World} {A : Around} {E : Value → Shared → Prop} {s : Shared} {v : Value} {o : Obj} {H : Heap → Prop} {Q : Value → Shared → Prop} (B : Begins v o H) (h1 : H s.heap)
    (h : ∀ h', IsEnum h' (s.heap.objs.size + 1) s.heap.objs.size 0 .none → h'.get? s.heap.objs.size = some o → h'.objs.size = s.heap.objs.size + 2 →
      (∀ b o, s.heap.get? b = some o → h'.get? b = some o) → Q (.ref (s.heap.objs.size + 1)) { s with heap := h' }) :
    wpAny (model prog w) A (call (.type "enumerate") [v]) Q E s := by
  refine callType_new F.called_enumerate (by decide) (F.typeCall_enumerate_1 _) (F.newCall_enumerate_1 _) (fun obj => F.args_object_init_2 obj _) F.entry_enumerate_new
    (meets_enumerate_newB1 B) ⟨h1, ?_⟩
  have hz : (s.heap.push o).objs.size = s.heap.objs.size + 1 := Heap.size_push ..
  show _ ∧ _
  rw [hz]
  have he : IsEnum ((s.heap.push o).push { cls := .type "enumerate", data := .fields #[.none, .bool false, .ref s.heap.objs.size, rawInt 0, .none, .none] }) (s.heap.objs.size + 1) s.heap.objs.size 0 .none := by
    have := Heap.get?_push_size (s.heap.push o) (o := { cls := .type "enumerate", data := .fields #[.none, .bool false, .ref s.heap.objs.size, rawInt 0, .none, .none] }) rfl
    rw [hz] at this; exact this
  refine ⟨⟨_, he, rfl⟩, h _ he (Heap.get?_push_of_some _ (Heap.get?_push_size _ B.free)) (by rw [Heap.size_push, hz]) fun b o x => Heap.get?_push_of_some _ (Heap.get?_push_of_some _ x)⟩
end PySem
namespace DL
open PySem PySem.Spec L2
open PyProof.Rows hiding St
/-- the tuple at a, each item in a new pair -/
def Iteu (K : PySem.W.Frag) (a : Addr) : It :=
  ⟨fun i H => ∃ (xs : List V) (x : V), SqT K H a xs ∧ xs[i]? = some x, fun i H v H' => ∃ T x, v = .ref T ∧ H T = none ∧ H' = upd H T (.tup [.int (i : Nat), x]) ∧ ∀ xs, SqT K H a xs → xs[i]? = some x, fun i H => ∃ xs : List V, SqT K H a xs ∧ xs.length ≤ i⟩
theorem turn_enumT {P : Program} {w : World} {K : PySem.W.Frag} {elts : List Expr} {kk : Nat} {tpos : Pos} (a e it : Addr) :
    Turn P w K (.Tuple elts kk tpos) (Iteu K a) [e, it] e (fun i h => (∃ old, IsEnum h e it ((i : Nat) : Int) old) ∧ h.IsTupleIter it a i ∧ e ≠ it ∧ a ≠ it ∧ a ≠ e) where
  mem := by simp
  obj := fun i h st b hb => by
    obtain ⟨⟨old, he⟩, ⟨o, ho, hc, hd⟩, _⟩ := st
    have e' : b = e ∨ b = it := by simpa using hb
    rcases e' with z | z
    · rw [z]; exact ⟨_, he, fun v q => nomatch q⟩
    · rw [z]; exact ⟨o, ho, fun v q => by rw [hd] at q; cases q⟩
  keep := fun i h h' st k => let ⟨⟨old, he⟩, hi, hne⟩ := st; ⟨⟨old, k e (by simp) _ he⟩, hi.at fun o q => k it (by simp) o q, hne⟩
  item := by
    intro X hP hw hK hc i pins s σ H E I hf st hg
    subst hP hw hK
    obtain ⟨⟨old, he⟩, hit, hne, na, nb⟩ := st
    obtain ⟨xs, x, hq, hx⟩ := hg
    obtain ⟨its, rv, p, hz⟩ := I.tuple hq
    obtain ⟨u, hu, ru⟩ := rv.get hx
    have hel : e < s.heap.objs.size := Heap.lt_size he
    have hil : it < s.heap.objs.size := by obtain ⟨_, q, _⟩ := hit; exact Heap.lt_size q
    have hlt : i < its.toArray.size := by
      have := (List.getElem?_eq_some_iff.mp hu).1
      simpa using this
    refine wpAny_pyNext_enum_itemD (Draws.tuple (A := X.A.in1) (I.ok.hd hc) it a na its.toArray) he ⟨hit, p⟩ hlt hne (by simp [hne, Ne.symm nb]) fun u' h' tk hP ho hst hT hsz hk => ?_
    obtain ⟨hit', hp'⟩ := hst
    have hP' : its.toArray[i]? = some u' := hP
    have eu : u' = u := by
      have : its[i]? = some u' := by simpa using hP'
      rw [hu] at this; exact (Option.some.inj this).symm
    subst eu
    refine ⟨_, rfl, wpAny_letOwnedTupleGo_enum (s := { s with heap := h', toks := tk + 1 }) ho fun h'' he' sb => ?_⟩
    have hT2 : h''.get? s.heap.objs.size = some { cls := .type "tuple", data := .seq #[.int i tk, u'] } := (sb.2 _ (Nat.ne_of_gt hel)).trans hT
    have new : ObjOk X.prog X.w (upd H s.heap.objs.size (.tup [.int (i : Nat), x])) h'' s.heap.objs.size (.tup [.int (i : Nat), x]) :=
      ⟨by show 2 ≤ sizeLine; decide, [.int i tk, u'], .cons ⟨_, rfl⟩ (.cons ru .nil), ⟨_, hT2, rfl, _, rfl⟩⟩
    have I1 : Inv X pins σ (upd H s.heap.objs.size (.tup [.int (i : Nat), x])) { s with heap := h'', toks := tk + 1 } :=
      I.turnedNew (ch := [e, it]) (fun b ob hb q => (sb.2 b (fun z => hb (by simp [z]))).trans (hk b ob (fun z => hb (by simp [z])) (fun z => hb (by simp [z])) q)) hf (Nat.le_refl _) new
    refine ⟨.ref s.heap.objs.size, _, I1, rfl, ⟨_, x, rfl, I.hok.fresh (Nat.le_refl _), rfl, fun ys hy => ?_⟩, ⟨⟨u', ?_⟩, hit'.at fun o q => (sb.2 it (Ne.symm hne)).trans q, hne, na, nb⟩, fun b hb => ?_⟩
    · rw [I.tuple_inj hy hq]; exact hx
    · have e1 : ((i + 1 : Nat) : Int) = (i : Int) + 1 := by omega
      rw [e1]; exact he'
    · have hb' : b < s.heap.objs.size := by
        have e' : b = e ∨ b = it := by simpa using hb
        rcases e' with z | z
        · rw [z]; exact hel
        · rw [z]; exact hil
      rw [upd_ne (Nat.ne_of_lt hb')]
      exact (hf b hb).1
  done := by
    intro X hP hw hK hc i pins s σ H E I hf st hg
    subst hP hw hK
    obtain ⟨⟨old, he⟩, hit, hne, na, nb⟩ := st
    obtain ⟨xs, hq, hx⟩ := hg
    obtain ⟨its, rv, p, hz⟩ := I.tuple hq
    obtain ⟨f0, f1, f2, f3, f4, f5⟩ := hf it (by simp)
    have hl := rv.length
    have D : Draws X.prog X.w X.A.in1 it [it, a] 0 (fun _ _ => False) (fun _ h => h.IsTupleIter it a i ∧ h.IsTuple a its.toArray) :=
      { live := fun _ _ st => let ⟨o, ho, _⟩ := st.1; ⟨o, ho⟩
        frame := fun _ _ _ st hk => ⟨st.1.at fun o e => hk it (by simp) o e, st.2.at fun o e => hk a (by simp) o e⟩
        item := fun j s Q E hi st hQ => absurd hi (Nat.not_lt_zero _)
        done := fun s Q E st hE => wpAny_nextOf_tuple_end (A := X.A.in1) (I.ok.hd hc) st.1 st.2 (by simp; omega) hE }
    exact wpAny_pyNext_enum_endD D he ⟨hit, p⟩ fun h' eb => ⟨rfl, I.turned (t' := s.toks) (fun b o hb q => eb b o hb q) f0 f1 f3 f4 f5⟩
  self := fun A i s Q E st h => let ⟨⟨_, he⟩, _⟩ := st; wpAny_pyIter_enum he h
def iEnumT (K : PySem.W.Frag) (ta : TA) : TI := fun σ H R => ta σ H fun vs H1 => ∃ a xs, vs = [.ref a] ∧ SqT K H1 a xs ∧ R (Iteu K a) H1
theorem pi_enumT {X : Cx} {e : Expr} {ta : TA} {p pos tpos : Pos} {elts : List Expr} {kk : Nat} (hg : Gl X "enumerate") (hm : X.mg "enumerate" = none) (ha : PA X [e] ta) (hs : starEach [e] X.env = [(false, eval e X.env)] := by rfl) :
    PI X (.Tuple elts kk tpos) (.Call (.Name "enumerate" p) [e] [] pos) (iEnumT X.K ta) := by
  refine ⟨fun pins s σ H R I h => ?_⟩
  refine Call_ (ld_blt I hg hm boot_enumerate (PyProof.Rows.callWith_type1 (thn (ha.run pos pins s σ H _ I h) fun us s1 ⟨vs, H1, I1, r1, q1⟩ => ?_) hs rfl))
  obtain ⟨a, xs, ex, hq, q⟩ := q1
  subst ex
  cases r1 with
  | cons r rr =>
    cases rr
    cases r
    obtain ⟨its, rv, p', hz⟩ := I1.tuple hq
    have hal : a < s1.heap.objs.size := by obtain ⟨o, q, _⟩ := p'; exact Heap.lt_size q
    refine enum_begins1 (begins_tuple a its.toArray) p' fun h' he hit hsz hk => wpAny_pyIter_enum he ?_
    have I2 : Inv X pins σ H1 { s1 with heap := h' } := I1.kept (t' := s1.toks) hk
    refine ⟨s1.heap.objs.size + 1, [s1.heap.objs.size + 1, s1.heap.objs.size], _, _, H1, rfl, I2, turn_enumT a (s1.heap.objs.size + 1) s1.heap.objs.size, ⟨⟨.none, he⟩, ⟨_, hit, rfl, rfl⟩, Nat.succ_ne_self _, Nat.ne_of_lt hal, Nat.ne_of_lt (Nat.lt_succ_of_lt hal)⟩, fun b hb => ?_, q⟩
    have e' : b = s1.heap.objs.size + 1 ∨ b = s1.heap.objs.size := by simpa using hb
    have hle : s1.heap.objs.size ≤ b := by
      rcases e' with z | z
      · rw [z]; exact Nat.le_add_right _ _
      · rw [z]; exact Nat.le_refl _
    exact I1.fpOk hle (I1.hok.fresh hle)
/-- enumerate of a list, a tuple -/
def enuS2 (xs : List D) : M Src := fun S => match xs with
  | [.tup ds] => some (enuFSrc ds, S)
  | _ => enuS xs S
def fEnu2 (r : Env → M (List D)) : Env → M Src := fun ρ => bd (r ρ) enuS2
theorem di_enu2 {c : Str → Option Addr} {X : Cx} {e : Expr} {r : Env → M (List D)} {p pos tpos : Pos} {elts : List Expr} {kk : Nat} (hg : Gl X "enumerate") (hm : X.mg "enumerate" = none) (ha : PA X [e] (tDA (gm c X) r)) (hs : starEach [e] X.env = [(false, eval e X.env)] := by rfl) :
    PI X (.Tuple elts kk tpos) (.Call (.Name "enumerate" p) [e] [] pos) (tDI (gm c X) (fEnu2 r)) := by
  refine PI.imp (PI.or (di_enu hg hm ha hs) (pi_enumT hg hm ha hs)) fun σ H R q => ?_
  obtain ⟨ρ, η, S, src, S', er, si, ef, k⟩ := q
  obtain ⟨xs, S1, e1, ef⟩ := bd_some ef
  unfold enuS2 at ef
  split at ef
  · cases ef
    refine .inr ⟨ρ, η, S, _, _, er, si, e1, fun vs H1 η1 x1 s1 r1 => ?_⟩
    obtain ⟨v, rfl, r2⟩ := one_of r1
    simp only [RV] at r2
    obtain ⟨a, ws, rfl, q, tt⟩ := r2
    refine ⟨a, ws, rfl, q, k _ H1 η1 x1 s1 ⟨fun i H η S d t s hi e => ?_, fun i H η S d x H' t s hi e y => ?_, fun H η S t s e => ?_⟩⟩
    · simp only [enuFSrc] at e
      split at e
      · rename_i d' e'
        obtain ⟨v, h4, _⟩ := tt.get e'
        exact ⟨ws, v, sqT_mono (g := gm c X) t q, h4⟩
      · cases e
    · obtain ⟨T, x', rfl, hT, rfl, y⟩ := y
      simp only [enuFSrc] at e
      split at e
      · rename_i d' e'
        cases e
        exact pair_all s (get_inj (RVs.monoT t _ _ tt) e' (y ws (sqT_mono (g := gm c X) t q))) hT
      · cases e
    · exact ⟨ws, sqT_mono (g := gm c X) t q, by rw [tt.length]; exact Nat.le_refl _⟩
  · exact .inl ⟨ρ, η, S, src, S', er, si, (bd_of e1).trans ef, k⟩
end DL

set_option Elab.async false
set_option linter.all false
set_option maxRecDepth 100000
set_option maxHeartbeats 4000000
/-! DL8: stores into objects, targets -/
namespace DL
open PySem PySem.Spec L2
open PyProof.Rows hiding St

/-! ### o[i] = v -/
def setD (o i v : D) : M Unit := fun S => match o with
  | .ref n => match S[n]? with
    | some (.lst xs) => match i with
      | .int k => match ixN xs.length k with
        | some j => some ((), S.set n (.lst (xs.set j v)))
        | none => none
      | _ => none
    | some (.dK kvs) => match keyF i with
      | some k => if kvs.length < LINE then some ((), S.set n (.dK (putD kvs k v))) else none
      | none => none
    | some (.dN kvs) => match i with
      | .tup ds => match (D.tup ds).key with
        | some k => if k.depth ≤ 8 ∧ kvs.length < LINE then some ((), S.set n (.dN (putD kvs k v))) else none
        | none => none
      | _ => none
    | _ => none
  | _ => none
def pS (g : Gm) (h : D → D → D → M Unit) : TSet := fun o i v H Q => ∃ η S x y z S', Sim g H η S ∧ RV g H η x o ∧ RV g H η y i ∧ RV g H η z v ∧ h x y z S = some ((), S') ∧ ∀ H' η', Ext H η H' η' → Sim g H' η' S' → Q H'
section
variable {c : Str → Option Addr} {X : Cx}
theorem set_D (hu : X.A.units + 65 < cLine) (hn : (nestedKind X.prog X.w).room X.A.in1) : PSet X (pS (gm c X) setD) := by
  intro pins s σ H o i v ov iv u Q I ro ri rv h
  obtain ⟨η, S, x, y, z, S', si, r1, r2, r3, ef, kk⟩ := h
  unfold setD at ef
  split at ef
  · rename_i n
    have r1' := r1
    simp only [RV] at r1
    obtain ⟨p, rfl, qp⟩ := r1
    split at ef
    · rename_i xs e0
      split at ef
      · rename_i k
        split at ef
        · rename_i j e1
          cases ef
          simp only [RV] at r2; subst r2
          obtain ⟨vs, h1, t1⟩ := si.ob _ _ _ e0 qp
          refine set_list pins s σ H _ _ _ ov iv u Q I ro ri rv ⟨p, vs, k, j, rfl, rfl, h1, by rw [t1.length]; exact e1, ?_⟩
          obtain ⟨x2, s2⟩ := si.put qp (o := .lst (vs.set j v)) (ob := .lst (xs.set j z)) fun H' x h' => ⟨_, h', (t1.mono si x).set j (r3.mono si x)⟩
          exact kk _ _ x2 s2
        · cases ef
      · cases ef
    · rename_i kvs e0
      split at ef
      · rename_i k e1
        split at ef
        · rename_i hl
          cases ef
          obtain ⟨vs, h1, t1⟩ := si.ob _ _ _ e0 qp
          have ei := keyF_is r2 e1
          cases ro
          have g : DPut H p i v (upd H p (.dK (putK vs k v))) := by rw [ei]; exact DPut.k h1 (by rw [t1.length, line_eq]; exact hl)
          refine d_setItem (by omega) I g ri rv fun s' I' => ⟨_, I', ?_⟩
          obtain ⟨x2, s2⟩ := si.put qp (o := .dK (putK vs k v)) (ob := .dK (putD kvs k z)) fun H' x h' => ⟨_, h', (t1.mono si x).put k (r3.mono si x)⟩
          exact kk _ _ x2 s2
        · cases ef
      · cases ef
    · rename_i kvs e0
      split at ef
      · rename_i ds
        split at ef
        · rename_i k e1
          split at ef
          · rename_i hl
            cases ef
            have r2' := r2
            simp only [RV] at r2
            obtain ⟨b, ws, rfl, _, _⟩ := r2
            obtain ⟨hsm, xs, hm, hr⟩ := dn_of I (si.ob _ _ _ e0 qp)
            obtain ⟨ob, eo, _, _⟩ := si.ob _ _ _ e0 qp
            cases ro
            cases ri
            refine wpAny_setItem_heap (hsz := by rw [hr.length, line_eq]; exact Nat.le_of_lt hl.2) hn (r2'.isKey I e1 hl.1) hm fun h' hm' hs => ?_
            obtain ⟨o', q', hD⟩ := dn_mk (g := gm c X) hm' (hr.put r2' e1 hl.1 r3 rv)
            obtain ⟨ex, es, ep, xs', d1, d2, d3, d4⟩ := hD
            have new : ObjOk X.prog X.w (upd H p (.ext fun h => h.get? p = some o')) h' p (.ext fun h => h.get? p = some o') := ⟨q', ⟨_, q'⟩, fun h1 h2 a b => b _ a⟩
            have I' := d_write (t' := s.toks + (nestedKind X.prog X.w).draws k) (ob := .ext fun h => h.get? p = some o') I (by rw [eo]; trivial) hs ⟨_, q'⟩ new
            refine ⟨_, I', ?_⟩
            obtain ⟨x2, s2⟩ := si.put qp (o := .ext fun h => h.get? p = some o') (ob := .dN (putD kvs k z)) fun H' x h' => ⟨o', h', hsm, ex, es, ep, xs', d1, d2, d3, d4.mono si x⟩
            exact kk _ _ x2 s2
          · cases ef
        · cases ef
      · cases ef
    · cases ef
  · cases ef
end

/-! ### statements with an effect -/
def eff (m : Env → M Unit) : FS := fun ρ S => match m ρ S with
  | some (_, S') => some (.nx, ρ, S')
  | none => none
theorem eff_some {m : Env → M Unit} {ρ : Env} {S : Sto} {r : Out × Env × Sto} (h : eff m ρ S = some r) : ∃ S', m ρ S = some ((), S') ∧ r = (.nx, ρ, S') := by
  unfold eff at h
  split at h
  · cases h; exact ⟨_, by assumption, rfl⟩
  · cases h
def sSub (fo fi fe : Env → M D) : FS := eff fun ρ => bd (fe ρ) fun v => bd (fo ρ) fun o => bd (fi ρ) fun i => setD o i v
def sDrop (f : Env → M D) : FS := eff fun ρ => bd (f ρ) fun _ => pu ()
def putFD (f : Str) (d : D) : List (Str × D) → List (Str × D)
  | [] => [(f, d)]
  | (k, e) :: r => if k = f then (k, d) :: r else (k, e) :: putFD f d r
def setFD (cn f : Str) (o v : D) : M Unit := fun S => match o with
  | .ref i => match S[i]? with
    | some (.ins cn' fs) => if cn' = cn ∧ fs.length < 1000 then some ((), S.set i (.ins cn' (putFD f v fs))) else none
    | _ => none
  | _ => none
def sFld (cn f : Str) (fo fe : Env → M D) : FS := eff fun ρ => bd (fe ρ) fun v => bd (fo ρ) fun o => setFD cn f o v
theorem RK.putF {g : Gm} {H : Hp} {η : List Addr} {fs : List (Str × D)} {vs : List (Str × V)} (r : RK g H η fs vs) (f : Str) {d : D} {v : V} (h : RV g H η d v) : RK g H η (putFD f d fs) (L2.putF f v vs) := by
  induction r with
  | nil => exact .cons h .nil
  | @cons k e w r s a b ih =>
    unfold putFD L2.putF
    split
    · exact .cons h b
    · exact .cons a ih
section
variable {c : Str → Option Addr} {X : Cx} {pos tpos : Pos} {o i e : Expr} {fo fi fe : Env → M D}
theorem ds_drop (he : PE X e (tD (gm c X) fe)) (hs : swapsWith e none pos.line X.env = pure false := by rfl) : PS X (.Expr e pos) (tDS (gm c X) (sDrop fe)) := by
  refine PS.imp (ps_expr he hs) fun E σ H q => ?_
  obtain ⟨ρ, η, S, oo, ρ', S', er, si, ef, kk⟩ := q
  obtain ⟨S1, e1, e2⟩ := eff_some ef
  obtain ⟨x, S2, e3, e4⟩ := bd_some e1
  cases e2
  cases e4
  exact ⟨ρ, η, S, x, _, er, si, e3, fun v H1 η1 x1 s1 r1 => kk σ H1 η1 x1 s1 (er.mono si x1)⟩
theorem ds_sub (hu : X.A.units + 65 < cLine) (hn : (nestedKind X.prog X.w).room X.A.in1) (ho : PE X o (tD (gm c X) fo)) (hi : PE X i (tD (gm c X) fi)) (he : PE X e (tD (gm c X) fe))
    (hs : swapsWithSole [.Subscript o i tpos] e pos.line X.env = pure false := by rfl) (hw : swappedStores [.Subscript o i tpos] e X.env = pure none := by rfl)
    (h1 : (assignEach [.Subscript o i tpos] X.env).map (·.2) = [assign (.Subscript o i tpos) X.env] := by rfl)
    (ha : ∀ v, assign (.Subscript o i tpos) X.env v = (do
      let ov ← holding [v] (eval o X.env)
      let iv ← holding [v, ov] (eval i X.env)
      standAt tpos
      holding [v, ov, iv] (setItem ov iv v)
      release [v, ov, iv] []) := by intro _; rfl) : PS X (.Assign [.Subscript o i tpos] e pos) (tDS (gm c X) (sSub fo fi fe)) := by
  refine PS.imp (ps_asg he (pg_sub ho hi (set_D (c := c) hu hn) ha) hs hw h1) fun E σ H q => ?_
  obtain ⟨ρ, η, S, oo, ρ', S', er, si, ef, kk⟩ := q
  obtain ⟨S1, e1, e2⟩ := eff_some ef
  obtain ⟨v, S2, e3, e1⟩ := bd_some e1
  obtain ⟨ov, S3, e4, e1⟩ := bd_some e1
  obtain ⟨iv, S4, e5, e1⟩ := bd_some e1
  cases e2
  refine ⟨ρ, η, S, v, S2, er, si, e3, fun xv H1 η1 x1 s1 r1 => ?_⟩
  refine ⟨ρ, η1, S2, ov, S3, er.mono si x1, s1, e4, fun xo H2 η2 x2 s2 r2 => ?_⟩
  refine ⟨ρ, η2, S3, iv, S4, (er.mono si x1).mono s1 x2, s2, e5, fun xi H3 η3 x3 s3 r3 => ?_⟩
  refine ⟨η3, S4, ov, iv, v, _, s3, r2.mono s2 x3, r3, (r1.mono s1 x2).mono s2 x3, e1, fun H4 η4 x4 s4 => ?_⟩
  exact kk σ H4 η4 (((x1.trans x2).trans x3).trans x4) s4 ((((er.mono si x1).mono s1 x2).mono s2 x3).mono s3 x4)
theorem ds_fld {cn f : Str} (F : FldOk c X cn f) (ho : PE X o (tD (gm c X) fo)) (he : PE X e (tD (gm c X) fe)) (hs : swapsWith e (some (.Attribute o f tpos)) pos.line X.env = pure false := by rfl) : PS X (.Assign [.Attribute o f tpos] e pos) (tDS (gm c X) (sFld cn f fo fe)) := by
  obtain ⟨C, hC, hcl, hna⟩ := F.ex
  refine PS.imp (ps_fld ho he hs) fun E σ H q => ?_
  obtain ⟨ρ, η, S, oo, ρ', S', er, si, ef, kk⟩ := q
  obtain ⟨S1, e1, e2⟩ := eff_some ef
  obtain ⟨v, S2, e3, e1⟩ := bd_some e1
  obtain ⟨ov, S3, e4, e1⟩ := bd_some e1
  cases e2
  refine ⟨ρ, η, S, v, S2, er, si, e3, fun xv H1 η1 x1 s1 r1 => ?_⟩
  refine ⟨ρ, η1, S2, ov, S3, er.mono si x1, s1, e4, fun xo H2 η2 x2 s2 r2 => ?_⟩
  unfold setFD at e1
  split at e1
  · rename_i n
    simp only [RV] at r2
    obtain ⟨a, rfl, qa⟩ := r2
    split at e1
    · rename_i cn' fs q0
      split at e1
      · rename_i hcn
        cases e1
        obtain ⟨rfl, hl⟩ := hcn
        obtain ⟨C', dx, vs, hC', hH, hr⟩ := s2.ob _ _ _ q0 qa
        have : C' = C := by have z : c _ = some C' := hC'; rw [hC] at z; exact (Option.some.inj z).symm
        subst this
        refine ⟨a, C', dx, vs, rfl, hH, hcl, hna, by rw [hr.length]; exact hl, ?_⟩
        obtain ⟨x3, s3⟩ := s2.put qa (o := .ins C' dx (L2.putF f xv vs)) (ob := .ins cn' (putFD f v fs)) fun H' x h' => ⟨C', dx, _, hC', h', (hr.mono s2 x).putF f ((r1.mono s1 x2).mono s2 x)⟩
        exact kk σ _ _ ((x1.trans x2).trans x3) s3 (((er.mono si x1).mono s1 x2).mono s2 x3)
      · cases e1
    · cases e1
  · cases e1
end

/-! ### targets: names and tuples of them -/
abbrev Ups := List (Nat × D)
def upsD (ρ : Env) : Ups → Env
  | [] => ρ
  | (i, d) :: r => upsD (ρ.set i (some d)) r
def upsV (σ : L2.St) : List (Nat × V) → L2.St
  | [] => σ
  | (i, v) :: r => upsV (σ.set i (some v)) r
inductive RU (g : Gm) (H : Hp) (η : List Addr) : Ups → List (Nat × V) → Prop where
  | nil : RU g H η [] []
  | cons {i : Nat} {d : D} {v : V} {r s} : RV g H η d v → RU g H η r s → RU g H η ((i, d) :: r) ((i, v) :: s)
def tG (g : Gm) (f : D → Sto → Option Ups) : TG := fun v σ H Q => ∃ η S d us, Sim g H η S ∧ RV g H η d v ∧ f d S = some us ∧ ∀ ws, RU g H η us ws → Q (upsV σ ws) H
def tGs (g : Gm) (f : List D → Sto → Option Ups) : TGs := fun vs σ H Q => ∃ η S ds us, Sim g H η S ∧ RVs g H η ds vs ∧ f ds S = some us ∧ ∀ ws, RU g H η us ws → Q (upsV σ ws) H
theorem upsV_app (σ : L2.St) : ∀ a b : List (Nat × V), upsV σ (a ++ b) = upsV (upsV σ a) b
  | [], _ => rfl
  | (i, v) :: r, b => upsV_app _ r b
theorem RU.app {g : Gm} {H : Hp} {η : List Addr} {a b : Ups} {x y : List (Nat × V)} (h : RU g H η a x) (k : RU g H η b y) : RU g H η (a ++ b) (x ++ y) := by
  induction h with
  | nil => exact k
  | cons q _ ih => exact .cons q ih
theorem EnvR.ups {g : Gm} {H : Hp} {η : List Addr} {us : Ups} {ws : List (Nat × V)} (u : RU g H η us ws) : ∀ {ρ : Env} {σ : L2.St}, EnvR g H η ρ σ → EnvR g H η (upsD ρ us) (upsV σ ws) := by
  induction u with
  | nil => exact fun h => h
  | cons q _ ih => exact fun h => ih (h.set _ q)
theorem PG.or {X : Cx} {e : Expr} {t t' : TG} (h : PG X e t) (h' : PG X e t') : PG X e (fun v σ H Q => t v σ H Q ∨ t' v σ H Q) := ⟨fun pins s σ H v u Q I r q => by
  rcases q with q | q
  · exact h.run pins s σ H v u Q I r q
  · exact h'.run pins s σ H v u Q I r q⟩
theorem PGs.imp {X : Cx} {es : List Expr} {t t' : TGs} (h : PGs X es t) (i : ∀ v σ H Q, t' v σ H Q → t v σ H Q) : PGs X es t' := ⟨fun pins s σ H v u Q I r q => h.run pins s σ H v u Q I r (i v σ H Q q)⟩
def gNm (i : Nat) : D → Sto → Option Ups := fun d _ => some [(i, d)]
def gsNil : List D → Sto → Option Ups := fun ds _ => match ds with
  | [] => some []
  | _ => none
def gsCons (f : D → Sto → Option Ups) (k : List D → Sto → Option Ups) : List D → Sto → Option Ups := fun ds S => match ds with
  | d :: r => match f d S, k r S with
    | some us, some ws => some (us ++ ws)
    | _, _ => none
  | [] => none
def gUn (n : Nat) (t : List D → Sto → Option Ups) : D → Sto → Option Ups := fun d S => match d with
  | .tup ds => if ds.length = n then t ds S else none
  | .ref h => match S[h]? with
    | some (.lst ds) => if ds.length = n then t ds S else none
    | _ => none
  | _ => none
section
variable {c : Str → Option Addr} {X : Cx} {pos : Pos} {e : Expr} {es : List Expr}
theorem dg_name {i : Nat} {x : Str} (hN : X.N.Nodup) (hi : X.N[i]? = some x) (hx : Loc X.env.scope x) (hf : X.fn x = true ∨ X.env.scope.names.lookup x = some .local := by first | exact .inl rfl | exact .inr rfl | assumption) : PG X (.Name x pos) (tG (gm c X) (gNm i)) := by
  refine PG.imp (pg_name hN hi hx hf) fun v σ H Q q => ?_
  obtain ⟨η, S, d, us, si, r, ef, kk⟩ := q
  cases ef
  exact kk [(i, v)] (.cons r .nil)
theorem dgs_nil : PGs X [] (tGs (gm c X) gsNil) := by
  refine PGs.imp pgs_nil fun vs σ H Q q => ?_
  obtain ⟨η, S, ds, us, si, r, ef, kk⟩ := q
  unfold gsNil at ef
  split at ef
  · cases ef
    simp only [RVs] at r
    exact ⟨r, kk [] .nil⟩
  · cases ef
theorem dgs_cons {f : D → Sto → Option Ups} {k : List D → Sto → Option Ups} (h1 : PG X e (tG (gm c X) f)) (h2 : PGs X es (tGs (gm c X) k))
    (hs : (assignEach (e :: es) X.env).map (·.2) = assign e X.env :: (assignEach es X.env).map (·.2) := by rfl) : PGs X (e :: es) (tGs (gm c X) (gsCons f k)) := by
  refine PGs.imp (pgs_cons h1 h2 hs) fun vs σ H Q q => ?_
  obtain ⟨η, S, ds, us, si, r, ef, kk⟩ := q
  unfold gsCons at ef
  split at ef
  · split at ef
    · rename_i us1 ws1 e1 e2
      cases ef
      simp only [RVs] at r
      obtain ⟨v, vr, rfl, q1, q2⟩ := r
      refine ⟨v, vr, rfl, η, S, _, us1, si, q1, e1, fun w1 hw1 => ?_⟩
      refine ⟨η, S, _, ws1, si, q2, e2, fun w2 hw2 => ?_⟩
      have := kk (w1 ++ w2) (hw1.app hw2)
      rwa [upsV_app] at this
    · cases ef
  · cases ef
theorem dg_un {n : Nat} {k : Nat} {t : List D → Sto → Option Ups} (hc : X.calm = true) (h : PGs X es (tGs (gm c X) t)) (hn : (assignEach es X.env).length = n := by rfl) (hst : (assignEach es X.env).findIdx? (·.1) = none := by rfl) :
    PG X (.Tuple es k pos) (tG (gm c X) (gUn n t)) := by
  refine PG.imp (PG.or (pg_tup hc h hn hst) (pg_lst hc h hn hst)) fun v σ H Q q => ?_
  obtain ⟨η, S, d, us, si, r, ef, kk⟩ := q
  unfold gUn at ef
  split at ef
  · split at ef
    · rename_i hl
      simp only [RV] at r
      obtain ⟨a, vs, rfl, q1, t1⟩ := r
      exact .inl ⟨a, vs, rfl, q1, by rw [t1.length]; exact hl, η, S, _, us, si, t1, ef, kk⟩
    · cases ef
  · simp only [RV] at r
    obtain ⟨a, rfl, qa⟩ := r
    split at ef
    · rename_i ds q0
      split at ef
      · rename_i hl
        obtain ⟨vs, h1, t1⟩ := si.ob _ _ _ q0 qa
        exact .inr ⟨a, vs, rfl, SqL.of h1, by rw [t1.length]; exact hl, η, S, _, us, si, t1, ef, kk⟩
      · cases ef
    · cases ef
  · cases ef
end
end DL

set_option Elab.async false
set_option linter.all false
set_option maxRecDepth 100000
set_option maxHeartbeats 4000000
/-! DL9: statements, loops -/
namespace DL
open PySem PySem.Spec L2
open PyProof.Rows hiding St

def sNx : FS := fun ρ S => some (.nx, ρ, S)
def sBk : FS := fun ρ S => some (.bk, ρ, S)
def sCt : FS := fun ρ S => some (.ct, ρ, S)
def sNo : FS := fun _ _ => none
def sSeq (f k : FS) : FS := fun ρ S => match f ρ S with
  | some (.nx, ρ', S') => k ρ' S'
  | some (.bk, ρ', S') => some (.bk, ρ', S')
  | some (.ct, ρ', S') => some (.ct, ρ', S')
  | some (.rt d, ρ', S') => some (.rt d, ρ', S')
  | none => none
def sIf (t : Env → M Bool) (f k : FS) : FS := fun ρ S => match t ρ S with
  | some (b, S') => if b = true then f ρ S' else k ρ S'
  | none => none
def sRet (f : Env → M D) : FS := fun ρ S => match f ρ S with
  | some (d, S') => some (.rt d, ρ, S')
  | none => none
def sRetN : FS := fun ρ S => some (.rt .non, ρ, S)
def sSet (i : Nat) (f : Env → M D) : FS := fun ρ S => match f ρ S with
  | some (d, S') => some (.nx, ρ.set i (some d), S')
  | none => none
def sAsg (g : D → Sto → Option Ups) (f : Env → M D) : FS := fun ρ S => match f ρ S with
  | some (d, S') => match g d S' with
    | some us => some (.nx, upsD ρ us, S')
    | none => none
  | none => none
def sPar (i j : Nat) (r : Env → M (List D)) : FS := fun ρ S => match r ρ S with
  | some ([x, y], S') => some (.nx, (ρ.set i (some x)).set j (some y), S')
  | _ => none
def sAug (i : Nat) (h : D → D → M D) (f : Env → M D) : FS := fun ρ S => match ρ[i]? with
  | some (some x) => match f ρ S with
    | some (y, S1) => match h x y S1 with
      | some (z, S2) => some (.nx, ρ.set i (some z), S2)
      | none => none
    | none => none
  | _ => none
def whileD (t : Env → M Bool) (b : FS) : Nat → FS
  | 0, _, _ => none
  | n + 1, ρ, S => match t ρ S with
    | some (true, S1) => match b ρ S1 with
      | some (.nx, ρ', S') => whileD t b n ρ' S'
      | some (.ct, ρ', S') => whileD t b n ρ' S'
      | some (.bk, ρ', S') => some (.nx, ρ', S')
      | some (.rt d, ρ', S') => some (.rt d, ρ', S')
      | none => none
    | some (false, S1) => some (.nx, ρ, S1)
    | none => none
def forD (src : Src) (g : D → Sto → Option Ups) (b : FS) : Nat → Nat → FS
  | 0, i, ρ, S => if src.ok S = true then some (.nx, ρ, S) else none
  | n + 1, i, ρ, S => match src.item i S with
    | some d => match g d S with
      | some us => match b (upsD ρ us) S with
        | some (.nx, ρ', S') => forD src g b n (i + 1) ρ' S'
        | some (.ct, ρ', S') => forD src g b n (i + 1) ρ' S'
        | some (.bk, ρ', S') => some (.nx, ρ', S')
        | some (.rt d, ρ', S') => some (.rt d, ρ', S')
        | none => none
      | none => none
    | none => none
def sFor (w : Env → M Src) (g : D → Sto → Option Ups) (b : FS) : FS := fun ρ S => match w ρ S with
  | some (src, S') => forD src g b src.n 0 ρ S'
  | none => none

section
variable {c : Str → Option Addr} {X : Cx} {pos : Pos} {e : Expr} {st : Stmt} {rest : List Stmt} {f k b : FS} {fe : Env → M D} {t : Env → M Bool}
theorem Ko.pre {g : Gm} {H H1 : Hp} {η η1 : List Addr} {o : Out} {ρ' : Env} {S' : Sto} {E : Ends} (h : Ko g H η o ρ' S' E) (x : Ext H η H1 η1) : Ko g H1 η1 o ρ' S' E := fun σ' H' η' x' s' e' => h σ' H' η' (x.trans x') s' e'
theorem dss_nil : PSs X [] (tDS (gm c X) sNx) := by
  refine PSs.imp pss_nil fun E σ H q => ?_
  obtain ⟨ρ, η, S, o, ρ', S', er, si, ef, kk⟩ := q
  cases ef
  exact kk σ H η (Ext.refl _ _) si er
theorem dss_cons (h1 : PS X st (tDS (gm c X) f)) (h2 : PSs X rest (tDS (gm c X) k)) : PSs X (st :: rest) (tDS (gm c X) (sSeq f k)) := by
  refine PSs.imp (pss_cons h1 h2) fun E σ H q => ?_
  obtain ⟨ρ, η, S, o, ρ', S', er, si, ef, kk⟩ := q
  unfold sSeq at ef
  split at ef
  · rename_i ρ1 S1 e1
    exact ⟨ρ, η, S, _, ρ1, S1, er, si, e1, fun σ1 H1 η1 x1 s1 r1 => ⟨ρ1, η1, S1, o, ρ', S', r1, s1, ef, kk.pre x1⟩⟩
  · rename_i ρ1 S1 e1
    cases ef
    exact ⟨ρ, η, S, _, _, _, er, si, e1, fun σ1 H1 η1 x1 s1 r1 => kk σ1 H1 η1 x1 s1 r1⟩
  · rename_i ρ1 S1 e1
    cases ef
    exact ⟨ρ, η, S, _, _, _, er, si, e1, fun σ1 H1 η1 x1 s1 r1 => kk σ1 H1 η1 x1 s1 r1⟩
  · rename_i d ρ1 S1 e1
    cases ef
    exact ⟨ρ, η, S, _, _, _, er, si, e1, fun σ1 H1 η1 x1 s1 r1 => kk σ1 H1 η1 x1 s1 r1⟩
  · cases ef
theorem dss_one (h1 : PS X st (tDS (gm c X) f)) : PSs X [st] (tDS (gm c X) f) := pss_one h1
theorem dss_no {sts : List Stmt} : PSs X sts (tDS (gm c X) sNo) := ⟨fun _ _ _ _ _ _ h => by
  obtain ⟨ρ, η, S, o, ρ', S', er, si, ef, kk⟩ := h
  cases ef⟩
theorem ds_pass : PS X (.Pass pos) (tDS (gm c X) sNx) := by
  refine PS.imp ps_pass fun E σ H q => ?_
  obtain ⟨ρ, η, S, o, ρ', S', er, si, ef, kk⟩ := q
  cases ef
  exact kk σ H η (Ext.refl _ _) si er
theorem ds_break : PS X (.Break pos) (tDS (gm c X) sBk) := by
  refine PS.imp ps_break fun E σ H q => ?_
  obtain ⟨ρ, η, S, o, ρ', S', er, si, ef, kk⟩ := q
  cases ef
  exact kk σ H η (Ext.refl _ _) si er
theorem ds_continue : PS X (.Continue pos) (tDS (gm c X) sCt) := by
  refine PS.imp ps_continue fun E σ H q => ?_
  obtain ⟨ρ, η, S, o, ρ', S', er, si, ef, kk⟩ := q
  cases ef
  exact kk σ H η (Ext.refl _ _) si er
theorem ds_if {cc : Expr} {p q : List Stmt} (hc : PT X cc (tDT (gm c X) t)) (ha : PSs X p (tDS (gm c X) f)) (hb : PSs X q (tDS (gm c X) k)) : PS X (.If cc p q pos) (tDS (gm c X) (sIf t f k)) := by
  refine PS.imp (ps_if hc ha hb) fun E σ H q => ?_
  obtain ⟨ρ, η, S, o, ρ', S', er, si, ef, kk⟩ := q
  unfold sIf at ef
  split at ef
  · rename_i x S1 e1
    refine ⟨ρ, η, S, x, S1, er, si, e1, fun H1 η1 x1 s1 => ?_⟩
    cases x with
    | true =>
      simp only [if_true] at ef ⊢
      exact ⟨ρ, η1, S1, o, ρ', S', er.mono si x1, s1, ef, kk.pre x1⟩
    | false =>
      simp only [Bool.false_eq_true, if_false] at ef ⊢
      exact ⟨ρ, η1, S1, o, ρ', S', er.mono si x1, s1, ef, kk.pre x1⟩
  · cases ef
theorem ds_ret (he : PE X e (tD (gm c X) fe)) : PS X (.Return (some e) pos) (tDS (gm c X) (sRet fe)) := by
  refine PS.imp (ps_ret he) fun E σ H q => ?_
  obtain ⟨ρ, η, S, o, ρ', S', er, si, ef, kk⟩ := q
  unfold sRet at ef
  split at ef
  · rename_i x S1 e1
    cases ef
    exact ⟨ρ, η, S, x, _, er, si, e1, fun v H1 η1 x1 s1 r1 => kk σ H1 η1 x1 s1 (er.mono si x1) v r1⟩
  · cases ef
theorem ds_retN : PS X (.Return none pos) (tDS (gm c X) sRetN) := by
  refine PS.imp ps_retN fun E σ H q => ?_
  obtain ⟨ρ, η, S, o, ρ', S', er, si, ef, kk⟩ := q
  cases ef
  exact kk σ H η (Ext.refl _ _) si er .non (by simp only [RV])
theorem ds_set {i : Nat} {x : Str} {pos' : Pos} (hN : X.N.Nodup) (hi : X.N[i]? = some x) (hx : Loc X.env.scope x) (he : PE X e (tD (gm c X) fe)) (hs : swapsWith e (some (.Name x pos')) pos.line X.env = pure false := by rfl) (hf : X.fn x = true ∨ X.env.scope.names.lookup x = some .local := by first | exact .inl rfl | exact .inr rfl | assumption) :
    PS X (.Assign [.Name x pos'] e pos) (tDS (gm c X) (sSet i fe)) := by
  refine PS.imp (ps_set hN hi hx he hs hf) fun E σ H q => ?_
  obtain ⟨ρ, η, S, o, ρ', S', er, si, ef, kk⟩ := q
  unfold sSet at ef
  split at ef
  · rename_i x S1 e1
    cases ef
    exact ⟨ρ, η, S, x, _, er, si, e1, fun v H1 η1 x1 s1 r1 => kk _ H1 η1 x1 s1 ((er.mono si x1).set i r1)⟩
  · cases ef
theorem ds_asg {tg : Expr} {g : D → Sto → Option Ups} (he : PE X e (tD (gm c X) fe)) (hg : PG X tg (tG (gm c X) g)) (hs : swapsWithSole [tg] e pos.line X.env = pure false := by rfl) (hw : swappedStores [tg] e X.env = pure none := by rfl)
    (h1 : (assignEach [tg] X.env).map (·.2) = [assign tg X.env] := by rfl) : PS X (.Assign [tg] e pos) (tDS (gm c X) (sAsg g fe)) := by
  refine PS.imp (ps_asg he hg hs hw h1) fun E σ H q => ?_
  obtain ⟨ρ, η, S, o, ρ', S', er, si, ef, kk⟩ := q
  unfold sAsg at ef
  split at ef
  · rename_i x S1 e1
    split at ef
    · rename_i us e2
      cases ef
      refine ⟨ρ, η, S, x, _, er, si, e1, fun v H1 η1 x1 s1 r1 => ⟨η1, _, x, us, s1, r1, e2, fun ws hw => ?_⟩⟩
      exact kk _ H1 η1 x1 s1 (EnvR.ups hw (er.mono si x1))
    · cases ef
  · cases ef
theorem ds_par {i j : Nat} {x y : Str} {a b : Expr} {r : Env → M (List D)} {px py pt : Pos} {kt k2 pt2} (hc : X.calm = true) (hN : X.N.Nodup) (hi : X.N[i]? = some x) (hj : X.N[j]? = some y) (hij : i ≠ j)
    (hx : X.env.scope.names.lookup x = some .local) (hy : X.env.scope.names.lookup y = some .local) (ha : PA X [a, b] (tDA (gm c X) r))
    (hw : swappedStores [.Tuple [.Name x px, .Name y py] kt pt] (.Tuple [a, b] k2 pt2) X.env = pure (some [x, y]))
    (hs : swapsWithSole [.Tuple [.Name x px, .Name y py] kt pt] (.Tuple [a, b] k2 pt2) pos.line X.env = pure false := by rfl) :
    PS X (.Assign [.Tuple [.Name x px, .Name y py] kt pt] (.Tuple [a, b] k2 pt2) pos) (tDS (gm c X) (sPar i j r)) := by
  refine PS.imp (ps_par hc hN hi hj hij hx hy ha hw hs) fun E σ H q => ?_
  obtain ⟨ρ, η, S, o, ρ', S', er, si, ef, kk⟩ := q
  unfold sPar at ef
  split at ef
  · rename_i u v S1 e1
    cases ef
    refine ⟨ρ, η, S, _, _, er, si, e1, fun vs H1 η1 x1 s1 r1 => ?_⟩
    simp only [RVs] at r1
    obtain ⟨v1, r, rfl, q1, v2, r', rfl, q2, rfl⟩ := r1
    exact ⟨v1, v2, rfl, kk _ H1 η1 x1 s1 (((er.mono si x1).set i q1).set j q2)⟩
  · cases ef
theorem ds_aug {i : Nat} {x : Str} {op : Operator} {h : D → D → M D} {pos' : Pos} (hN : X.N.Nodup) (hi : X.N[i]? = some x) (hx : Loc X.env.scope x) (he : PE X e (tD (gm c X) fe)) (ho : PIp X op (rD (gm c X) h)) (hf : X.fn x = true ∨ X.env.scope.names.lookup x = some .local := by first | exact .inl rfl | exact .inr rfl | assumption) :
    PS X (.AugAssign (.Name x pos') op e pos) (tDS (gm c X) (sAug i h fe)) := by
  refine PS.imp (ps_aug hN hi hx he ho hf) fun E σ H q => ?_
  obtain ⟨ρ, η, S, o, ρ', S', er, si, ef, kk⟩ := q
  unfold sAug at ef
  split at ef
  · rename_i dx e0
    split at ef
    · rename_i y S1 e1
      split at ef
      · rename_i z S2 e2
        cases ef
        obtain ⟨v, e3, r0⟩ := er.at_ _ _ e0
        refine ⟨v, e3, ρ, η, S, y, S1, er, si, e1, fun u H1 η1 x1 s1 r1 => ?_⟩
        refine ⟨η1, S1, dx, y, z, _, s1, r0.mono si x1, r1, e2, fun w H2 η2 x2 s2 r2 => ?_⟩
        exact kk _ H2 η2 (x1.trans x2) s2 (((er.mono si x1).mono s1 x2).set i r2)
      · cases ef
    · cases ef
  · cases ef
theorem ds_while {cc : Expr} {body : List Stmt} {n : Nat} (hp : PassesOwn (model X.prog X.w) X.A X.env X.xe) (hc : PT X cc (tDT (gm c X) t)) (hb : PSs X body (tDS (gm c X) b)) : PS X (.While cc body [] pos) (tDS (gm c X) (whileD t b n)) := by
  refine PS.imp (ps_while hp hc hb) fun E σ H q => ?_
  obtain ⟨ρ, η, S, o, ρ', S', er, si, ef, kk⟩ := q
  refine ⟨fun m σ1 H1 => ∃ ρ1 η1 S1, Ext H η H1 η1 ∧ EnvR (gm c X) H1 η1 ρ1 σ1 ∧ Sim (gm c X) H1 η1 S1 ∧ whileD t b m ρ1 S1 = some (o, ρ', S'), ⟨n, ρ, η, S, Ext.refl _ _, er, si, ef⟩, ?_⟩
  rintro m σ1 H1 ⟨ρ1, η1, S1, x1, r1, s1, e1⟩
  cases m with
  | zero => cases e1
  | succ m =>
    simp only [whileD] at e1
    split at e1
    · rename_i S2 e2
      refine ⟨ρ1, η1, S1, true, S2, r1, s1, e2, fun H2 η2 x2 s2 => ?_⟩
      simp only [if_true]
      refine ⟨fun σ3 H3 => ∃ ρ3 η3 S3, Ext H η H3 η3 ∧ EnvR (gm c X) H3 η3 ρ3 σ3 ∧ Sim (gm c X) H3 η3 S3 ∧ whileD t b m ρ3 S3 = some (o, ρ', S'), fun σ3 H3 q => ⟨m, Nat.lt_succ_self _, q⟩, ?_⟩
      split at e1
      · rename_i ρ3 S3 e3
        exact ⟨ρ1, η2, S2, _, ρ3, S3, r1.mono s1 x2, s2, e3, fun σ4 H4 η4 x4 s4 r4 => ⟨ρ3, η4, S3, (x1.trans x2).trans x4, r4, s4, e1⟩⟩
      · rename_i ρ3 S3 e3
        exact ⟨ρ1, η2, S2, _, ρ3, S3, r1.mono s1 x2, s2, e3, fun σ4 H4 η4 x4 s4 r4 => ⟨ρ3, η4, S3, (x1.trans x2).trans x4, r4, s4, e1⟩⟩
      · rename_i ρ3 S3 e3
        cases e1
        exact ⟨ρ1, η2, S2, _, _, _, r1.mono s1 x2, s2, e3, fun σ4 H4 η4 x4 s4 r4 => kk σ4 H4 η4 ((x1.trans x2).trans x4) s4 r4⟩
      · rename_i d ρ3 S3 e3
        cases e1
        exact ⟨ρ1, η2, S2, _, _, _, r1.mono s1 x2, s2, e3, fun σ4 H4 η4 x4 s4 r4 => kk σ4 H4 η4 ((x1.trans x2).trans x4) s4 r4⟩
      · cases e1
    · rename_i S2 e2
      cases e1
      refine ⟨_, η1, S1, false, _, r1, s1, e2, fun H2 η2 x2 s2 => ?_⟩
      simp only [Bool.false_eq_true, if_false]
      exact kk σ1 H2 η2 (x1.trans x2) s2 (r1.mono s1 x2)
    · cases e1
theorem ds_for {tg iter : Expr} {body : List Stmt} {w : Env → M Src} {g : D → Sto → Option Ups} (hp : PassesOwn (model X.prog X.w) X.A X.env X.xe) (hc : X.calm = true) (hi : PI X tg iter (tDI (gm c X) w)) (hg : PG X tg (tG (gm c X) g)) (hb : PSs X body (tDS (gm c X) b))
    (hs : ∀ x, foldedSetIterable iter X.env x = pure x := by intro _; rfl) : PS X (.For tg iter body [] pos) (tDS (gm c X) (sFor w g b)) := by
  refine PS.imp (ps_for hp hc hi hg hb hs) fun E σ H q => ?_
  obtain ⟨ρ, η, S, o, ρ', S', er, si, ef, kk⟩ := q
  unfold sFor at ef
  split at ef
  · rename_i src S1 e1
    refine ⟨ρ, η, S, src, S1, er, si, e1, fun J H1 η1 x1 s1 R => ?_⟩
    refine ⟨fun i m σ2 H2 => m + i = src.n ∧ ∃ ρ2 η2 S2, Ext H1 η1 H2 η2 ∧ EnvR (gm c X) H2 η2 ρ2 σ2 ∧ Sim (gm c X) H2 η2 S2 ∧ forD src g b m i ρ2 S2 = some (o, ρ', S'), ⟨src.n, rfl, ρ, η1, S1, Ext.refl _ _, er.mono si x1, s1, ef⟩, ?_⟩
    rintro i m σ2 H2 ⟨hm, ρ2, η2, S2, x2, r2, s2, e2⟩
    cases m with
    | zero =>
      simp only [forD] at e2
      split at e2
      · rename_i hok
        cases e2
        have hi' : i = src.n := by omega
        subst hi'
        exact .inl ⟨R.stop H2 η2 _ (s1.tk x2) s2 hok, kk σ2 H2 η2 (x1.trans x2) s2 r2⟩
      · cases e2
    | succ m =>
      simp only [forD] at e2
      split at e2
      · rename_i d e3
        split at e2
        · rename_i us e4
          have hlt : i < src.n := by omega
          refine .inr ⟨R.go i H2 η2 S2 d (s1.tk x2) s2 hlt e3, fun σ3 H3 => m + (i + 1) = src.n ∧ ∃ ρ3 η3 S3, Ext H1 η1 H3 η3 ∧ EnvR (gm c X) H3 η3 ρ3 σ3 ∧ Sim (gm c X) H3 η3 S3 ∧ forD src g b m (i + 1) ρ3 S3 = some (o, ρ', S'), fun σ3 H3 q => ⟨m, Nat.lt_succ_self _, q⟩, ?_⟩
          intro x H3 y
          obtain ⟨x3, s3, r3, _⟩ := R.yld i H2 η2 S2 d x H3 (s1.tk x2) s2 hlt e3 y
          refine ⟨η2, S2, d, us, s3, r3, e4, fun ws hw => ?_⟩
          have er4 : EnvR (gm c X) H3 η2 (upsD ρ2 us) (upsV σ2 ws) := EnvR.ups hw (r2.mono s2 x3)
          split at e2
          · rename_i ρ5 S5 e5
            exact ⟨_, η2, S2, _, ρ5, S5, er4, s3, e5, fun σ6 H6 η6 x6 s6 r6 => ⟨by omega, ρ5, η6, S5, (x2.trans x3).trans x6, r6, s6, e2⟩⟩
          · rename_i ρ5 S5 e5
            exact ⟨_, η2, S2, _, ρ5, S5, er4, s3, e5, fun σ6 H6 η6 x6 s6 r6 => ⟨by omega, ρ5, η6, S5, (x2.trans x3).trans x6, r6, s6, e2⟩⟩
          · rename_i ρ5 S5 e5
            cases e2
            exact ⟨_, η2, S2, _, _, _, er4, s3, e5, fun σ6 H6 η6 x6 s6 r6 => kk σ6 H6 η6 (((x1.trans x2).trans x3).trans x6) s6 r6⟩
          · rename_i d5 ρ5 S5 e5
            cases e2
            exact ⟨_, η2, S2, _, _, _, er4, s3, e5, fun σ6 H6 η6 x6 s6 r6 => kk σ6 H6 η6 (((x1.trans x2).trans x3).trans x6) s6 r6⟩
          · cases e2
        · cases e2
      · cases e2
  · cases ef
end
end DL

set_option Elab.async false
set_option linter.all false
set_option maxRecDepth 100000
set_option maxHeartbeats 4000000
/-! DL10: list comprehensions, dict.get, the rule for a def -/
namespace DL
open PySem PySem.Spec L2
open PyProof.Rows hiding St

def wipeD (ρ : Env) : List Nat → Env
  | [] => ρ
  | v :: vs => (wipeD ρ vs).set v none
def lcD (src : Src) (g : D → Sto → Option Ups) (t : Env → M Bool) (f : Env → M D) (vs : List Nat) (ρ : Env) : Nat → Nat → List D → M (List D)
  | 0, i, acc, S => if src.ok S = true then some (acc, S) else none
  | n + 1, i, acc, S => match src.item i S with
    | some d => match g d S with
      | some us => if (us.all fun p => decide (p.1 ∈ vs)) = true then match t (upsD ρ us) S with
        | some (true, S1) => match f (upsD ρ us) S1 with
          | some (x, S2) => if acc.length < LINE then lcD src g t f vs ρ n (i + 1) (acc ++ [x]) S2 else none
          | none => none
        | some (false, S1) => lcD src g t f vs ρ n (i + 1) acc S1
        | none => none else none
      | none => none
    | none => none
def fLc (w : Env → M Src) (g : D → Sto → Option Ups) (t : Env → M Bool) (f : Env → M D) (vs : List Nat) : Env → M D := fun ρ => bd (w ρ) fun src => bd (lcD src g t f vs (wipeD ρ vs) src.n 0 []) fun xs => alloc (.lst xs)
def tYesD : Env → M Bool := fun _ => pu true
theorem wipe_get (σ : L2.St) (j : Nat) : ∀ vs : List Nat, (wipe σ vs)[j]? = if j ∈ vs then (if j < σ.length then some none else none) else σ[j]?
  | [] => by simp [wipe]
  | v :: vs => by
    unfold wipe
    by_cases h : v = j
    · subst h
      by_cases hl : v < σ.length
      · rw [List.getElem?_set_self (by rw [wipe_length]; exact hl)]; simp [hl]
      · rw [List.getElem?_eq_none (by simp [wipe_length]; omega)]; simp [hl]
    · rw [List.getElem?_set_ne h, wipe_get σ j vs]
      have h' : ¬ j = v := fun e => h e.symm
      simp [h']
theorem upsV_length (σ : L2.St) : ∀ ws : List (Nat × V), (upsV σ ws).length = σ.length
  | [] => rfl
  | (i, v) :: r => by unfold upsV; rw [upsV_length _ r, List.length_set]
theorem upsV_out (σ : L2.St) (j : Nat) : ∀ ws : List (Nat × V), (∀ p ∈ ws, p.1 ≠ j) → (upsV σ ws)[j]? = σ[j]?
  | [], _ => rfl
  | (i, v) :: r, h => by
    unfold upsV
    rw [upsV_out _ j r fun p hp => h p (List.mem_cons_of_mem _ hp), List.getElem?_set_ne (h (i, v) List.mem_cons_self)]
theorem wipe_ups {σ : L2.St} {vs : List Nat} {ws : List (Nat × V)} (h : ∀ p ∈ ws, p.1 ∈ vs) : wipe (upsV (wipe σ vs) ws) vs = wipe (wipe σ vs) vs := by
  apply List.ext_getElem?
  intro j
  rw [wipe_get, wipe_get, upsV_length]
  by_cases hj : j ∈ vs
  · simp [hj]
  · simp only [hj, if_false]
    exact upsV_out _ j ws fun p hp e => hj (e ▸ h p hp)
theorem EnvR.wipe {g : Gm} {H : Hp} {η : List Addr} {ρ : Env} {σ : L2.St} (h : EnvR g H η ρ σ) (vs : List Nat) : EnvR g H η (wipeD ρ vs) (L2.wipe σ vs) := by
  induction vs with
  | nil => exact h
  | cons v vs ih =>
    refine ⟨by simp [wipeD, L2.wipe, ih.len], fun j d q => ?_⟩
    unfold wipeD at q
    unfold L2.wipe
    by_cases hj : v = j
    · subst hj
      by_cases hl : v < (wipeD ρ vs).length
      · rw [List.getElem?_set_self hl] at q; cases q
      · rw [List.getElem?_eq_none (by simpa using hl)] at q; cases q
    · rw [List.getElem?_set_ne hj] at q ⊢
      exact ih.at_ j d q
theorem RU.keys {g : Gm} {H : Hp} {η : List Addr} {us : Ups} {ws : List (Nat × V)} (u : RU g H η us ws) {vs : List Nat} (h : (us.all fun p => decide (p.1 ∈ vs)) = true) : ∀ p ∈ ws, p.1 ∈ vs := by
  induction u with
  | nil => intro p hp; cases hp
  | @cons i d v r s a b ih =>
    simp only [List.all_cons, Bool.and_eq_true, decide_eq_true_eq] at h
    intro p hp
    rcases List.mem_cons.mp hp with z | z
    · subst z; exact h.1
    · exact ih h.2 p z
section
variable {g : Gm} {H H' : Hp} {η η' : List Addr} {S : Sto}
/-- an unmanaged object that is no tuple changes -/
theorem Sim.side (s : Sim g H η S) {p : Addr} (hn : p ∉ η) (ht : ∀ xs, H p ≠ some (.tup xs)) (hf : ∀ o u, H p ≠ some (.frz o u)) {o : HO} : Tk H η (upd H p o) η ∧ Sim g (upd H p o) η S := by
  have e : Tk H η (upd H p o) η := ⟨⟨[], by simp⟩, fun a xs q => by rw [upd_ne (fun z : a = p => ht xs (by rw [← z]; exact q))]; exact q, fun a o' u q => by rw [upd_ne (fun z : a = p => hf o' u (by rw [← z]; exact q))]; exact q⟩
  exact ⟨e, s.len, s.nd, fun n u a h1 h2 => (s.ob n u a h1 h2).monoT e (upd_ne fun z => hn (z ▸ List.mem_of_getElem? h2))⟩
theorem upd_id {p : Addr} {o : HO} (h : H p = some o) : upd H p o = H := by
  funext a
  by_cases e : a = p
  · subst e; rw [upd_same, h]
  · rw [upd_ne e]
end
section
variable {c : Str → Option Addr} {X : Cx} {pos : Pos}
theorem PTs.imp {ifs : List Expr} {t t' : TT} (h : PTs X ifs t) (i : ∀ σ H Q, t' σ H Q → t σ H Q) : PTs X ifs t' := ⟨fun pins s σ H Q I q => h.run pins s σ H Q I (i σ H Q q)⟩
theorem dts_nil : PTs X [] (tDT (gm c X) tYesD) := by
  refine PTs.imp pts_nil fun σ H Q q => ?_
  obtain ⟨ρ, η, S, b, S', er, si, ef, kk⟩ := q
  cases ef
  exact kk H η (Ext.refl _ _) si
theorem dts_one {cc : Expr} {t : Env → M Bool} (h : PT X cc (tDT (gm c X) t)) : PTs X [cc] (tDT (gm c X) t) := pts_one h
/-- what the comprehension does -/
theorem lc_run {K : PySem.W.Frag} {w : Env → M Src} {gt : D → Sto → Option Ups} {t : Env → M Bool} {f : Env → M D} {vs : List Nat} {σ : L2.St} {H : Hp} {Q : VK} (q : tD (gm c X) (fLc w gt t f vs) σ H Q) :
    tLc (tDI (gm c X) w) (tG (gm c X) gt) (tDT (gm c X) t) (tD (gm c X) f) vs σ H Q := by
  obtain ⟨ρ, η, S, d, S', er, si, ef, kk⟩ := q
  obtain ⟨src, S1, e1, ef⟩ := bd_some ef
  obtain ⟨xs, S2, e2, ef⟩ := bd_some ef
  cases ef
  refine ⟨ρ, η, S, src, S1, er, si, e1, fun J H1 η1 x1 s1 R => ?_⟩
  intro L hL
  have nt : ∀ {H' : Hp} {l : List V}, H' L = some (.lst l) → (∀ xs, H' L ≠ some (.tup xs)) ∧ (∀ o u, H' L ≠ some (.frz o u)) := fun e => ⟨fun xs q => (by rw [e] at q; cases q), fun o u q => (by rw [e] at q; cases q)⟩
  obtain ⟨x0, s0⟩ := s1.newT hL (.lst [])
  refine ⟨fun i m H2 => m + i = src.n ∧ ∃ η2 S3 acc vacc, Ext H1 η1 H2 η2 ∧ L ∉ η2 ∧ H2 L = some (.lst vacc) ∧ RVs (gm c X) H2 η2 acc vacc ∧ Sim (gm c X) H2 η2 S3 ∧ lcD src gt t f vs (wipeD ρ vs) m i acc S3 = some (xs, S2),
    ⟨src.n, rfl, η1, S1, [], [], x0, s1.fresh hL, upd_same, RVs.nil, s0, e2⟩, ?_⟩
  rintro i m H2 ⟨hm, η2, S3, acc, vacc, x2, n2, l2, r2, s2, e3⟩
  cases m with
  | zero =>
    simp only [lcD] at e3
    split at e3
    · rename_i hok
      cases e3
      have hi' : i = src.n := by omega
      subst hi'
      refine .inl ⟨R.stop H2 η2 _ (s1.tk x2) s2 hok, ?_⟩
      have ad := s2.adopt n2 (nt l2).1 (nt l2).2 (o := .lst vacc) (ob := .lst xs) fun tk => ⟨vacc, upd_same, RVs.monoT tk _ _ r2⟩
      rw [upd_id l2] at ad
      obtain ⟨tk, s3⟩ := ad
      have x3 : Ext H1 η1 H2 (η2 ++ [L]) := by
        obtain ⟨⟨u, hu⟩, kp, nw⟩ := x2
        refine ⟨⟨u ++ [L], by rw [hu]; simp⟩, kp, fun a ha => ?_⟩
        rcases List.mem_append.mp ha with z | z
        · exact nw a z
        · rw [List.mem_singleton.mp z]; exact .inr hL
      refine kk _ H2 _ (x1.trans x3) s3 ?_
      simp only [RV]
      exact ⟨L, rfl, by rw [← s2.len]; simp⟩
    · cases e3
  | succ m =>
    simp only [lcD] at e3
    split at e3
    · rename_i d e4
      split at e3
      · rename_i us e5
        split at e3
        · rename_i hus
          have hlt : i < src.n := by omega
          refine .inr ⟨R.go i H2 η2 S3 d (s1.tk x2) s2 hlt e4, fun H3 => m + (i + 1) = src.n ∧ ∃ η3 S4 acc vacc, Ext H1 η1 H3 η3 ∧ L ∉ η3 ∧ H3 L = some (.lst vacc) ∧ RVs (gm c X) H3 η3 acc vacc ∧ Sim (gm c X) H3 η3 S4 ∧ lcD src gt t f vs (wipeD ρ vs) m (i + 1) acc S4 = some (xs, S2), fun H3 q => ⟨m, Nat.lt_succ_self _, q⟩, ?_⟩
          intro x H3 y
          obtain ⟨x3, s3, r3, keep⟩ := R.yld i H2 η2 S3 d x H3 (s1.tk x2) s2 hlt e4 y
          refine ⟨η2, S3, d, us, s3, r3, e5, fun ws hw => ⟨?_, ?_⟩⟩
          · rw [wipe_ups (RU.keys hw hus)]
            apply List.ext_getElem?
            intro j
            rw [wipe_get, wipe_get, wipe_length]
            by_cases hj : j ∈ vs <;> simp [hj]
          have er4 : EnvR (gm c X) H3 η2 (upsD (wipeD ρ vs) us) (upsV (wipe σ vs) ws) := EnvR.ups hw ((((er.mono si x1).mono s1 x2).mono s2 x3).wipe vs)
          have out : ∀ {H4 : Hp} {η4 : List Addr}, Ext H3 η2 H4 η4 → L ∉ η4 ∧ H4 L = some (.lst vacc) := by
            intro H4 η4 x4
            refine ⟨fun z => ?_, x4.kp L _ (keep _ _ l2) n2⟩
            rcases x4.nw L z with z | z
            · exact n2 z
            · rw [keep _ _ l2] at z; cases z
          split at e3
          · rename_i S4 e6
            refine ⟨_, η2, S3, true, S4, er4, s3, e6, fun H4 η4 x4 s4 => ?_⟩
            simp only [if_true]
            split at e3
            · rename_i z S5 e7
              split at e3
              · rename_i hl
                refine ⟨_, η4, S4, z, S5, er4.mono s3 x4, s4, e7, fun vz H5 η5 x5 s5 r5 => ?_⟩
                obtain ⟨n5, l5⟩ := out (x4.trans x5)
                refine ⟨vacc, l5, by rw [r2.length, line_eq]; exact hl, by omega, ?_⟩
                obtain ⟨tk, s6⟩ := s5.side n5 (nt l5).1 (nt l5).2 (o := .lst (vacc ++ [vz]))
                refine ⟨η5, S5, acc ++ [z], vacc ++ [vz], ?_, n5, upd_same, RVs.monoT tk _ _ (((((r2.mono s2 x3).mono s3 x4).mono s4 x5)).append (.one r5)), s6, e3⟩
                obtain ⟨pre, kp, nw⟩ := ((x2.trans x3).trans x4).trans x5
                exact ⟨pre, fun a o h1 h2 => by rw [upd_ne (ne_of_none h1 hL)]; exact kp a o h1 h2, nw⟩
              · cases e3
            · cases e3
          · rename_i S4 e6
            refine ⟨_, η2, S3, false, S4, er4, s3, e6, fun H4 η4 x4 s4 => ?_⟩
            simp only [Bool.false_eq_true, if_false]
            obtain ⟨n4, l4⟩ := out x4
            exact ⟨by omega, η4, S4, acc, vacc, (x2.trans x3).trans x4, n4, l4, (r2.mono s2 x3).mono s3 x4, s4, e3⟩
          · cases e3
        · cases e3
      · cases e3
    · cases e3
section
variable {elt tg iter : Expr} {ifs : List Expr} {scope : Scope} {own : List (Str × Nat)} {w : Env → M Src} {gt : D → Sto → Option Ups} {t : Env → M Bool} {f : Env → M D}
theorem de_lc (hc : X.calm = true) (hN : X.N.Nodup) (hi : PI X tg iter (tDI (gm c X) w)) (ok : BlkOk X.N X.env.scope scope own)
    (hg : ∀ (s : Shared) (H : Hp) (C : Addr) (cl : List (Str × Addr)) (fp : List Addr), PG (X.blk s H scope (compEnvC scope cl C X.env) fp) tg (tG (gm c X) gt)) (ht : ∀ (s : Shared) (H : Hp) (C : Addr) (cl : List (Str × Addr)) (fp : List Addr), PTs (X.blk s H scope (compEnvC scope cl C X.env) fp) ifs (tDT (gm c X) t))
    (he : ∀ (s : Shared) (H : Hp) (C : Addr) (cl : List (Str × Addr)) (fp : List Addr), PE (X.blk s H scope (compEnvC scope cl C X.env) fp) elt (tD (gm c X) f)) (hs : ∀ x, foldedSetIterable iter X.env x = pure x := by intro _; rfl) :
    PE X (.ListComp elt [⟨tg, iter, ifs, 0⟩] scope pos) (tD (gm c X) (fLc w gt t f (own.map (·.2)))) :=
  PE.imp (pe_lc hc hN hi ok hg ht he hs) fun _ _ _ q => lc_run (K := X.K) q
theorem ds_setLc {i : Nat} {y : Str} {py spos : Pos} (hc : X.calm = true) (hN : X.N.Nodup) (hy : X.N[i]? = some y) (hyl : X.env.scope.names.lookup y = some .local)
    (hsw : swapsWith (.ListComp elt [⟨tg, iter, ifs, 0⟩] scope pos) (some (.Name y py)) spos.line X.env = pure true) (hi : PI X tg iter (tDI (gm c X) w)) (ok : BlkOk X.N X.env.scope scope own)
    (hg : ∀ (s : Shared) (H : Hp) (C : Addr) (cl : List (Str × Addr)) (fp : List Addr), PG (X.blk s H scope (compEnvC scope cl C X.env) fp) tg (tG (gm c X) gt)) (ht : ∀ (s : Shared) (H : Hp) (C : Addr) (cl : List (Str × Addr)) (fp : List Addr), PTs (X.blk s H scope (compEnvC scope cl C X.env) fp) ifs (tDT (gm c X) t))
    (he : ∀ (s : Shared) (H : Hp) (C : Addr) (cl : List (Str × Addr)) (fp : List Addr), PE (X.blk s H scope (compEnvC scope cl C X.env) fp) elt (tD (gm c X) f)) (hs : ∀ x, foldedSetIterable iter X.env x = pure x := by intro _; rfl) :
    PS X (.Assign [.Name y py] (.ListComp elt [⟨tg, iter, ifs, 0⟩] scope pos) spos) (tDS (gm c X) (sSet i (fLc w gt t f (own.map (·.2))))) := by
  refine PS.imp (ps_setLc hc hN hy hyl hsw hi ok hg ht he hs) fun E σ H q => ?_
  obtain ⟨ρ, η, S, o, ρ', S', er, si, ef, kk⟩ := q
  unfold sSet at ef
  split at ef
  · rename_i x S1 e1
    cases ef
    exact lc_run (K := X.K) ⟨ρ, η, S, x, _, er, si, e1, fun v H1 η1 x1 s1 r1 => kk _ H1 η1 x1 s1 ((er.mono si x1).set i r1)⟩
  · cases ef
end

/-! ### d.get(k, x) -/
def getD2 (o k x : D) : M D := fun S => match o with
  | .ref n => match S[n]? with
    | some (.dK kvs) => match keyF k with
      | some ky => some ((getK kvs ky).getD x, S)
      | none => none
    | _ => none
  | _ => none
def fGet2 (fo fk fx : Env → M D) : Env → M D := fun ρ => bd (fo ρ) fun o => bd (fun S => match o with
    | .ref n => match S[n]? with
      | some (.dK _) => some ((), S)
      | _ => none
    | _ => none) fun _ => bd (fk ρ) fun k => bd (fx ρ) fun x => getD2 o k x
theorem de_get2 {o e f : Expr} {apos cpos : Pos} {fo fk fx : Env → M D} (hu : X.A.units + 1 < cLine) (ho : PE X o (tD (gm c X) fo)) (he : PE X e (tD (gm c X) fk)) (hf : PE X f (tD (gm c X) fx)) (m : M2 X o "get" apos e f cpos := by exact ⟨rfl, rfl, rfl, rfl⟩) :
    PE X (.Call (.Attribute o "get" apos) [e, f] [] cpos) (tD (gm c X) (fGet2 fo fk fx)) := by
  refine PE.imp (pe_dget2 hu ho he hf m) fun σ H Q q => ?_
  obtain ⟨ρ, η, S, d, S', er, si, ef, kk⟩ := q
  obtain ⟨o', S1, e1, ef⟩ := bd_some ef
  obtain ⟨_, S2, e2, ef⟩ := bd_some ef
  obtain ⟨k', S3, e3, ef⟩ := bd_some ef
  obtain ⟨x', S4, e4, eg0⟩ := bd_some ef
  refine ⟨ρ, η, S, o', S1, er, si, e1, fun v H1 η1 x1 s1 r1 => ?_⟩
  cases o' with
  | ref n =>
    simp only at e2
    have r1' := r1
    simp only [RV] at r1
    obtain ⟨a, rfl, qa⟩ := r1
    split at e2
    · rename_i kvs q0
      cases e2
      obtain ⟨vs, h1, h2⟩ := s1.ob _ _ _ q0 qa
      refine ⟨a, rfl, .inl ⟨vs, .inl h1⟩, ρ, η1, _, k', S3, er.mono si x1, s1, e3, fun vk H2 η2 x2 s2 r2 => ?_⟩
      refine ⟨ρ, η2, S3, x', S4, (er.mono si x1).mono s1 x2, s2, e4, fun vx H3 η3 x3 s3 r3 => ?_⟩
      unfold getD2 at eg0
      simp only at eg0
      split at eg0
      · rename_i kvs' q1
        split at eg0
        · rename_i ky e5
          cases eg0
          obtain ⟨vs', h3, h4⟩ := s3.ob _ _ _ q1 (x3.get (x2.get qa))
          have ek := keyF_is (r2.mono s2 x3) e5
          refine ⟨valV vs' ky, by rw [ek]; exact DGet.k h3, ?_⟩
          have kk' := kk ((valV vs' ky).getD vx) H3 η3 ((x1.trans x2).trans x3) s3
          cases eg : getK kvs' ky with
          | some d' =>
            obtain ⟨v', h5, h6⟩ := h4.get eg
            rw [eg, h5] at kk'
            rw [h5]
            exact kk' h6
          | none =>
            rw [eg, h4.get0 eg] at kk'
            rw [h4.get0 eg]
            exact kk' r3
        · cases eg0
      · cases eg0
    · cases e2
  | _ => cases e2
end

/-! ### a def -/
def outD : Option (Out × Env × Sto) → Option (D × Sto)
  | some (.nx, _, S) => some (.non, S)
  | some (.rt d, _, S) => some (d, S)
  | _ => none
/-- what a body computes from its arguments: n slots in all -/
def defD (n : Nat) (b : FS) (ds : List D) : M D := fun S => outD (b (ds.map some ++ List.replicate (n - ds.length) none) S)
section
variable {P : Program} {w : World} {K : PySem.W.Frag} {mg : Str → Option Value} {base : Heap} {c : Str → Option Addr}
theorem fn_D {x qual : Str} {st : Stmt} {f : Addr} {fd : FuncData} {N ps : List Str} {k : Nat} {b : FS} {h : List D → M D} (F : Fun K x qual st f fd) (S : FnScope N ps (defScope st)) (hb : ∀ ds S r, h ds S = some r → defD N.length b ds S = some r)
    (body : ∀ (cdv : Value) (A : Around) (outer : List PySem.Env) (s : Shared) (H : Hp) (E : XK), Room k (A.deeper (envOfC qual (defScope st) s.heap.objs.size f cdv)) →
      PSs (cxOf CX0 P w K mg base N qual (defScope st) f cdv A outer s H E).nox (defBody st) (tDS ⟨K, P, w, c⟩ b)) : FnOk P w K mg base CX0 (k + 1) f fd ps (spD ⟨K, P, w, c⟩ ps.length h) := by
  refine F.ok S (fun vs H Q E q => spD_len q) fun cdv A outer s H vs Q E hr q => ?_
  obtain ⟨η, S0, ds, d, S', si, rr, hl, ef, kk⟩ := q
  refine ⟨_, body cdv A outer s H E hr, ?_⟩
  have ef := hb ds S0 _ ef
  unfold defD at ef
  have er : EnvR ⟨K, P, w, c⟩ H η (ds.map some ++ List.replicate (N.length - ds.length) none) (start N vs) := by
    have hlv := rr.length
    refine ⟨by simp [L2.start, hlv], fun i d0 q => ?_⟩
    unfold L2.start
    rw [List.getElem?_append] at q ⊢
    rw [List.length_map] at q ⊢
    rw [hlv]
    split
    · rename_i hi
      rw [if_pos hi] at q
      rw [List.getElem?_map] at q
      obtain ⟨d1, h1, h2⟩ := Option.map_eq_some_iff.mp q
      cases h2
      obtain ⟨v, h3, h4⟩ := rr.get h1
      exact ⟨v, by rw [List.getElem?_map, h3]; rfl, h4⟩
    · rename_i hi
      rw [if_neg hi] at q
      rw [List.getElem?_replicate] at q
      split at q <;> cases q
  generalize hr0 : b (ds.map some ++ List.replicate (N.length - ds.length) none) S0 = r0 at ef
  unfold outD at ef
  split at ef
  · cases ef
    exact ⟨_, η, S0, _, _, _, er, si, hr0, fun σ' H' η' x' s' e' => kk .non H' η' x' s' (by simp only [RV])⟩
  · cases ef
    exact ⟨_, η, S0, _, _, _, er, si, hr0, fun σ' H' η' x' s' e' v r => kk v H' η' x' s' r⟩
  · cases ef
end
end DL

set_option Elab.async false
set_option linter.all false
set_option maxRecDepth 100000
set_option maxHeartbeats 4000000
/-! DLl: len of dicts -/
namespace DL
open PySem PySem.Spec L2
open PyProof.Rows hiding St
def lenD2 (xs : List D) : M D := fun S => match xs with
  | [.ref n] => match S[n]? with
    | some (.dK kvs) => if kvs.length < LINE then some (.int kvs.length, S) else none
    | some (.dN kvs) => if kvs.length < LINE then some (.int kvs.length, S) else none
    | _ => lenD xs S
  | _ => lenD xs S
theorem call_lenD2 {c : Str → Option Addr} {X : Cx} : CallR X (.builtin "len") (rDc (gm c X) lenD2) := by
  intro pins s σ H vs us Q I r h
  obtain ⟨η, S, xs, d, S', si, rr, ef, k⟩ := h
  have line : LINE = 16777216 := rfl
  unfold lenD2 at ef
  split at ef
  · rename_i n
    split at ef
    · rename_i kvs e0
      split at ef
      · rename_i hl
        cases ef
        obtain ⟨v, rfl, r1⟩ := one_of rr
        simp only [RV] at r1
        obtain ⟨a, rfl, q⟩ := r1
        obtain ⟨u, rfl, r2⟩ := vals1 r
        cases r2
        obtain ⟨ws, h1, t⟩ := si.ob _ _ _ e0 q
        obtain ⟨z, hd, ys, rel, dd⟩ := dk_of I.hok h1
        have e1 : ys.length = kvs.length := by rw [← rel.length, t.length]
        exact call_len_dict hd dd (by omega) ⟨.int _, H, I.tok _, ⟨_, by rw [e1]⟩, k.at_ si (by simp only [RV])⟩
      · cases ef
    · rename_i kvs e0
      split at ef
      · rename_i hl
        cases ef
        obtain ⟨v, rfl, r1⟩ := one_of rr
        simp only [RV] at r1
        obtain ⟨a, rfl, q⟩ := r1
        obtain ⟨u, rfl, r2⟩ := vals1 r
        cases r2
        obtain ⟨hsm, ys, hm, hr⟩ := dn_of I (si.ob _ _ _ e0 q)
        have e1 : ys.length = kvs.length := hr.length
        exact call_len_dictH hsm hm (by omega) ⟨.int _, H, I.tok _, ⟨_, by rw [e1]⟩, k.at_ si (by simp only [RV])⟩
      · cases ef
    · exact call_lenD pins s σ H vs us Q I r ⟨η, S, _, d, S', si, rr, ef, k⟩
  · exact call_lenD pins s σ H vs us Q I r ⟨η, S, _, d, S', si, rr, ef, k⟩
end DL

set_option Elab.async false
set_option linter.all false
set_option maxRecDepth 100000
set_option maxHeartbeats 4000000
/-! DL11: calls that touch no store; sorting by strict rows; what a def needs of its module -/
namespace DL
open PySem PySem.Spec L2
open PyProof.Rows hiding St

mutual
def free : D → Bool
  | .tup ds => frees ds
  | .fro ds => frees ds
  | .ref _ => false
  | .non => true
  | .bl _ => true
  | .int _ => true
  | .str _ => true
def frees : List D → Bool
  | [] => true
  | d :: ds => free d && frees ds
end
/-- a call with values alone that gives a value: the store is left out -/
def pureD (h : List D → M D) : List D → M D := fun ds S => if frees ds = true then match h ds [] with
  | some (d, _) => if free d = true then some (d, S) else none
  | none => none else none
mutual
theorem RV.free {g : Gm} {H : Hp} {η η' : List Addr} : ∀ (d : D) (v : V), free d = true → RV g H η d v → RV g H η' d v
  | .non, _, _, h => by simpa only [RV] using h
  | .bl _, _, _, h => by simpa only [RV] using h
  | .int _, _, _, h => by simpa only [RV] using h
  | .str _, _, _, h => by simpa only [RV] using h
  | .tup ds, _, f, h => by
    simp only [RV] at h ⊢
    obtain ⟨a, vs, rfl, q, r⟩ := h
    exact ⟨a, vs, rfl, q, RVs.free ds vs (by simpa only [DL.free] using f) r⟩
  | .fro ds, _, f, h => by
    simp only [RV] at h ⊢
    obtain ⟨a, vs, rfl, q, r⟩ := h
    exact ⟨a, vs, rfl, q, RVs.free ds vs (by simpa only [DL.free] using f) r⟩
  | .ref _, _, f, _ => by simp [DL.free] at f
theorem RVs.free {g : Gm} {H : Hp} {η η' : List Addr} : ∀ (ds : List D) (vs : List V), frees ds = true → RVs g H η ds vs → RVs g H η' ds vs
  | [], _, _, h => by simpa only [RVs] using h
  | d :: ds, _, f, h => by
    simp only [RVs] at h ⊢
    simp only [frees, Bool.and_eq_true] at f
    obtain ⟨v, r, rfl, q, t⟩ := h
    exact ⟨v, r, rfl, RV.free d v f.1 q, RVs.free ds r f.2 t⟩
end
theorem spD_pure {g : Gm} {n : Nat} {h : List D → M D} {vs : List V} {H : Hp} {Q : VK} {E : XK} (q : spD g n (pureD h) vs H Q E) : spD g n h vs H Q E := by
  obtain ⟨η, S, ds, d, S', si, rr, hl, ef, kk⟩ := q
  unfold pureD at ef
  split at ef
  · rename_i hf
    split at ef
    · rename_i d' S1 e1
      split at ef
      · rename_i hd
        cases ef
        refine ⟨[], [], ds, _, S1, ⟨rfl, List.nodup_nil, fun n o a h1 _ => by simp at h1⟩, RVs.free ds vs hf rr, hl, e1, fun v H' η' x' s' r' => ?_⟩
        obtain ⟨x2, s2⟩ := si.keep fun a o ha => x'.kp a o ha (by simp)
        exact kk v H' η x2 s2 (RV.free _ v hd r')
      · cases ef
    · cases ef
  · cases ef

/-! ### sorted, rows all unlike -/
def insS (x : D) : List D → List D
  | [] => [x]
  | y :: ys => if PySem.W.dataLt (D.pdT x) (D.pdT y) = true then x :: y :: ys else y :: insS x ys
def sortS : List D → List D
  | [] => []
  | x :: xs => insS x (sortS xs)
def strictS : List D → Bool
  | [] => true
  | [_] => true
  | x :: y :: ys => PySem.W.dataLt (D.pdT x) (D.pdT y) && strictS (y :: ys)
theorem insS_perm (x : D) : ∀ ys : List D, (insS x ys).Perm (x :: ys)
  | [] => .refl _
  | y :: ys => by
    unfold insS
    split
    · exact .refl _
    · exact ((insS_perm x ys).cons y).trans (.swap x y ys)
theorem sortS_perm : ∀ xs : List D, (sortS xs).Perm xs
  | [] => .refl _
  | x :: xs => (insS_perm x _).trans ((sortS_perm xs).cons x)
theorem dLe_eq (a b : D) : PySem.W.dataLe false D.pdT a b = !PySem.W.dataLt (D.pdT b) (D.pdT a) := rfl
theorem dLe_total : PySem.W.TotalLe (PySem.W.dataLe false D.pdT) := PySem.W.sortLe_total _ _ _
theorem strict_pairwise : ∀ xs : List D, strictS xs = true → xs.Pairwise fun a b => PySem.W.dataLe false D.pdT b a = false
  | [], _ => .nil
  | [x], _ => .cons (by simp) .nil
  | x :: y :: ys, h => by
    simp only [strictS, Bool.and_eq_true] at h
    have ih := strict_pairwise (y :: ys) h.2
    have hxy : PySem.W.dataLe false D.pdT y x = false := by rw [dLe_eq, h.1]; rfl
    refine .cons (fun z hz => ?_) ih
    rcases List.mem_cons.mp hz with e | hz
    · subst e; exact hxy
    · have hyz : PySem.W.dataLe false D.pdT z y = false := (List.pairwise_cons.mp ih).1 z hz
      cases e : PySem.W.dataLe false D.pdT z x with
      | false => rfl
      | true =>
        have h1 : PySem.W.dataLe false D.pdT y z = true := by
          rcases dLe_total.total y z with q | q
          · exact q
          · rw [hyz] at q; cases q
        have := dLe_total.trans y z x h1 e
        rw [hxy] at this; cases this
theorem sortS_eq {xs : List D} (h : strictS (sortS xs) = true) : sortD xs = sortS xs := by
  have p1 := strict_pairwise _ h
  have pm : (xs.mergeSort (PySem.W.dataLe false D.pdT)).Perm (sortS xs) := (List.mergeSort_perm _ _).trans (sortS_perm xs).symm
  have s1 := List.pairwise_mergeSort dLe_total.trans (fun a b => by rcases dLe_total.total a b with q | q <;> simp [q]) xs
  refine List.Perm.eq_of_pairwise (le := fun a b => PySem.W.dataLe false D.pdT a b = true) (fun a b ha hb h1 h2 => ?_) s1 (p1.imp fun {a b} q => ?_) pm
  · have ha' := pm.mem_iff.mp ha
    obtain ⟨i, hi, rfl⟩ := List.mem_iff_getElem.mp ha'
    obtain ⟨j, hj, rfl⟩ := List.mem_iff_getElem.mp hb
    rcases Nat.lt_trichotomy i j with l | l | l
    · have := List.pairwise_iff_getElem.mp p1 i j hi hj l
      rw [h2] at this; cases this
    · subst l; rfl
    · have := List.pairwise_iff_getElem.mp p1 j i hj hi l
      rw [h1] at this; cases this
  · rcases dLe_total.total a b with z | z
    · exact z
    · rw [q] at z; cases z
def sortedS (xs : List D) : M D := fun S => match xs with
  | [x] => match listD x S with
    | some ds => match D.pds ds with
      | some ps => if alikeB ps = true ∧ sortB ps = true ∧ ps.all (fun p => decide (p.depth ≤ 60)) = true ∧ strictS (sortS ds) = true then some (.ref S.length, S ++ [.lst (sortS ds)]) else none
      | none => none
    | none => none
  | _ => none
theorem sortedS_eq {xs : List D} {S : Sto} {r : D × Sto} (h : sortedS xs S = some r) : sortedD xs S = some r := by
  unfold sortedS at h
  split at h
  · split at h
    · rename_i ds e0
      split at h
      · rename_i ps e1
        split at h
        · rename_i hh
          cases h
          simp only [sortedD, e0, e1]
          rw [if_pos ⟨hh.1, hh.2.1, hh.2.2.1⟩, sortS_eq hh.2.2.2]
        · cases h
      · cases h
    · cases h
  · cases h
theorem call_sortedS {c : Str → Option Addr} {X : Cx} (hu : X.A.units + 64 < cLine) : CallR X (.builtin "sorted") (rDc (gm c X) sortedS) :=
  CallR.imp (call_sortedD hu) fun vs H Q q => by
    obtain ⟨η, S, xs, d, S', si, rr, ef, k⟩ := q
    exact ⟨η, S, xs, d, S', si, rr, sortedS_eq ef, k⟩

/-- a constant text under another name -/
theorem de_strK {c : Str → Option Addr} {X : Cx} {x y : Str} {j} {pos : Pos} (h : x = y) : PE X (.Constant (.str x) j pos) (tD (gm c X) (fC (.str y))) := h ▸ de_str
theorem de_cast {c : Str → Option Addr} {X : Cx} {e : Expr} {f f' : Env → M D} (h : PE X e (tD (gm c X) f)) (q : f = f') : PE X e (tD (gm c X) f') := q ▸ h
theorem ds_cast {c : Str → Option Addr} {X : Cx} {e : Stmt} {f f' : FS} (h : PS X e (tDS (gm c X) f)) (q : f = f') : PS X e (tDS (gm c X) f') := q ▸ h
theorem pps_str {X : Cx} {pos : Pos} {x y : Str} {j} {p : Pos} {v : Expr} {ks : List (Option Expr)} {vs : List Expr} {tv : TE} {trs : List (TE × TE)} (h : x = y) (hv : PE X v tv) (hr : PPs X pos ks vs trs) : PPs X pos (some (.Constant (.str x) j p) :: ks) (v :: vs) ((tC (.str y), tv) :: trs) := h ▸ pps_cons pe_str hv hr
/-! ### what a def needs of its module -/
section
variable {P : Program} {w : World} {K : PySem.W.Frag} {mg : Str → Option Value} {base : Heap} {c : Str → Option Addr}
structure GlobOk (K : PySem.W.Frag) (P : Program) (w : World) (c : Str → Option Addr) (mg : Str → Option Value) (x : Str) (d : D) : Prop where
  ex : ∃ u v, mg x = some u ∧ RelV v u ∧ ∀ H η, RV ⟨K, P, w, c⟩ H η d v
theorem de_g {X : Cx} {x : Str} {d : D} {pos : Pos} (G : GlobOk X.K X.prog X.w c X.mg x d) (hg : Gl X x) (hd : (x == ("__debug__" : Str)) = false := by decide) : PE X (.Name x pos) (tD (gm c X) (fC d)) := by
  obtain ⟨u, v, h1, h2, h3⟩ := G.ex
  exact de_glob hg h1 h2 h3 hd
/-- a def of the module -/
structure Has (P : Program) (w : World) (K : PySem.W.Frag) (mg : Str → Option Value) (base : Heap) (c : Str → Option Addr) (x : Str) (k n : Nat) (h : List D → M D) : Prop where
  ex : ∃ f fd ps, FnOk P w K mg base CX0 k f fd ps (spD ⟨K, P, w, c⟩ n h) ∧ mg x = some (.ref f) ∧ PySem.W.keepIn K (.ref f) = true ∧ Binds K fd ps []
structure HasM (P : Program) (w : World) (K : PySem.W.Frag) (mg : Str → Option Value) (base : Heap) (c : Str → Option Addr) (cn m : Str) (k n : Nat) (h : List D → M D) : Prop where
  ex : ∃ C f fd ps, c cn = some C ∧ Cls K C ∧ Meth K C m f ∧ FnOk P w K mg base CX0 k f fd ps (spD ⟨K, P, w, c⟩ n h) ∧ Binds K fd ps []
structure HasI (P : Program) (w : World) (K : PySem.W.Frag) (mg : Str → Option Value) (base : Heap) (c : Str → Option Addr) (cn : Str) (k n : Nat) (h : List D → M D) : Prop where
  ex : ∃ C f fd ps, c cn = some C ∧ mg cn = some (.ref C) ∧ Mk K C f ∧ FnOk P w K mg base CX0 k f fd ps (spD ⟨K, P, w, c⟩ n h) ∧ Binds K fd ps []
theorem Has.at {X : Cx} {x : Str} {k n : Nat} {h : List D → M D} (F : Has X.prog X.w X.K X.mg X.base c x k n h) (hr : Room k X.A) : CallOk c X x k n h := by
  obtain ⟨f, fd, ps, h1, h2, h3, h4⟩ := F.ex
  exact ⟨f, fd, ps, h1, h2, h3, h4, hr⟩
theorem HasM.at {X : Cx} {cn m : Str} {k n : Nat} {h : List D → M D} (F : HasM X.prog X.w X.K X.mg X.base c cn m k n h) (hr : Room k X.A) : MethOk c X cn m k n h := by
  obtain ⟨C, f, fd, ps, h0, h1, h2, h3, h4⟩ := F.ex
  exact ⟨C, f, fd, ps, h0, h1, h2, h3, h4, hr⟩
theorem HasI.at {X : Cx} {cn : Str} {j k n : Nat} {h : List D → M D} (F : HasI X.prog X.w X.K X.mg X.base c cn k n h) (hr : Room j X.A) (hk : k + 1 ≤ j) : MakeOk c X cn k n h := by
  obtain ⟨C, f, fd, ps, h0, h1, h2, h3, h4⟩ := F.ex
  exact ⟨C, f, fd, ps, h0, h1, h2, h3, h4, hr.mono hk⟩
theorem FnOk.zero {f : Addr} {fd : FuncData} {ps : List Str} {n : Nat} {h : List D → M D} (hn : ∀ ds S, h ds S = none) (k : Nat) : FnOk P w K mg base CX0 k f fd ps (spD ⟨K, P, w, c⟩ n h) := by
  have nope : ∀ vs H Q E, ¬ spD ⟨K, P, w, c⟩ n h vs H Q E := fun vs H Q E q => by
    obtain ⟨η, S, ds, d, S', _, _, _, ef, _⟩ := q
    rw [hn] at ef; cases ef
  exact ⟨fun vs H Q E h => absurd h (nope vs H Q E), fun A outer s H args us vs Q E _ _ _ _ h => absurd h (nope vs H Q E)⟩
theorem hu65 {k : Nat} {A : Around} (r : Room k A) : A.units + 65 < cLine := by have := r.un; omega
theorem hn_of {P : Program} {w : World} {k : Nat} {A : Around} (r : Room k A) : (nestedKind P w).room A.in1 := by
  have := r.un
  show A.units + 1 + 8 < cLine
  omega
end
end DL

set_option Elab.async false
set_option linter.all false
set_option maxRecDepth 100000
set_option maxHeartbeats 4000000
/-! DLs: calls whose result is a value: what they have made is forgotten -/
namespace DL
open PySem PySem.Spec L2
open PyProof.Rows hiding St
mutual
def rlt (n : Nat) : D → Bool
  | .tup ds => rlts n ds
  | .fro ds => rlts n ds
  | .ref m => decide (m < n)
  | .non => true
  | .bl _ => true
  | .int _ => true
  | .str _ => true
def rlts (n : Nat) : List D → Bool
  | [] => true
  | d :: ds => rlt n d && rlts n ds
end
def rltO (n : Nat) : Ob → Bool
  | .lst xs => rlts n xs
  | .dK kvs => kvs.all fun p => rlt n p.2
  | .dN kvs => kvs.all fun p => rlt n p.2
  | .ins _ fs => fs.all fun p => rlt n p.2
section
variable {g : Gm} {H : Hp} {η t : List Addr}
mutual
theorem RV.rlt : ∀ (d : D) (v : V), RV g H η d v → DL.rlt η.length d = true
  | .non, _, _ => rfl
  | .bl _, _, _ => rfl
  | .int _, _, _ => rfl
  | .str _, _, _ => rfl
  | .tup ds, _, h => by
    simp only [RV] at h
    obtain ⟨a, vs, rfl, q, r⟩ := h
    simpa only [DL.rlt] using RVs.rlt ds vs r
  | .fro ds, _, h => by
    simp only [RV] at h
    obtain ⟨a, vs, rfl, q, r⟩ := h
    simpa only [DL.rlt] using RVs.rlt ds vs r
  | .ref m, _, h => by
    simp only [RV] at h
    obtain ⟨a, rfl, q⟩ := h
    simp only [DL.rlt, decide_eq_true_eq]
    exact (List.getElem?_eq_some_iff.mp q).1
theorem RVs.rlt : ∀ (ds : List D) (vs : List V), RVs g H η ds vs → DL.rlts η.length ds = true
  | [], _, _ => rfl
  | d :: ds, _, h => by
    simp only [RVs] at h
    obtain ⟨v, r, rfl, q, s⟩ := h
    simp only [DL.rlts, Bool.and_eq_true]
    exact ⟨RV.rlt d v q, RVs.rlt ds r s⟩
end
mutual
theorem RV.shr : ∀ (d : D) (v : V), DL.rlt η.length d = true → RV g H (η ++ t) d v → RV g H η d v
  | .non, _, _, h => by simpa only [RV] using h
  | .bl _, _, _, h => by simpa only [RV] using h
  | .int _, _, _, h => by simpa only [RV] using h
  | .str _, _, _, h => by simpa only [RV] using h
  | .tup ds, _, f, h => by
    simp only [RV] at h ⊢
    obtain ⟨a, vs, rfl, q, r⟩ := h
    exact ⟨a, vs, rfl, q, RVs.shr ds vs (by simpa only [DL.rlt] using f) r⟩
  | .fro ds, _, f, h => by
    simp only [RV] at h ⊢
    obtain ⟨a, vs, rfl, q, r⟩ := h
    exact ⟨a, vs, rfl, q, RVs.shr ds vs (by simpa only [DL.rlt] using f) r⟩
  | .ref m, _, f, h => by
    simp only [RV] at h ⊢
    simp only [DL.rlt, decide_eq_true_eq] at f
    obtain ⟨a, rfl, q⟩ := h
    exact ⟨a, rfl, by rwa [List.getElem?_append_left f] at q⟩
theorem RVs.shr : ∀ (ds : List D) (vs : List V), DL.rlts η.length ds = true → RVs g H (η ++ t) ds vs → RVs g H η ds vs
  | [], _, _, h => by simpa only [RVs] using h
  | d :: ds, _, f, h => by
    simp only [RVs] at h ⊢
    simp only [DL.rlts, Bool.and_eq_true] at f
    obtain ⟨v, r, rfl, q, s⟩ := h
    exact ⟨v, r, rfl, RV.shr d v f.1 q, RVs.shr ds r f.2 s⟩
end
theorem RK.rlt {κ : Type} {xs : List (κ × D)} {ys : List (κ × V)} (h : RK g H η xs ys) : (xs.all fun p => DL.rlt η.length p.2) = true := by
  induction h with
  | nil => rfl
  | cons a _ ih => simp only [List.all_cons, Bool.and_eq_true]; exact ⟨RV.rlt _ _ a, ih⟩
theorem RK.cut {κ : Type} {xs : List (κ × D)} {ys : List (κ × V)} (f : (xs.all fun p => DL.rlt η.length p.2) = true) (h : RK g H (η ++ t) xs ys) : RK g H η xs ys := by
  induction h with
  | nil => exact .nil
  | cons a _ ih =>
    simp only [List.all_cons, Bool.and_eq_true] at f
    exact .cons (RV.shr _ _ f.1 a) (ih f.2)
mutual
theorem key_free : ∀ (d : D) (k : NestedKey), d.key = some k → free d = true
  | .non, _, _ => rfl
  | .bl _, _, _ => rfl
  | .int _, _, _ => rfl
  | .str _, _, _ => rfl
  | .tup ds, _, e => by
    simp only [D.key] at e
    split at e
    · rename_i ks e1
      simpa only [free] using keys_free ds ks e1
    · cases e
  | .fro _, _, e => by simp only [D.key] at e; cases e
  | .ref _, _, e => by simp only [D.key] at e; cases e
theorem keys_free : ∀ (ds : List D) (ks : List NestedKey), D.keys ds = some ks → frees ds = true
  | [], _, _ => rfl
  | d :: ds, _, e => by
    simp only [D.keys] at e
    split at e
    · rename_i k ks e1 e2
      simp only [frees, Bool.and_eq_true]
      exact ⟨key_free d k e1, keys_free ds ks e2⟩
    · cases e
end
theorem RN.rlt {xs ys} (h : RN g H η xs ys) : (xs.all fun p => DL.rlt η.length p.2) = true := by
  induction h with
  | nil => rfl
  | cons _ _ _ a _ _ ih => simp only [List.all_cons, Bool.and_eq_true]; exact ⟨RV.rlt _ _ a, ih⟩
theorem RN.cut {xs ys} (f : (xs.all fun p => DL.rlt η.length p.2) = true) (h : RN g H (η ++ t) xs ys) : RN g H η xs ys := by
  induction h with
  | nil => exact .nil
  | cons a b c d e _ ih =>
    simp only [List.all_cons, Bool.and_eq_true] at f
    exact .cons (RV.free _ _ (key_free _ _ b) a) b c (RV.shr _ _ f.1 d) e (ih f.2)
theorem ObR.rlt {a : Addr} {o : Ob} (h : ObR g H η a o) : rltO η.length o = true := by
  cases o with
  | lst xs => obtain ⟨vs, _, r⟩ := h; exact RVs.rlt _ _ r
  | dK xs => obtain ⟨vs, _, r⟩ := h; exact r.rlt
  | dN xs => obtain ⟨o, _, _, _, _, _, _, _, _, _, r⟩ := h; exact r.rlt
  | ins c fs => obtain ⟨C, dx, vs, _, _, r⟩ := h; exact r.rlt
theorem ObR.cut {a : Addr} {o : Ob} (f : rltO η.length o = true) (h : ObR g H (η ++ t) a o) : ObR g H η a o := by
  cases o with
  | lst xs => obtain ⟨vs, q, r⟩ := h; exact ⟨vs, q, RVs.shr _ _ f r⟩
  | dK xs => obtain ⟨vs, q, r⟩ := h; exact ⟨vs, q, r.cut f⟩
  | dN xs => obtain ⟨o, q, z, c, es, ep, ys, d1, d2, d3, r⟩ := h; exact ⟨o, q, z, c, es, ep, ys, d1, d2, d3, r.cut f⟩
  | ins c fs => obtain ⟨C, dx, vs, q, z, r⟩ := h; exact ⟨C, dx, vs, q, z, r.cut f⟩
end
mutual
theorem rlt_free (n : Nat) : ∀ d : D, free d = true → rlt n d = true
  | .non, _ => rfl
  | .bl _, _ => rfl
  | .int _, _ => rfl
  | .str _, _ => rfl
  | .tup ds, h => by simp only [rlt]; exact rlts_free n ds (by simpa only [free] using h)
  | .fro ds, h => by simp only [rlt]; exact rlts_free n ds (by simpa only [free] using h)
  | .ref _, h => by simp [free] at h
theorem rlts_free (n : Nat) : ∀ ds : List D, frees ds = true → rlts n ds = true
  | [], _ => rfl
  | d :: ds, h => by
    simp only [frees, Bool.and_eq_true] at h
    simp only [rlts, Bool.and_eq_true]
    exact ⟨rlt_free n d h.1, rlts_free n ds h.2⟩
end
/-- what stood there stands as it was, or has no handle of anything new -/
def Keeps (S S' : Sto) : Prop := S.length ≤ S'.length ∧ ∀ (i : Nat) (o : Ob), i < S.length → S'[i]? = some o → S[i]? = some o ∨ rltO S.length o = true
open Classical in
noncomputable def scopeD (h : List D → M D) : List D → M D := fun ds S => match h ds S with
  | some (d, S') => if free d = true ∧ Keeps S S' then some (d, S'.take S.length) else none
  | none => none
theorem Sim.cut {g : Gm} {H H' : Hp} {η η' : List Addr} {S S' : Sto} (s : Sim g H η S) (x : Ext H η H' η') (s' : Sim g H' η' S') (k : Keeps S S') : Ext H η H' η ∧ Sim g H' η (S'.take S.length) := by
  obtain ⟨⟨t, rfl⟩, kp, nw⟩ := x
  refine ⟨⟨⟨[], by simp⟩, kp, fun _ h => .inl h⟩, by have := k.1; rw [List.length_take, s.len]; omega, (List.nodup_append.mp s'.nd).1, fun n o a h1 h2 => ?_⟩
  have hn : n < η.length := (List.getElem?_eq_some_iff.mp h2).1
  have hn' : n < S.length := by rw [← s.len]; exact hn
  rw [List.getElem?_take_of_lt hn'] at h1
  have h3 : (η ++ t)[n]? = some a := by rw [List.getElem?_append_left hn]; exact h2
  refine ObR.cut ?_ (s'.ob n o a h1 h3)
  rcases k.2 n o hn' h1 with z | z
  · exact (s.ob n o a z h2).rlt
  · rw [s.len]; exact z
theorem spD_scope {g : Gm} {n : Nat} {h : List D → M D} {vs : List V} {H : Hp} {Q : VK} {E : XK} (q : spD g n (scopeD h) vs H Q E) : spD g n h vs H Q E := by
  obtain ⟨η, S, ds, d, S', si, rr, hl, ef, kk⟩ := q
  unfold scopeD at ef
  split at ef
  · rename_i d' S1 e1
    split at ef
    · rename_i hk
      cases ef
      refine ⟨η, S, ds, _, S1, si, rr, hl, e1, fun v H' η' x' s' r' => ?_⟩
      obtain ⟨x2, s2⟩ := si.cut x' s' hk.2
      exact kk v H' η x2 s2 (RV.free _ v hk.1 r')
    · cases ef
  · cases ef
theorem scopeD_of {h : List D → M D} {ds : List D} {S S' : Sto} {d : D} (e : h ds S = some (d, S')) (f : free d = true) (k : Keeps S S') : scopeD h ds S = some (d, S'.take S.length) := by
  unfold scopeD
  rw [e]
  exact if_pos ⟨f, k⟩
theorem Keeps.app (S T : Sto) : Keeps S (S ++ T) := ⟨by simp, fun i o hi h => .inl (by rwa [List.getElem?_append_left hi] at h)⟩
theorem scopeD_app {h : List D → M D} {ds : List D} {S T : Sto} {d : D} (e : h ds S = some (d, S ++ T)) (f : free d = true) : scopeD h ds S = some (d, S) := by
  rw [scopeD_of e f (Keeps.app S T)]; simp
theorem pureD_of {h : List D → M D} {ds : List D} {T : Sto} {d : D} (S : Sto) (e : h ds [] = some (d, T)) (f : frees ds = true) (f' : free d = true) : pureD h ds S = some (d, S) := by
  unfold pureD
  rw [if_pos f, e]
  exact if_pos f'
end DL

set_option Elab.async false
set_option linter.all false
set_option maxRecDepth 100000
set_option maxHeartbeats 4000000
namespace K39
open PySem PySem.Spec L2 DL
open PyProof.Rows hiding St
def top (i : Nat) : Stmt := PySem.Challenge.pw_allorsome_k39_orders_far.main.body.getD i (.Pass ⟨0, 0, 0, 0⟩)
def ks_0 : Str := ⟨#[115, 97, 109, 101]⟩
theorem kc_0 : Str.ofString "same" = ks_0 := by decide +kernel
def ks_1 : Str := ⟨#[98, 101, 102, 111, 114, 101]⟩
theorem kc_1 : Str.ofString "before" = ks_1 := by decide +kernel
def ks_2 : Str := ⟨#[99, 111, 108, 111, 117, 114]⟩
theorem kc_2 : Str.ofString "colour" = ks_2 := by decide +kernel
def ks_3 : Str := ⟨#[105, 109, 112, 108, 105, 101, 115]⟩
theorem kc_3 : Str.ofString "implies" = ks_3 := by decide +kernel
def ks_4 : Str := ⟨#[111, 114]⟩
theorem kc_4 : Str.ofString "or" = ks_4 := by decide +kernel
def ks_5 : Str := ⟨#[97, 110, 100]⟩
theorem kc_5 : Str.ofString "and" = ks_5 := by decide +kernel
def ks_6 : Str := ⟨#[110, 111, 116]⟩
theorem kc_6 : Str.ofString "not" = ks_6 := by decide +kernel
def ks_7 : Str := ⟨#[102, 97, 108, 115, 101]⟩
theorem kc_7 : Str.ofString "false" = ks_7 := by decide +kernel
def ks_8 : Str := ⟨#[116, 114, 117, 101]⟩
theorem kc_8 : Str.ofString "true" = ks_8 := by decide +kernel
def ks_9 : Str := ⟨#[115, 111, 109, 101]⟩
theorem kc_9 : Str.ofString "some" = ks_9 := by decide +kernel
def ks_10 : Str := ⟨#[65, 100, 100, 101, 114]⟩
theorem kc_10 : Str.ofString "Adder" = ks_10 := by decide +kernel
def ks_11 : Str := ⟨#[107, 110, 111, 119, 110]⟩
theorem kc_11 : Str.ofString "known" = ks_11 := by decide +kernel
def ks_12 : Str := ⟨#[97, 100, 100, 101, 100]⟩
theorem kc_12 : Str.ofString "added" = ks_12 := by decide +kernel
def ks_13 : Str := ⟨#[101, 118, 101, 114, 121]⟩
theorem kc_13 : Str.ofString "every" = ks_13 := by decide +kernel
def ks_14 : Str := ⟨#[98]⟩
theorem kc_14 : Str.ofString "b" = ks_14 := by decide +kernel
def ks_15 : Str := ⟨#[97]⟩
theorem kc_15 : Str.ofString "a" = ks_15 := by decide +kernel
def ks_16 : Str := ⟨#[120]⟩
theorem kc_16 : Str.ofString "x" = ks_16 := by decide +kernel
def ks_17 : Str := ⟨#[121]⟩
theorem kc_17 : Str.ofString "y" = ks_17 := by decide +kernel
def ks_18 : Str := ⟨#[48, 49, 50, 51, 52, 53, 54, 55, 56, 57]⟩
theorem kc_18 : Str.ofString "0123456789" = ks_18 := by decide +kernel
def ks_19 : Str := ⟨#[97, 98, 99, 100, 101, 102, 103, 104, 105, 106, 107, 108, 109, 110, 111, 112, 113, 114, 115, 116, 117, 118, 119, 120, 121, 122]⟩
theorem kc_19 : Str.ofString "abcdefghijklmnopqrstuvwxyz" = ks_19 := by decide +kernel
def ks_20 : Str := ⟨#[98, 121]⟩
theorem kc_20 : Str.ofString "by" = ks_20 := by decide +kernel
def g_FIGURES : D := (.str ks_18)
def g_KINDS_MOST : D := (.int 20000)
def g_LONG : D := (.int 12)
def g_ROUNDS_MOST : D := (.int 4)
def g_SMALL : D := (.str ks_19)
def g_TURNS : D := (.tup [(.str ks_13), (.str ks_9)])
def g_WORDS : D := (.tup [(.str ks_8), (.str ks_7), (.str ks_6), (.str ks_5), (.str ks_4), (.str ks_3), (.str ks_13), (.str ks_9), (.str ks_20)])
inductive Nm where
  | is_name | check_word | check_rounds | check_order_formula | rounds_of | word_truth | with_place | joined_truth | holds_of_word | kind_of | known_kind | lessened | Adder_added | kind_sum | kind_power | kind_truth | place_of | freed | choices | holds_of_kind | telling | same_kind | _law_cell | _law_digits | _law_draw | _law_pick | _law_same | _law_rounds | _law_sentences | law
abbrev bi_Adder : FS := (sFld ks_10 ks_11 (fVar 0) fDictN)
def i_Adder : List D → M D := defD 1 bi_Adder
def b_is_name (F : Nm → List D → M D) : FS := (sSeq (sIf (tOr' (tNot' (fTru (fIsi "str" (fVar 0)))) (tOr' (tNot' (fBl (fChain (ltD fun i j => decide (i ≤ j)) (ltD fun i j => decide (i ≤ j)) (fC (.int 1)) (fCall lenD2 (aCons (fVar 0) aNil)) (fC (.int 6))))) (tOr' (fBl (fBin inD (fVar 0) (fC g_WORDS))) (fBl (fBin ninD (fBin idxD (fVar 0) (fC (.int 0))) (fC g_SMALL)))))) (sRet (fC (.bl false))) sNx)
    (sRet (fCall allD (aCons (fLc (fStrS (fVar 0)) (gNm 1) tYesD (fOr (fBin inD (fVar 1) (fC g_SMALL)) (fBin inD (fVar 1) (fC g_FIGURES))) [1]) aNil))))
def b_check_word (F : Nm → List D → M D) : FS := (sIf (tOr' (tNot' (fTru (fIsi "tuple" (fVar 0)))) (tOr' (fBl (fBin (ltD fun i j => decide (j < i)) (fCall lenD2 (aCons (fVar 0) aNil)) (fC g_LONG))) (tNot' (fTru (fCall allD (aCons (fLc (fSeq (fVar 0)) (gNm 1) tYesD (fCall (chk 1 (F .is_name)) (aCons (fVar 1) aNil)) [1]) aNil)))))) sNo sNx)
def b_check_rounds (F : Nm → List D → M D) : FS := (sIf (fBl (fBin (ltD fun i j => decide (j < i)) (fVar 0) (fC g_ROUNDS_MOST))) sNo sNx)
def b_check_order_formula (F : Nm → List D → M D) : FS := (sSeq (sIf (tOr' (tNot' (fTru (fIsi "tuple" (fVar 0)))) (tNot' (fTru (fVar 0)))) sNo sNx)
    (sSeq (sSet 2 (fBin idxD (fVar 0) (fC (.int 0))))
    (sSeq (sIf (fBl (fBin inD (fVar 2) (fCall tupD (aCons (fC (.str ks_1)) (aCons (fC (.str ks_0)) aNil))))) (sSet 3 (fAnd (fBin eqD (fCall lenD2 (aCons (fVar 0) aNil)) (fC (.int 3))) (fAnd (fBin inD (fBin idxD (fVar 0) (fC (.int 1))) (fVar 1)) (fBin inD (fBin idxD (fVar 0) (fC (.int 2))) (fVar 1))))) (sIf (fBl (fBin eqD (fVar 2) (fC (.str ks_2)))) (sSet 3 (fAnd (fBin eqD (fCall lenD2 (aCons (fVar 0) aNil)) (fC (.int 3))) (fAnd (fCall (chk 1 (F .is_name)) (aCons (fBin idxD (fVar 0) (fC (.int 1))) aNil)) (fBin inD (fBin idxD (fVar 0) (fC (.int 2))) (fVar 1))))) (sIf (fBl (fBin inD (fVar 2) (fC g_TURNS))) (sSeq (sSet 3 (fAnd (fBin eqD (fCall lenD2 (aCons (fVar 0) aNil)) (fC (.int 3))) (fCall (chk 1 (F .is_name)) (aCons (fBin idxD (fVar 0) (fC (.int 1))) aNil))))
    (sIf (fTru (fVar 3)) (sDrop (fCall (chk 2 (F .check_order_formula)) (aCons (fBin idxD (fVar 0) (fC (.int 2))) (aCons (fBin addD (fVar 1) (fCall tupD (aCons (fBin idxD (fVar 0) (fC (.int 1))) aNil))) aNil)))) sNx)) (sSeq (sSet 4 (fGet2 (fDisp [(ks_8, (fC (.int 1))), (ks_7, (fC (.int 1))), (ks_6, (fC (.int 2))), (ks_5, (fC (.int 3))), (ks_4, (fC (.int 3))), (ks_3, (fC (.int 3)))]) (fVar 2) (fC (.int 0))))
    (sSeq (sSet 3 (fBin eqD (fCall lenD2 (aCons (fVar 0) aNil)) (fVar 4)))
    (sIf (fTru (fVar 3)) (sFor (fSeq (fSl (fVar 0) (oSome (fC (.int 1))) oNone)) (gNm 5)
      (sDrop (fCall (chk 2 (F .check_order_formula)) (aCons (fVar 5) (aCons (fVar 1) aNil))))) sNx))))))
    (sIf (tNot' (fTru (fVar 3))) sNo sNx))))
def b_rounds_of (F : Nm → List D → M D) : FS := (sSeq (sIf (fBl (fBin inD (fBin idxD (fVar 0) (fC (.int 0))) (fCall tupD (aCons (fC (.str ks_1)) (aCons (fC (.str ks_0)) (aCons (fC (.str ks_2)) (aCons (fC (.str ks_8)) (aCons (fC (.str ks_7)) aNil)))))))) (sRet (fC (.int 0))) sNx)
    (sSeq (sSet 1 (fCall maxD (aCons (fLc (fSeq (fSl (fVar 0) (oSome (fIf (fBl (fBin inD (fBin idxD (fVar 0) (fC (.int 0))) (fC g_TURNS))) (fC (.int 2)) (fC (.int 1)))) oNone)) (gNm 2) tYesD (fCall (chk 1 (F .rounds_of)) (aCons (fVar 2) aNil)) [2]) aNil)))
    (sRet (fBin addD (fVar 1) (fBin inD (fBin idxD (fVar 0) (fC (.int 0))) (fC g_TURNS))))))
def b_word_truth (F : Nm → List D → M D) : FS := (sSeq (sSet 3 (fBin idxD (fVar 1) (fC (.int 0))))
    (sSeq (sIf (fBl (fBin eqD (fVar 3) (fC (.str ks_1)))) (sRet (fBin (ltD fun i j => decide (i < j)) (fBin idxD (fVar 2) (fBin idxD (fVar 1) (fC (.int 1)))) (fBin idxD (fVar 2) (fBin idxD (fVar 1) (fC (.int 2)))))) sNx)
    (sSeq (sIf (fBl (fBin eqD (fVar 3) (fC (.str ks_0)))) (sRet (fBin eqD (fBin idxD (fVar 2) (fBin idxD (fVar 1) (fC (.int 1)))) (fBin idxD (fVar 2) (fBin idxD (fVar 1) (fC (.int 2)))))) sNx)
    (sSeq (sIf (fBl (fBin eqD (fVar 3) (fC (.str ks_2)))) (sRet (fBin eqD (fBin idxD (fVar 0) (fBin idxD (fVar 2) (fBin idxD (fVar 1) (fC (.int 2))))) (fBin idxD (fVar 1) (fC (.int 1))))) sNx)
    (sSeq (sIf (fBl (fBin inD (fVar 3) (fCall tupD (aCons (fC (.str ks_8)) (aCons (fC (.str ks_7)) aNil))))) (sRet (fBin eqD (fVar 3) (fC (.str ks_8)))) sNx)
    (sSeq (sIf (fBl (fBin inD (fVar 3) (fC g_TURNS))) (sSeq (sSet 4 (fLc (fRng1 (aCons (fCall lenD2 (aCons (fVar 0) aNil)) aNil)) (gNm 5) tYesD (fCall (chk 3 (F .word_truth)) (aCons (fVar 0) (aCons (fBin idxD (fVar 1) (fC (.int 2))) (aCons (fCall (chk 3 (F .with_place)) (aCons (fVar 2) (aCons (fBin idxD (fVar 1) (fC (.int 1))) (aCons (fVar 5) aNil)))) aNil)))) [5]))
    (sRet (fIf (fBl (fBin eqD (fVar 3) (fC (.str ks_9)))) (fCall anyD (aCons (fVar 4) aNil)) (fCall allD (aCons (fVar 4) aNil))))) sNx)
    (sRet (fCall (chk 2 (F .joined_truth)) (aCons (fVar 3) (aCons (fLc (fSeq (fSl (fVar 1) (oSome (fC (.int 1))) oNone)) (gNm 6) tYesD (fCall (chk 3 (F .word_truth)) (aCons (fVar 0) (aCons (fVar 6) (aCons (fVar 2) aNil)))) [6]) aNil))))))))))
def b_with_place (F : Nm → List D → M D) : FS := (sSeq (sSet 3 (fCall dictD (aCons (fVar 0) aNil)))
    (sSeq (sSub (fVar 3) (fVar 1) (fVar 2))
    (sRet (fVar 3))))
def b_joined_truth (F : Nm → List D → M D) : FS := (sSeq (sIf (fBl (fBin eqD (fVar 0) (fC (.str ks_6)))) (sRet (fNot (fBin idxD (fVar 1) (fC (.int 0))))) sNx)
    (sSeq (sIf (fBl (fBin eqD (fVar 0) (fC (.str ks_5)))) (sRet (fAnd (fBin idxD (fVar 1) (fC (.int 0))) (fBin idxD (fVar 1) (fC (.int 1))))) sNx)
    (sRet (fIf (fBl (fBin eqD (fVar 0) (fC (.str ks_4)))) (fOr (fBin idxD (fVar 1) (fC (.int 0))) (fBin idxD (fVar 1) (fC (.int 1)))) (fOr (fNot (fBin idxD (fVar 1) (fC (.int 0)))) (fBin idxD (fVar 1) (fC (.int 1))))))))
def b_holds_of_word (F : Nm → List D → M D) : FS := (sSeq (sDrop (fCall (chk 1 (F .check_word)) (aCons (fVar 0) aNil)))
    (sSeq (sDrop (fCall (chk 2 (F .check_order_formula)) (aCons (fVar 1) (aCons (fCall tupD aNil) aNil))))
    (sRet (fCall (chk 3 (F .word_truth)) (aCons (fVar 0) (aCons (fVar 1) (aCons (fDict0 ()) aNil)))))))
def b_kind_of (F : Nm → List D → M D) : FS := (sSeq (sDrop (fCall (chk 1 (F .check_word)) (aCons (fVar 0) aNil)))
    (sSeq (sDrop (fCall (chk 1 (F .check_rounds)) (aCons (fVar 1) aNil)))
    (sRet (fCall (chk 3 (F .known_kind)) (aCons (fVar 0) (aCons (fVar 1) (aCons fDictN aNil)))))))
def b_known_kind (F : Nm → List D → M D) : FS := (sSeq (sIf (fBl (fBin eqD (fVar 1) (fC (.int 0)))) (sRet (fCall tupD aNil)) sNx)
    (sSeq (sIf (fBl (fBin ninD (fCall tupD (aCons (fVar 0) (aCons (fVar 1) aNil))) (fVar 2))) (sSeq (sSet 3 (fCall lstD aNil))
    (sSeq (sFor (fEnu2 (aCons (fVar 0) aNil)) (gUn 2 (gsCons (gNm 4) (gsCons (gNm 5) gsNil)))
      (sSeq (sPar 6 7 (aCons (fCall (chk 3 (F .known_kind)) (aCons (fSl (fVar 0) oNone (oSome (fVar 4))) (aCons (fBin subD (fVar 1) (fC (.int 1))) (aCons (fVar 2) aNil)))) (aCons (fCall (chk 3 (F .known_kind)) (aCons (fSl (fVar 0) (oSome (fBin addD (fVar 4) (fC (.int 1)))) oNone) (aCons (fBin subD (fVar 1) (fC (.int 1))) (aCons (fVar 2) aNil)))) aNil)))
    (sIf (fBl (fBin ninD (fCall tupD (aCons (fVar 6) (aCons (fVar 5) (aCons (fVar 7) aNil)))) (fVar 3))) (sDrop (fApp (fVar 3) (fCall tupD (aCons (fVar 6) (aCons (fVar 5) (aCons (fVar 7) aNil)))))) sNx)))
    (sSub (fVar 2) (fCall tupD (aCons (fVar 0) (aCons (fVar 1) aNil))) (fCall tupleD (aCons (fCall sortedS (aCons (fVar 3) aNil)) aNil))))) sNx)
    (sRet (fBin idxD (fVar 2) (fCall tupD (aCons (fVar 0) (aCons (fVar 1) aNil)))))))
def b_lessened (F : Nm → List D → M D) : FS := (sSeq (sIf (fBl (fBin eqD (fVar 1) (fC (.int 1)))) (sRet (fCall tupD aNil)) sNx)
    (sSeq (sSet 2 (fCall lstD aNil))
    (sSeq (sFor (fSeq (fVar 0)) (gUn 3 (gsCons (gNm 3) (gsCons (gNm 4) (gsCons (gNm 5) gsNil))))
      (sSeq (sSet 6 (fCall tupD (aCons (fCall (chk 2 (F .lessened)) (aCons (fVar 3) (aCons (fBin subD (fVar 1) (fC (.int 1))) aNil))) (aCons (fVar 4) (aCons (fCall (chk 2 (F .lessened)) (aCons (fVar 5) (aCons (fBin subD (fVar 1) (fC (.int 1))) aNil))) aNil)))))
    (sIf (fBl (fBin ninD (fVar 6) (fVar 2))) (sDrop (fApp (fVar 2) (fVar 6))) sNx)))
    (sRet (fCall tupleD (aCons (fCall sortedS (aCons (fVar 2) aNil)) aNil))))))
def b_Adder_added (F : Nm → List D → M D) : FS := (sSeq (sIf (fBl (fBin eqD (fVar 3) (fC (.int 0)))) (sRet (fCall tupD aNil)) sNx)
    (sSeq (sSet 4 (fCall tupD (aCons (fVar 1) (aCons (fVar 2) (aCons (fVar 3) aNil)))))
    (sSeq (sIf (fBl (fBin ninD (fVar 4) (fFld ks_10 ks_11 (fVar 0)))) (sSeq (sIf (fBl (fBin (ltD fun i j => decide (j < i)) (fCall lenD2 (aCons (fFld ks_10 ks_11 (fVar 0)) aNil)) (fC g_KINDS_MOST))) sNo sNx)
    (sSeq (sPar 5 6 (aCons (fCall (chk 2 (F .lessened)) (aCons (fVar 1) (aCons (fVar 3) aNil))) (aCons (fCall (chk 2 (F .lessened)) (aCons (fVar 2) (aCons (fVar 3) aNil))) aNil)))
    (sSeq (sSet 7 (fCall lstD aNil))
    (sSeq (sFor (fSeq (fVar 1)) (gUn 3 (gsCons (gNm 8) (gsCons (gNm 9) (gsCons (gNm 10) gsNil))))
      (sDrop (fApp (fVar 7) (fCall tupD (aCons (fVar 8) (aCons (fVar 9) (aCons (fMeth ks_10 ks_12 4 (F .Adder_added) (fVar 0) (aCons (fVar 10) (aCons (fVar 6) (aCons (fBin subD (fVar 3) (fC (.int 1))) aNil)))) aNil)))))))
    (sSeq (sFor (fSeq (fVar 2)) (gUn 3 (gsCons (gNm 8) (gsCons (gNm 9) (gsCons (gNm 10) gsNil))))
      (sDrop (fApp (fVar 7) (fCall tupD (aCons (fMeth ks_10 ks_12 4 (F .Adder_added) (fVar 0) (aCons (fVar 5) (aCons (fVar 8) (aCons (fBin subD (fVar 3) (fC (.int 1))) aNil)))) (aCons (fVar 9) (aCons (fVar 10) aNil)))))))
    (sSub (fFld ks_10 ks_11 (fVar 0)) (fVar 4) (fCall tupleD (aCons (fCall sortedS (aCons (fLc (fEnu2 (aCons (fVar 7) aNil)) (gUn 2 (gsCons (gNm 11) (gsCons (gNm 12) gsNil))) (fBl (fBin ninD (fVar 12) (fSl (fVar 7) oNone (oSome (fVar 11))))) (fVar 12) [11, 12]) aNil)) aNil)))))))) sNx)
    (sRet (fBin idxD (fFld ks_10 ks_11 (fVar 0)) (fVar 4))))))
def b_kind_sum (F : Nm → List D → M D) : FS := (sSeq (sDrop (fCall (chk 1 (F .check_rounds)) (aCons (fVar 2) aNil)))
    (sRet (fMeth ks_10 ks_12 4 (F .Adder_added) (fCall (makeD ks_10 1 i_Adder) aNil) (aCons (fVar 0) (aCons (fVar 1) (aCons (fVar 2) aNil))))))
def b_kind_power (F : Nm → List D → M D) : FS := (sSeq (sDrop (fCall (chk 1 (F .check_rounds)) (aCons (fVar 1) aNil)))
    (sSeq (sSet 3 (fCall (makeD ks_10 1 i_Adder) aNil))
    (sSeq (sSet 4 (fCall tupD aNil))
    (sSeq (whileD (fBl (fBin (ltD fun i j => decide (j < i)) (fVar 2) (fC (.int 0)))) (sSeq (sIf (fTru (fBin modD (fVar 2) (fC (.int 2)))) (sSet 4 (fMeth ks_10 ks_12 4 (F .Adder_added) (fVar 3) (aCons (fVar 4) (aCons (fVar 0) (aCons (fVar 1) aNil))))) sNx)
    (sSeq (sSet 0 (fMeth ks_10 ks_12 4 (F .Adder_added) (fVar 3) (aCons (fVar 0) (aCons (fVar 0) (aCons (fVar 1) aNil)))))
    (sAug 2 fdivD (fC (.int 2))))) 128)
    (sRet (fVar 4))))))
def b_kind_truth (F : Nm → List D → M D) : FS := (sSeq (sSet 4 (fBin idxD (fVar 0) (fC (.int 0))))
    (sSeq (sIf (fBl (fBin inD (fVar 4) (fCall tupD (aCons (fC (.str ks_8)) (aCons (fC (.str ks_7)) aNil))))) (sRet (fBin eqD (fVar 4) (fC (.str ks_8)))) sNx)
    (sSeq (sIf (fBl (fBin eqD (fVar 4) (fC (.str ks_2)))) (sRet (fBin eqD (fBin idxD (fBin idxD (fVar 3) (fCall (chk 2 (F .place_of)) (aCons (fVar 3) (aCons (fBin idxD (fVar 0) (fC (.int 2))) aNil)))) (fC (.int 0))) (fBin idxD (fVar 0) (fC (.int 1))))) sNx)
    (sSeq (sIf (fBl (fBin inD (fVar 4) (fCall tupD (aCons (fC (.str ks_1)) (aCons (fC (.str ks_0)) aNil))))) (sSeq (sPar 5 6 (aCons (fCall (chk 2 (F .place_of)) (aCons (fVar 3) (aCons (fBin idxD (fVar 0) (fC (.int 1))) aNil))) (aCons (fCall (chk 2 (F .place_of)) (aCons (fVar 3) (aCons (fBin idxD (fVar 0) (fC (.int 2))) aNil))) aNil)))
    (sRet (fIf (fBl (fBin eqD (fVar 4) (fC (.str ks_1)))) (fBin (ltD fun i j => decide (i < j)) (fVar 5) (fVar 6)) (fBin eqD (fVar 5) (fVar 6))))) sNx)
    (sSeq (sIf (fBl (fBin ninD (fVar 4) (fC g_TURNS))) (sRet (fCall (chk 2 (F .joined_truth)) (aCons (fVar 4) (aCons (fLc (fSeq (fSl (fVar 0) (oSome (fC (.int 1))) oNone)) (gNm 8) tYesD (fCall (chk 4 (F .kind_truth)) (aCons (fVar 8) (aCons (fVar 1) (aCons (fVar 2) (aCons (fVar 3) aNil))))) [8]) aNil)))) sNx)
    (sSeq (sSet 7 (fLc (fSeq (fCall (chk 4 (F .choices)) (aCons (fBin idxD (fVar 0) (fC (.int 1))) (aCons (fVar 1) (aCons (fVar 2) (aCons (fVar 3) aNil)))))) (gUn 2 (gsCons (gNm 9) (gsCons (gNm 10) gsNil))) tYesD (fCall (chk 4 (F .kind_truth)) (aCons (fBin idxD (fVar 0) (fC (.int 2))) (aCons (fBin subD (fVar 1) (fC (.int 1))) (aCons (fVar 9) (aCons (fVar 10) aNil))))) [9, 10]))
    (sRet (fIf (fBl (fBin eqD (fVar 4) (fC (.str ks_9)))) (fCall anyD (aCons (fVar 7) aNil)) (fCall allD (aCons (fVar 7) aNil))))))))))
def b_place_of (F : Nm → List D → M D) : FS := (sRet (fBin idxD (fLc (fEnu2 (aCons (fVar 0) aNil)) (gUn 2 (gsCons (gNm 2) (gsCons (gUn 2 (gsCons (gNm 3) (gsCons (gNm 4) gsNil))) gsNil))) (fBl (fBin inD (fVar 1) (fVar 4))) (fVar 2) [2, 3, 4]) (fC (.int 0))))
def b_freed (F : Nm → List D → M D) : FS := (sRet (fLc (fSeq (fVar 0)) (gUn 2 (gsCons (gNm 2) (gsCons (gNm 3) gsNil))) tYesD (fCall tupD (aCons (fVar 2) (aCons (fCall tupleD (aCons (fLc (fSeq (fVar 3)) (gNm 4) (fBl (fBin neD (fVar 4) (fVar 1))) (fVar 4) [4]) aNil)) aNil))) [2, 3]))
def b_choices (F : Nm → List D → M D) : FS := (sSeq (sSet 3 (fCall (chk 2 (F .freed)) (aCons (fVar 3) (aCons (fVar 0) aNil))))
    (sSeq (sSet 4 (fLc (fSeq (fVar 2)) (gNm 9) tYesD (fCall (chk 2 (F .lessened)) (aCons (fVar 9) (aCons (fVar 1) aNil))) [9]))
    (sSeq (sSet 5 (fCall lstD aNil))
    (sSeq (sFor (fEnu2 (aCons (fVar 3) aNil)) (gUn 2 (gsCons (gNm 6) (gsCons (gUn 2 (gsCons (gNm 7) (gsCons (gNm 8) gsNil))) gsNil)))
      (sDrop (fApp (fVar 5) (fCall tupD (aCons (fVar 4) (aCons (fBin addD (fBin addD (fSl (fVar 3) oNone (oSome (fVar 6))) (fCall lstD (aCons (fCall tupD (aCons (fVar 7) (aCons (fBin addD (fVar 8) (fCall tupD (aCons (fVar 0) aNil))) aNil))) aNil))) (fSl (fVar 3) (oSome (fBin addD (fVar 6) (fC (.int 1)))) oNone)) aNil))))))
    (sSeq (sFor (fEnu2 (aCons (fVar 2) aNil)) (gUn 2 (gsCons (gNm 6) (gsCons (gNm 9) gsNil)))
      (sFor (fSeq (fVar 9)) (gUn 3 (gsCons (gNm 10) (gsCons (gNm 7) (gsCons (gNm 11) gsNil))))
      (sSeq (sSet 12 (fBin addD (fBin addD (fSl (fVar 4) oNone (oSome (fVar 6))) (fCall lstD (aCons (fVar 10) (aCons (fVar 11) aNil)))) (fSl (fVar 4) (oSome (fBin addD (fVar 6) (fC (.int 1)))) oNone)))
    (sDrop (fApp (fVar 5) (fCall tupD (aCons (fVar 12) (aCons (fBin addD (fBin addD (fSl (fVar 3) oNone (oSome (fVar 6))) (fCall lstD (aCons (fCall tupD (aCons (fVar 7) (aCons (fCall tupD (aCons (fVar 0) aNil)) aNil))) aNil))) (fSl (fVar 3) (oSome (fVar 6)) oNone)) aNil))))))))
    (sRet (fVar 5)))))))
def b_holds_of_kind (F : Nm → List D → M D) : FS := (sSeq (sDrop (fCall (chk 1 (F .check_rounds)) (aCons (fVar 1) aNil)))
    (sSeq (sDrop (fCall (chk 2 (F .check_order_formula)) (aCons (fVar 2) (aCons (fCall tupD aNil) aNil))))
    (sSeq (sIf (fBl (fBin (ltD fun i j => decide (j < i)) (fCall (chk 1 (F .rounds_of)) (aCons (fVar 2) aNil)) (fVar 1))) sNo sNx)
    (sRet (fCall (chk 4 (F .kind_truth)) (aCons (fVar 2) (aCons (fVar 1) (aCons (fCall lstD (aCons (fVar 0) aNil)) (aCons (fCall lstD aNil) aNil)))))))))
def b_telling (F : Nm → List D → M D) : FS := (sSeq (sIf (fBl (fBin eqD (fVar 0) (fVar 1))) (sRet (fC .non)) sNx)
    sNo)
def b_same_kind (F : Nm → List D → M D) : FS := (sSeq (sPar 3 4 (aCons (fCall (chk 2 (F .kind_of)) (aCons (fVar 0) (aCons (fVar 2) aNil))) (aCons (fCall (chk 2 (F .kind_of)) (aCons (fVar 1) (aCons (fVar 2) aNil))) aNil)))
    (sRet (fCall tupD (aCons (fBin eqD (fVar 3) (fVar 4)) (aCons (fCall (chk 3 (F .telling)) (aCons (fVar 3) (aCons (fVar 4) (aCons (fVar 2) aNil)))) aNil)))))
def b__law_cell (F : Nm → List D → M D) : FS := (sSeq (sIf (fBl (fBin (ltD fun i j => decide (i < j)) (fVar 1) (fCall lenD2 (aCons (fVar 0) aNil)))) (sRet (fBin idxD (fVar 0) (fVar 1))) sNx)
    (sRet (fC (.int 0))))
def b__law_digits (F : Nm → List D → M D) : FS := (sSeq (sSet 3 (fCall lstD aNil))
    (sSeq (sFor (fRng2 (aCons (fVar 1) (aCons (fVar 2) aNil))) (gNm 4)
      (sSeq (sSet 5 (fCall (chk 2 (F ._law_cell)) (aCons (fVar 0) (aCons (fVar 4) aNil))))
    (sSeq (sIf (fBl (fBin (ltD fun i j => decide (i < j)) (fVar 5) (fC (.int 0)))) (sSet 5 (fBin subD (fC (.int 1)) (fBin mulD (fVar 5) (fC (.int 2))))) sNx)
    (sIf (fBl (fBin (ltD fun i j => decide (j ≤ i)) (fVar 5) (fBin powD (fC (.int 10)) (fC (.int 18))))) (sSeq (sSet 6 (fVar 5))
    (sFor (fRng1 (aCons (fC (.int 60)) aNil)) (gNm 7)
      (sIf (fBl (fBin (ltD fun i j => decide (j < i)) (fVar 6) (fC (.int 0)))) (sSeq (sDrop (fApp (fVar 3) (fBin modD (fVar 6) (fC (.int 1009)))))
    (sSet 6 (fBin fdivD (fVar 6) (fC (.int 1009))))) sNx))) (sSeq (sSet 8 (fBin modD (fBin addD (fBin addD (fBin mulD (fVar 5) (fC (.int 48271))) (fBin mulD (fCall intD (aCons (fBin addD (fVar 4) (fC (.int 1))) aNil)) (fC (.int 69621)))) (fC (.int 11))) (fC (.int 2147483647))))
    (sFor (fRng1 (aCons (fC (.int 12)) aNil)) (gNm 7)
      (sSeq (sSet 8 (fBin modD (fBin addD (fBin addD (fBin mulD (fVar 8) (fC (.int 16807))) (fBin mulD (fVar 7) (fC (.int 7)))) (fC (.int 1))) (fC (.int 2147483647))))
    (sDrop (fApp (fVar 3) (fBin modD (fBin fdivD (fVar 8) (fC (.int 997))) (fC (.int 1009))))))))))))
    (sRet (fVar 3))))
def b__law_draw (F : Nm → List D → M D) : FS := (sSeq (sAsg (gUn 2 (gsCons (gNm 2) (gsCons (gNm 3) gsNil))) (fVar 0))
    (sSeq (sSub (fVar 0) (fC (.int 1)) (fBin addD (fVar 3) (fC (.int 1))))
    (sSeq (sIf (fBl (fBin (ltD fun i j => decide (i < j)) (fVar 3) (fCall lenD2 (aCons (fVar 2) aNil)))) (sRet (fBin modD (fBin idxD (fVar 2) (fVar 3)) (fVar 1))) sNx)
    (sRet (fBin modD (fBin addD (fBin addD (fBin addD (fBin mulD (fBin mulD (fVar 3) (fVar 3)) (fC (.int 3))) (fBin mulD (fVar 3) (fC (.int 4)))) (fBin fdivD (fVar 3) (fC (.int 3)))) (fC (.int 1))) (fVar 1))))))
def b__law_pick (F : Nm → List D → M D) : FS := (sRet (fBin idxD (fVar 1) (fCall (chk 2 (F ._law_draw)) (aCons (fVar 0) (aCons (fCall lenD2 (aCons (fVar 1) aNil)) aNil)))))
def b__law_same (F : Nm → List D → M D) : FS := (sRet (fBin eqD (fCall reprD (aCons (fVar 0) aNil)) (fCall reprD (aCons (fVar 1) aNil))))
def b__law_rounds (F : Nm → List D → M D) : FS := (sSeq (sIf (fBl (fBin inD (fBin idxD (fVar 0) (fC (.int 0))) (fCall tupD (aCons (fC (.str ks_1)) (aCons (fC (.str ks_0)) (aCons (fC (.str ks_2)) (aCons (fC (.str ks_8)) (aCons (fC (.str ks_7)) aNil)))))))) (sRet (fC (.int 0))) sNx)
    (sSeq (sSet 1 (fCall maxD (aCons (fLc (fSeq (fSl (fVar 0) (oSome (fC (.int 1))) oNone)) (gNm 2) (fTru (fIsi "tuple" (fVar 2))) (fCall (chk 1 (F ._law_rounds)) (aCons (fVar 2) aNil)) [2]) aNil)))
    (sRet (fBin addD (fVar 1) (fCall intD (aCons (fBin inD (fBin idxD (fVar 0) (fC (.int 0))) (fCall tupD (aCons (fC (.str ks_13)) (aCons (fC (.str ks_9)) aNil)))) aNil))))))
def b__law_sentences (F : Nm → List D → M D) : FS := (sSeq (sPar 1 2 (aCons (fCall (chk 2 (F ._law_pick)) (aCons (fVar 0) (aCons (fCall lstD (aCons (fC (.str ks_15)) (aCons (fC (.str ks_14)) aNil))) aNil))) (aCons (fCall (chk 2 (F ._law_pick)) (aCons (fVar 0) (aCons (fCall lstD (aCons (fC (.str ks_15)) (aCons (fC (.str ks_14)) aNil))) aNil))) aNil)))
    (sSeq (sSet 3 (fCall tupD (aCons (fC (.str ks_9)) (aCons (fC (.str ks_16)) (aCons (fCall tupD (aCons (fC (.str ks_2)) (aCons (fVar 1) (aCons (fC (.str ks_16)) aNil)))) aNil)))))
    (sSeq (sSet 4 (fCall tupD (aCons (fC (.str ks_13)) (aCons (fC (.str ks_16)) (aCons (fCall tupD (aCons (fC (.str ks_3)) (aCons (fCall tupD (aCons (fC (.str ks_2)) (aCons (fVar 1) (aCons (fC (.str ks_16)) aNil)))) (aCons (fCall tupD (aCons (fC (.str ks_9)) (aCons (fC (.str ks_17)) (aCons (fCall tupD (aCons (fC (.str ks_5)) (aCons (fCall tupD (aCons (fC (.str ks_1)) (aCons (fC (.str ks_16)) (aCons (fC (.str ks_17)) aNil)))) (aCons (fCall tupD (aCons (fC (.str ks_2)) (aCons (fVar 2) (aCons (fC (.str ks_17)) aNil)))) aNil)))) aNil)))) aNil)))) aNil)))))
    (sSeq (sSet 5 (fCall tupD (aCons (fC (.str ks_9)) (aCons (fC (.str ks_16)) (aCons (fCall tupD (aCons (fC (.str ks_5)) (aCons (fCall tupD (aCons (fC (.str ks_2)) (aCons (fVar 1) (aCons (fC (.str ks_16)) aNil)))) (aCons (fCall tupD (aCons (fC (.str ks_13)) (aCons (fC (.str ks_17)) (aCons (fCall tupD (aCons (fC (.str ks_4)) (aCons (fCall tupD (aCons (fC (.str ks_0)) (aCons (fC (.str ks_16)) (aCons (fC (.str ks_17)) aNil)))) (aCons (fCall tupD (aCons (fC (.str ks_1)) (aCons (fC (.str ks_16)) (aCons (fC (.str ks_17)) aNil)))) aNil)))) aNil)))) aNil)))) aNil)))))
    (sSeq (sSet 6 (fCall tupD (aCons (fC (.str ks_9)) (aCons (fC (.str ks_16)) (aCons (fCall tupD (aCons (fC (.str ks_9)) (aCons (fC (.str ks_17)) (aCons (fCall tupD (aCons (fC (.str ks_5)) (aCons (fCall tupD (aCons (fC (.str ks_1)) (aCons (fC (.str ks_16)) (aCons (fC (.str ks_17)) aNil)))) (aCons (fCall tupD (aCons (fC (.str ks_2)) (aCons (fVar 2) (aCons (fC (.str ks_16)) aNil)))) aNil)))) aNil)))) aNil)))))
    (sSeq (sSet 7 (fCall tupD (aCons (fC (.str ks_13)) (aCons (fC (.str ks_16)) (aCons (fCall tupD (aCons (fC (.str ks_13)) (aCons (fC (.str ks_17)) (aCons (fCall tupD (aCons (fC (.str ks_3)) (aCons (fCall tupD (aCons (fC (.str ks_1)) (aCons (fC (.str ks_16)) (aCons (fC (.str ks_17)) aNil)))) (aCons (fCall tupD (aCons (fC (.str ks_2)) (aCons (fVar 2) (aCons (fC (.str ks_17)) aNil)))) aNil)))) aNil)))) aNil)))))
    (sRet (fCall lstD (aCons (fVar 3) (aCons (fVar 4) (aCons (fVar 5) (aCons (fVar 6) (aCons (fVar 7) (aCons (fCall tupD (aCons (fC (.str ks_5)) (aCons (fVar 3) (aCons (fCall tupD (aCons (fC (.str ks_6)) (aCons (fVar 5) aNil))) aNil)))) aNil))))))))))))))
def b_law (F : Nm → List D → M D) : FS := (sSeq (sSet 1 (fCall lstD (aCons (fCall (chk 3 (F ._law_digits)) (aCons (fVar 0) (aCons (fC (.int 0)) (aCons (fC (.int 63)) aNil)))) (aCons (fC (.int 0)) aNil))))
    (sSeq (sSet 2 (fBin addD (fC (.int 1)) (fCall (chk 2 (F ._law_draw)) (aCons (fVar 1) (aCons (fC (.int 2)) aNil)))))
    (sSeq (sSet 3 (fBin idxD (fCall lstD (aCons (fC (.int 0)) (aCons (fC (.int 1)) (aCons (fC (.int 3)) aNil)))) (fVar 2)))
    (sSeq (sSet 4 (fCall tupleD (aCons (fLc (fRng1 (aCons (fBin addD (fC (.int 1)) (fCall (chk 2 (F ._law_draw)) (aCons (fVar 1) (aCons (fC (.int 3)) aNil)))) aNil)) (gNm 15) tYesD (fCall (chk 2 (F ._law_pick)) (aCons (fVar 1) (aCons (fCall lstD (aCons (fC (.str ks_15)) (aCons (fC (.str ks_14)) aNil))) aNil))) [15]) aNil)))
    (sSeq (sSet 5 (fCall tupleD (aCons (fLc (fRng1 (aCons (fCall (chk 2 (F ._law_draw)) (aCons (fVar 1) (aCons (fC (.int 4)) aNil))) aNil)) (gNm 15) tYesD (fCall (chk 2 (F ._law_pick)) (aCons (fVar 1) (aCons (fCall lstD (aCons (fC (.str ks_15)) (aCons (fC (.str ks_14)) aNil))) aNil))) [15]) aNil)))
    (sSeq (sPar 6 7 (aCons (fCall (chk 2 (F .kind_of)) (aCons (fVar 4) (aCons (fVar 2) aNil))) (aCons (fCall (chk 2 (F .kind_of)) (aCons (fVar 5) (aCons (fVar 2) aNil))) aNil)))
    (sSeq (sPar 8 9 (aCons (fCall (chk 2 (F ._law_pick)) (aCons (fVar 1) (aCons (fCall lstD (aCons (fC (.int 0)) (aCons (fC (.int 1)) (aCons (fC (.int 2)) (aCons (fC (.int 3)) (aCons (fC (.int 5)) (aCons (fBin powD (fC (.int 10)) (fC (.int 30))) (aCons (fBin addD (fBin powD (fC (.int 10)) (fC (.int 30))) (fC (.int 1))) aNil)))))))) aNil))) (aCons (fCall (chk 2 (F ._law_pick)) (aCons (fVar 1) (aCons (fCall lstD (aCons (fC (.int 0)) (aCons (fC (.int 1)) (aCons (fC (.int 2)) (aCons (fC (.int 4)) (aCons (fBin powD (fC (.int 10)) (fC (.int 29))) aNil)))))) aNil))) aNil)))
    (sSeq (sSet 10 (fCall (chk 3 (F .kind_power)) (aCons (fVar 6) (aCons (fVar 2) (aCons (fBin addD (fVar 8) (fVar 9)) aNil)))))
    (sSeq (sIf (fBl (fBin neD (fVar 10) (fCall (chk 3 (F .kind_sum)) (aCons (fCall (chk 3 (F .kind_power)) (aCons (fVar 6) (aCons (fVar 2) (aCons (fVar 8) aNil)))) (aCons (fCall (chk 3 (F .kind_power)) (aCons (fVar 6) (aCons (fVar 2) (aCons (fVar 9) aNil)))) (aCons (fVar 2) aNil)))))) (sRet (fC (.bl false))) sNx)
    (sSeq (sSet 11 (fCall minD (aCons (fVar 8) (aCons (fVar 3) aNil))))
    (sSeq (sIf (tOr' (fBl (fBin neD (fCall (chk 3 (F .kind_power)) (aCons (fVar 6) (aCons (fVar 2) (aCons (fVar 8) aNil)))) (fCall (chk 2 (F .kind_of)) (aCons (fBin mulD (fVar 4) (fVar 11)) (aCons (fVar 2) aNil))))) (fBl (fBin neD (fCall (chk 3 (F .kind_power)) (aCons (fVar 6) (aCons (fVar 2) (aCons (fC (.int 0)) aNil)))) (fCall (chk 2 (F .kind_of)) (aCons (fCall tupD aNil) (aCons (fVar 2) aNil)))))) (sRet (fC (.bl false))) sNx)
    (sSeq (sIf (fBl (fBin neD (fCall (chk 3 (F .kind_power)) (aCons (fCall (chk 3 (F .kind_power)) (aCons (fVar 6) (aCons (fVar 2) (aCons (fC (.int 2)) aNil)))) (aCons (fVar 2) (aCons (fVar 8) aNil)))) (fCall (chk 3 (F .kind_power)) (aCons (fVar 6) (aCons (fVar 2) (aCons (fBin mulD (fC (.int 2)) (fVar 8)) aNil)))))) (sRet (fC (.bl false))) sNx)
    (sSeq (sSet 12 (fCall (chk 3 (F .kind_sum)) (aCons (fCall (chk 3 (F .kind_power)) (aCons (fVar 6) (aCons (fVar 2) (aCons (fVar 8) aNil)))) (aCons (fVar 7) (aCons (fVar 2) aNil)))))
    (sSeq (sIf (fBl (fBin neD (fVar 12) (fCall (chk 2 (F .kind_of)) (aCons (fBin addD (fBin mulD (fVar 4) (fVar 11)) (fVar 5)) (aCons (fVar 2) aNil))))) (sRet (fC (.bl false))) sNx)
    (sSeq (sIf (tAnd' (fBl (fBin (ltD fun i j => decide (j < i)) (fVar 8) (fC (.int 0)))) (tAnd' (fBl (fBin (ltD fun i j => decide (i < j)) (fVar 11) (fVar 8))) (fBl (fBin (ltD fun i j => decide (i ≤ j)) (fBin addD (fBin mulD (fCall lenD2 (aCons (fVar 4) aNil)) (fBin addD (fVar 11) (fC (.int 1)))) (fCall lenD2 (aCons (fVar 5) aNil))) (fC (.int 12)))))) (sIf (fBl (fBin neD (fCall (chk 3 (F .same_kind)) (aCons (fBin addD (fBin mulD (fVar 4) (fVar 11)) (fVar 5)) (aCons (fBin addD (fBin mulD (fVar 4) (fBin addD (fVar 11) (fC (.int 1)))) (fVar 5)) (aCons (fVar 2) aNil)))) (fCall tupD (aCons (fC (.bl true)) (aCons (fC .non) aNil))))) (sRet (fC (.bl false))) sNx) sNx)
    (sSeq (sFor (fSeq (fCall (chk 1 (F ._law_sentences)) (aCons (fVar 1) aNil))) (gNm 13)
      (sIf (fBl (fBin (ltD fun i j => decide (i ≤ j)) (fCall (chk 1 (F ._law_rounds)) (aCons (fVar 13) aNil)) (fVar 2))) (sSeq (sSet 14 (fCall (chk 2 (F .holds_of_word)) (aCons (fBin addD (fBin mulD (fVar 4) (fVar 11)) (fVar 5)) (aCons (fVar 13) aNil))))
    (sSeq (sIf (tNot' (fTru (fCall (chk 2 (F ._law_same)) (aCons (fCall (chk 3 (F .holds_of_kind)) (aCons (fVar 12) (aCons (fVar 2) (aCons (fVar 13) aNil)))) (aCons (fVar 14) aNil))))) (sRet (fC (.bl false))) sNx)
    (sIf (fBl (fBin eqD (fCall (chk 3 (F .holds_of_kind)) (aCons (fVar 12) (aCons (fVar 2) (aCons (fCall tupD (aCons (fC (.str ks_6)) (aCons (fVar 13) aNil))) aNil)))) (fVar 14))) (sRet (fC (.bl false))) sNx))) sNx))
    (sRet (fC (.bl true)))))))))))))))))))
noncomputable def F : Nat → Nm → List D → M D
  | 0, _ => fun _ => no
  | k + 1, .is_name => pureD (defD 2 (b_is_name (F k)))
  | k + 1, .check_word => pureD (defD 2 (b_check_word (F k)))
  | k + 1, .check_rounds => pureD (defD 1 (b_check_rounds (F k)))
  | k + 1, .check_order_formula => pureD (defD 6 (b_check_order_formula (F k)))
  | k + 1, .rounds_of => pureD (defD 3 (b_rounds_of (F k)))
  | k + 1, .word_truth => scopeD (defD 7 (b_word_truth (F k)))
  | k + 1, .with_place => defD 4 (b_with_place (F k))
  | k + 1, .joined_truth => scopeD (defD 2 (b_joined_truth (F k)))
  | k + 1, .holds_of_word => pureD (defD 2 (b_holds_of_word (F k)))
  | k + 1, .kind_of => pureD (defD 2 (b_kind_of (F k)))
  | k + 1, .known_kind => scopeD (defD 8 (b_known_kind (F k)))
  | k + 1, .lessened => pureD (defD 7 (b_lessened (F k)))
  | k + 1, .Adder_added => scopeD (defD 13 (b_Adder_added (F k)))
  | k + 1, .kind_sum => pureD (defD 3 (b_kind_sum (F k)))
  | k + 1, .kind_power => pureD (defD 5 (b_kind_power (F k)))
  | k + 1, .kind_truth => scopeD (defD 11 (b_kind_truth (F k)))
  | k + 1, .place_of => scopeD (defD 5 (b_place_of (F k)))
  | k + 1, .freed => defD 5 (b_freed (F k))
  | k + 1, .choices => defD 13 (b_choices (F k))
  | k + 1, .holds_of_kind => pureD (defD 3 (b_holds_of_kind (F k)))
  | k + 1, .telling => pureD (defD 5 (b_telling (F k)))
  | k + 1, .same_kind => pureD (defD 5 (b_same_kind (F k)))
  | k + 1, ._law_cell => pureD (defD 2 (b__law_cell (F k)))
  | k + 1, ._law_digits => defD 9 (b__law_digits (F k))
  | k + 1, ._law_draw => scopeD (defD 4 (b__law_draw (F k)))
  | k + 1, ._law_pick => scopeD (defD 2 (b__law_pick (F k)))
  | k + 1, ._law_same => pureD (defD 2 (b__law_same (F k)))
  | k + 1, ._law_rounds => pureD (defD 3 (b__law_rounds (F k)))
  | k + 1, ._law_sentences => defD 8 (b__law_sentences (F k))
  | k + 1, .law => defD 16 (b_law (F k))
end K39

set_option Elab.async false
set_option linter.all false
set_option maxRecDepth 100000
set_option maxHeartbeats 4000000
namespace K39
open PySem PySem.Spec L2 DL
open PyProof.Rows hiding St
theorem dpt {X : Cx} {e : Expr} {t : TT} (h : PW X e t) : PT X e t := h.pt
structure FldT (K : PySem.W.Frag) (c : Str → Option Addr) (cn f : Str) : Prop where
  ex : ∃ C, c cn = some C ∧ Cls K C ∧ NoAttr K C f
theorem FldT.ok {c : Str → Option Addr} {X : Cx} {cn f : Str} (h : FldT X.K c cn f) : FldOk c X cn f := ⟨h.ex⟩
structure Tx (P : Program) (w : World) (K : PySem.W.Frag) (mg : Str → Option Value) (c : Str → Option Addr) : Prop where
  z_all : mg "all" = none
  z_any : mg "any" = none
  z_dict : mg "dict" = none
  z_enumerate : mg "enumerate" = none
  z_int : mg "int" = none
  z_isinstance : mg "isinstance" = none
  z_len : mg "len" = none
  z_max : mg "max" = none
  z_min : mg "min" = none
  z_range : mg "range" = none
  z_repr : mg "repr" = none
  z_sorted : mg "sorted" = none
  z_str : mg "str" = none
  z_tuple : mg "tuple" = none
  g_FIGURES : GlobOk K P w c mg "FIGURES" g_FIGURES
  g_KINDS_MOST : GlobOk K P w c mg "KINDS_MOST" g_KINDS_MOST
  g_LONG : GlobOk K P w c mg "LONG" g_LONG
  g_ROUNDS_MOST : GlobOk K P w c mg "ROUNDS_MOST" g_ROUNDS_MOST
  g_SMALL : GlobOk K P w c mg "SMALL" g_SMALL
  g_TURNS : GlobOk K P w c mg "TURNS" g_TURNS
  g_WORDS : GlobOk K P w c mg "WORDS" g_WORDS
  f_Adder_known : FldT K c "Adder" "known"
theorem bt_all : bootBuiltins "all" = some (.builtin "all") := by decide +kernel
theorem bt_any : bootBuiltins "any" = some (.builtin "any") := by decide +kernel
theorem bt_dict : bootBuiltins "dict" = some (.type "dict") := by decide +kernel
theorem bt_int : bootBuiltins "int" = some (.type "int") := by decide +kernel
theorem bt_isinstance : bootBuiltins "isinstance" = some (.builtin "isinstance") := by decide +kernel
theorem bt_len : bootBuiltins "len" = some (.builtin "len") := by decide +kernel
theorem bt_max : bootBuiltins "max" = some (.builtin "max") := by decide +kernel
theorem bt_min : bootBuiltins "min" = some (.builtin "min") := by decide +kernel
theorem bt_repr : bootBuiltins "repr" = some (.builtin "repr") := by decide +kernel
theorem bt_sorted : bootBuiltins "sorted" = some (.builtin "sorted") := by decide +kernel
theorem bt_str : bootBuiltins "str" = some (.type "str") := by decide +kernel
theorem bt_tuple : bootBuiltins "tuple" = some (.type "tuple") := by decide +kernel
theorem hk_str : ∀ t, t ∈ ["NoneType", "bool", "int", "str", "tuple", "list", "dict"] → kitB t "str" = some (isiB t "str") := by decide +kernel
theorem hk_tuple : ∀ t, t ∈ ["NoneType", "bool", "int", "str", "tuple", "list", "dict"] → kitB t "tuple" = some (isiB t "tuple") := by decide +kernel
structure Lv (P : Program) (w : World) (K : PySem.W.Frag) (mg : Str → Option Value) (base : Heap) (c : Str → Option Addr) (k : Nat) : Prop where
  i_Adder : HasI P w K mg base c "Adder" 1 1 i_Adder
  is_name : Has P w K mg base c "is_name" (k + 3) 1 (F k .is_name)
  check_word : Has P w K mg base c "check_word" (k + 3) 1 (F k .check_word)
  check_rounds : Has P w K mg base c "check_rounds" (k + 3) 1 (F k .check_rounds)
  check_order_formula : Has P w K mg base c "check_order_formula" (k + 3) 2 (F k .check_order_formula)
  rounds_of : Has P w K mg base c "rounds_of" (k + 3) 1 (F k .rounds_of)
  word_truth : Has P w K mg base c "word_truth" (k + 3) 3 (F k .word_truth)
  with_place : Has P w K mg base c "with_place" (k + 3) 3 (F k .with_place)
  joined_truth : Has P w K mg base c "joined_truth" (k + 3) 2 (F k .joined_truth)
  holds_of_word : Has P w K mg base c "holds_of_word" (k + 3) 2 (F k .holds_of_word)
  kind_of : Has P w K mg base c "kind_of" (k + 3) 2 (F k .kind_of)
  known_kind : Has P w K mg base c "known_kind" (k + 3) 3 (F k .known_kind)
  lessened : Has P w K mg base c "lessened" (k + 3) 2 (F k .lessened)
  Adder_added : HasM P w K mg base c "Adder" "added" (k + 3) 4 (F k .Adder_added)
  kind_sum : Has P w K mg base c "kind_sum" (k + 3) 3 (F k .kind_sum)
  kind_power : Has P w K mg base c "kind_power" (k + 3) 3 (F k .kind_power)
  kind_truth : Has P w K mg base c "kind_truth" (k + 3) 4 (F k .kind_truth)
  place_of : Has P w K mg base c "place_of" (k + 3) 2 (F k .place_of)
  freed : Has P w K mg base c "freed" (k + 3) 2 (F k .freed)
  choices : Has P w K mg base c "choices" (k + 3) 4 (F k .choices)
  holds_of_kind : Has P w K mg base c "holds_of_kind" (k + 3) 3 (F k .holds_of_kind)
  telling : Has P w K mg base c "telling" (k + 3) 3 (F k .telling)
  same_kind : Has P w K mg base c "same_kind" (k + 3) 3 (F k .same_kind)
  _law_cell : Has P w K mg base c "_law_cell" (k + 3) 2 (F k ._law_cell)
  _law_digits : Has P w K mg base c "_law_digits" (k + 3) 3 (F k ._law_digits)
  _law_draw : Has P w K mg base c "_law_draw" (k + 3) 2 (F k ._law_draw)
  _law_pick : Has P w K mg base c "_law_pick" (k + 3) 2 (F k ._law_pick)
  _law_same : Has P w K mg base c "_law_same" (k + 3) 2 (F k ._law_same)
  _law_rounds : Has P w K mg base c "_law_rounds" (k + 3) 1 (F k ._law_rounds)
  _law_sentences : Has P w K mg base c "_law_sentences" (k + 3) 1 (F k ._law_sentences)
  law : Has P w K mg base c "law" (k + 3) 1 (F k .law)
abbrev s_is_name : Stmt := top 9
abbrev s_check_word : Stmt := top 14
abbrev s_check_rounds : Stmt := top 15
abbrev s_check_order_formula : Stmt := top 16
abbrev s_rounds_of : Stmt := top 17
abbrev s_word_truth : Stmt := top 18
abbrev s_with_place : Stmt := top 19
abbrev s_joined_truth : Stmt := top 20
abbrev s_holds_of_word : Stmt := top 21
abbrev s_kind_of : Stmt := top 22
abbrev s_known_kind : Stmt := top 23
abbrev s_lessened : Stmt := top 24
abbrev s_Adder_init : Stmt := inClass (top 25) 0
abbrev s_Adder_added : Stmt := inClass (top 25) 1
abbrev s_kind_sum : Stmt := top 26
abbrev s_kind_power : Stmt := top 27
abbrev s_kind_truth : Stmt := top 28
abbrev s_place_of : Stmt := top 29
abbrev s_freed : Stmt := top 30
abbrev s_choices : Stmt := top 31
abbrev s_holds_of_kind : Stmt := top 32
abbrev s_telling : Stmt := top 35
abbrev s_same_kind : Stmt := top 37
abbrev s__law_cell : Stmt := top 39
abbrev s__law_digits : Stmt := top 40
abbrev s__law_draw : Stmt := top 41
abbrev s__law_pick : Stmt := top 42
abbrev s__law_same : Stmt := top 43
abbrev s__law_rounds : Stmt := top 44
abbrev s__law_sentences : Stmt := top 45
abbrev s_law : Stmt := top 46
end K39

set_option Elab.async false
set_option linter.all false
set_option maxRecDepth 100000
set_option maxHeartbeats 4000000
namespace K39
open PySem PySem.Spec L2 DL
open PyProof.Rows hiding St
section
variable {P : Program} {w : World} {K : PySem.W.Frag} {mg : Str → Option Value} {base : Heap} {c : Str → Option Addr}
theorem sc_is_name : FnScope ["text", "sign"] ["text"] (defScope s_is_name) := ⟨rfl, rfl, rfl, by decide +kernel, rfl, by decide +kernel, by decide +kernel⟩
theorem st_is_name {k : Nat} (T : Tx P w K mg c) (L : Lv P w K mg base c k) {f : Addr} {fd : FuncData} (Fd : Fun K "is_name" "is_name" s_is_name f fd) : FnOk P w K mg base CX0 (k + 4) f fd ["text"] (spD ⟨K, P, w, c⟩ 1 (F (k + 1) .is_name)) := by
  refine L2.FnOk.imp (sp := spD ⟨K, P, w, c⟩ 1 (defD 2 (b_is_name (F k)))) ?_ fun vs H Q E q => spD_pure q
  refine fn_D (k := k + 3) (b := b_is_name (F k)) Fd sc_is_name (fun ds S r e => e) fun cdv A outer s H E hr => ?_
  have nd := sc_is_name.nd
  exact (dss_cons (ds_if (dpt (dw_or (dt_not (dt_truth (de_isi (T := "str") (de_var 0) (by rfl) T.z_isinstance (by rfl) T.z_str bt_str hk_str))) (dw_or (dt_not (dt_chain op_leD op_leD de_int (de_callB call_lenD2 (by rfl) T.z_len bt_len (da_cons (de_var 0) da_nil)) de_int)) (dw_or (dt_cmp (op_inDD (hu65 hr) (hn_of hr)) (de_var 0) (de_g T.g_WORDS (by rfl))) (dw_or1 (dt_cmp (op_ninDD (hu65 hr) (hn_of hr)) (de_idx (hu65 hr) (hn_of hr) (de_var 0) de_int) (de_g T.g_SMALL (by rfl)))))))) (dss_one (ds_ret de_bl)) dss_nil)
    (dss_one (ds_ret (de_callB (call_allD rfl) (by rfl) T.z_all bt_all (da_cons (de_lc rfl nd (di_str (de_var 0)) (blkOk_by (own := [("sign", 1)]) (by kernel_rfl)) (fun _ _ _ _ _ => (dg_name nd (i := 1) rfl (by first | exact Or.inl rfl | exact Or.inr rfl))) (fun _ _ _ _ _ => dts_nil) (fun _ _ _ _ _ => (de_or (de_cmp (op_inDD (hu65 hr) (hn_of hr)) (de_var 1) (de_g T.g_SMALL (by rfl))) (de_one (de_cmp (op_inDD (hu65 hr) (hn_of hr)) (de_var 1) (de_g T.g_FIGURES (by rfl))))))) da_nil)))))
theorem sc_check_word : FnScope ["word", "colour"] ["word"] (defScope s_check_word) := ⟨rfl, rfl, rfl, by decide +kernel, rfl, by decide +kernel, by decide +kernel⟩
theorem st_check_word {k : Nat} (T : Tx P w K mg c) (L : Lv P w K mg base c k) {f : Addr} {fd : FuncData} (Fd : Fun K "check_word" "check_word" s_check_word f fd) : FnOk P w K mg base CX0 (k + 4) f fd ["word"] (spD ⟨K, P, w, c⟩ 1 (F (k + 1) .check_word)) := by
  refine L2.FnOk.imp (sp := spD ⟨K, P, w, c⟩ 1 (defD 2 (b_check_word (F k)))) ?_ fun vs H Q E q => spD_pure q
  refine fn_D (k := k + 3) (b := b_check_word (F k)) Fd sc_check_word (fun ds S r e => e) fun cdv A outer s H E hr => ?_
  have nd := sc_check_word.nd
  exact (dss_one (ds_if (dpt (dw_or (dt_not (dt_truth (de_isi (T := "tuple") (de_var 0) (by rfl) T.z_isinstance (by rfl) T.z_tuple bt_tuple hk_tuple))) (dw_or (dt_cmp op_gtD (de_callB call_lenD2 (by rfl) T.z_len bt_len (da_cons (de_var 0) da_nil)) (de_g T.g_LONG (by rfl))) (dw_or1 (dt_not (dt_truth (de_callB (call_allD rfl) (by rfl) T.z_all bt_all (da_cons (de_lc rfl nd (di_seq (de_var 0)) (blkOk_by (own := [("colour", 1)]) (by kernel_rfl)) (fun _ _ _ _ _ => (dg_name nd (i := 1) rfl (by first | exact Or.inl rfl | exact Or.inr rfl))) (fun _ _ _ _ _ => dts_nil) (fun _ _ _ _ _ => (de_call (L.is_name.at hr) (by rfl) (da_cons (de_var 1) da_nil)))) da_nil)))))))) dss_no dss_nil))
theorem sc_check_rounds : FnScope ["rounds"] ["rounds"] (defScope s_check_rounds) := ⟨rfl, rfl, rfl, by decide +kernel, rfl, by decide +kernel, by decide +kernel⟩
theorem st_check_rounds {k : Nat} (T : Tx P w K mg c) (L : Lv P w K mg base c k) {f : Addr} {fd : FuncData} (Fd : Fun K "check_rounds" "check_rounds" s_check_rounds f fd) : FnOk P w K mg base CX0 (k + 4) f fd ["rounds"] (spD ⟨K, P, w, c⟩ 1 (F (k + 1) .check_rounds)) := by
  refine L2.FnOk.imp (sp := spD ⟨K, P, w, c⟩ 1 (defD 1 (b_check_rounds (F k)))) ?_ fun vs H Q E q => spD_pure q
  refine fn_D (k := k + 3) (b := b_check_rounds (F k)) Fd sc_check_rounds (fun ds S r e => e) fun cdv A outer s H E hr => ?_
  have nd := sc_check_rounds.nd
  exact (dss_one (ds_if (dt_cmp op_gtD (de_var 0) (de_g T.g_ROUNDS_MOST (by rfl))) dss_no dss_nil))
theorem sc_check_order_formula : FnScope ["formula", "known", "word", "fits", "many", "part"] ["formula", "known"] (defScope s_check_order_formula) := ⟨rfl, rfl, rfl, by decide +kernel, rfl, by decide +kernel, by decide +kernel⟩
theorem st_check_order_formula {k : Nat} (T : Tx P w K mg c) (L : Lv P w K mg base c k) {f : Addr} {fd : FuncData} (Fd : Fun K "check_order_formula" "check_order_formula" s_check_order_formula f fd) : FnOk P w K mg base CX0 (k + 4) f fd ["formula", "known"] (spD ⟨K, P, w, c⟩ 2 (F (k + 1) .check_order_formula)) := by
  refine L2.FnOk.imp (sp := spD ⟨K, P, w, c⟩ 2 (defD 6 (b_check_order_formula (F k)))) ?_ fun vs H Q E q => spD_pure q
  refine fn_D (k := k + 3) (b := b_check_order_formula (F k)) Fd sc_check_order_formula (fun ds S r e => e) fun cdv A outer s H E hr => ?_
  have nd := sc_check_order_formula.nd
  exact (dss_cons (ds_if (dpt (dw_or (dt_not (dt_truth (de_isi (T := "tuple") (de_var 0) (by rfl) T.z_isinstance (by rfl) T.z_tuple bt_tuple hk_tuple))) (dw_or1 (dt_not (dt_truth (de_var 0)))))) dss_no dss_nil)
    (dss_cons (ds_set nd (i := 2) rfl (by first | exact Or.inl rfl | exact Or.inr rfl) (de_idx (hu65 hr) (hn_of hr) (de_var 0) de_int))
    (dss_cons (ds_if (dt_cmp (op_inDD (hu65 hr) (hn_of hr)) (de_var 2) (de_tup (da_cons (de_strK kc_1) (da_cons (de_strK kc_0) da_nil)))) (dss_one (ds_set nd (i := 3) rfl (by first | exact Or.inl rfl | exact Or.inr rfl) (de_and (de_cmp (op_eqDD hr.units) (de_callB call_lenD2 (by rfl) T.z_len bt_len (da_cons (de_var 0) da_nil)) de_int) (de_and (de_cmp (op_inDD (hu65 hr) (hn_of hr)) (de_idx (hu65 hr) (hn_of hr) (de_var 0) de_int) (de_var 1)) (de_one (de_cmp (op_inDD (hu65 hr) (hn_of hr)) (de_idx (hu65 hr) (hn_of hr) (de_var 0) de_int) (de_var 1))))))) (dss_one (ds_if (dt_cmp (op_eqDD hr.units) (de_var 2) (de_strK kc_2)) (dss_one (ds_set nd (i := 3) rfl (by first | exact Or.inl rfl | exact Or.inr rfl) (de_and (de_cmp (op_eqDD hr.units) (de_callB call_lenD2 (by rfl) T.z_len bt_len (da_cons (de_var 0) da_nil)) de_int) (de_and (de_call (L.is_name.at hr) (by rfl) (da_cons (de_idx (hu65 hr) (hn_of hr) (de_var 0) de_int) da_nil)) (de_one (de_cmp (op_inDD (hu65 hr) (hn_of hr)) (de_idx (hu65 hr) (hn_of hr) (de_var 0) de_int) (de_var 1))))))) (dss_one (ds_if (dt_cmp (op_inDD (hu65 hr) (hn_of hr)) (de_var 2) (de_g T.g_TURNS (by rfl))) (dss_cons (ds_set nd (i := 3) rfl (by first | exact Or.inl rfl | exact Or.inr rfl) (de_and (de_cmp (op_eqDD hr.units) (de_callB call_lenD2 (by rfl) T.z_len bt_len (da_cons (de_var 0) da_nil)) de_int) (de_one (de_call (L.is_name.at hr) (by rfl) (da_cons (de_idx (hu65 hr) (hn_of hr) (de_var 0) de_int) da_nil)))))
    (dss_one (ds_if (dt_truth (de_var 3)) (dss_one (ds_drop (de_call (L.check_order_formula.at hr) (by rfl) (da_cons (de_idx (hu65 hr) (hn_of hr) (de_var 0) de_int) (da_cons (de_op op_addD (de_var 1) (de_tup (da_cons (de_idx (hu65 hr) (hn_of hr) (de_var 0) de_int) da_nil))) da_nil))))) dss_nil))) (dss_cons (ds_set nd (i := 4) rfl (by first | exact Or.inl rfl | exact Or.inr rfl) (de_get2 (hu_of hr) (de_disp (ps := [(ks_8, (fC (.int 1))), (ks_7, (fC (.int 1))), (ks_6, (fC (.int 2))), (ks_5, (fC (.int 3))), (ks_4, (fC (.int 3))), (ks_3, (fC (.int 3)))]) (pps_str kc_8 de_int (pps_str kc_7 de_int (pps_str kc_6 de_int (pps_str kc_5 de_int (pps_str kc_4 de_int (pps_str kc_3 de_int pps_nil))))))) (de_var 2) de_int))
    (dss_cons (ds_set nd (i := 3) rfl (by first | exact Or.inl rfl | exact Or.inr rfl) (de_cmp (op_eqDD hr.units) (de_callB call_lenD2 (by rfl) T.z_len bt_len (da_cons (de_var 0) da_nil)) (de_var 4)))
    (dss_one (ds_if (dt_truth (de_var 3)) (dss_one (ds_for PassesOwn.never rfl (di_seq (de_sl (de_var 0) (do_some de_int) do_none)) (dg_name nd (i := 5) rfl (by first | exact Or.inl rfl | exact Or.inr rfl))
      (dss_one (ds_drop (de_call (L.check_order_formula.at hr) (by rfl) (da_cons (de_var 5) (da_cons (de_var 1) da_nil))))))) dss_nil)))))))))
    (dss_one (ds_if (dt_not (dt_truth (de_var 3))) dss_no dss_nil)))))
theorem sc_rounds_of : FnScope ["formula", "inner", "part"] ["formula"] (defScope s_rounds_of) := ⟨rfl, rfl, rfl, by decide +kernel, rfl, by decide +kernel, by decide +kernel⟩
theorem st_rounds_of {k : Nat} (T : Tx P w K mg c) (L : Lv P w K mg base c k) {f : Addr} {fd : FuncData} (Fd : Fun K "rounds_of" "rounds_of" s_rounds_of f fd) : FnOk P w K mg base CX0 (k + 4) f fd ["formula"] (spD ⟨K, P, w, c⟩ 1 (F (k + 1) .rounds_of)) := by
  refine L2.FnOk.imp (sp := spD ⟨K, P, w, c⟩ 1 (defD 3 (b_rounds_of (F k)))) ?_ fun vs H Q E q => spD_pure q
  refine fn_D (k := k + 3) (b := b_rounds_of (F k)) Fd sc_rounds_of (fun ds S r e => e) fun cdv A outer s H E hr => ?_
  have nd := sc_rounds_of.nd
  exact (dss_cons (ds_if (dt_cmp (op_inDD (hu65 hr) (hn_of hr)) (de_idx (hu65 hr) (hn_of hr) (de_var 0) de_int) (de_tup (da_cons (de_strK kc_1) (da_cons (de_strK kc_0) (da_cons (de_strK kc_2) (da_cons (de_strK kc_8) (da_cons (de_strK kc_7) da_nil))))))) (dss_one (ds_ret de_int)) dss_nil)
    (dss_cons (ds_set nd (i := 1) rfl (by first | exact Or.inl rfl | exact Or.inr rfl) (de_callB (call_maxD rfl) (by rfl) T.z_max bt_max (da_cons (de_lc rfl nd (di_seq (de_sl (de_var 0) (do_some (de_if (dt_cmp (op_inDD (hu65 hr) (hn_of hr)) (de_idx (hu65 hr) (hn_of hr) (de_var 0) de_int) (de_g T.g_TURNS (by rfl))) de_int de_int)) do_none)) (blkOk_by (own := [("part", 2)]) (by kernel_rfl)) (fun _ _ _ _ _ => (dg_name nd (i := 2) rfl (by first | exact Or.inl rfl | exact Or.inr rfl))) (fun _ _ _ _ _ => dts_nil) (fun _ _ _ _ _ => (de_call (L.rounds_of.at hr) (by rfl) (da_cons (de_var 2) da_nil)))) da_nil)))
    (dss_one (ds_ret (de_op op_addD (de_var 1) (de_cmp (op_inDD (hu65 hr) (hn_of hr)) (de_idx (hu65 hr) (hn_of hr) (de_var 0) de_int) (de_g T.g_TURNS (by rfl))))))))
theorem sc_word_truth : FnScope ["word", "formula", "places", "head", "found", "place", "part"] ["word", "formula", "places"] (defScope s_word_truth) := ⟨rfl, rfl, rfl, by decide +kernel, rfl, by decide +kernel, by decide +kernel⟩
theorem st_word_truth {k : Nat} (T : Tx P w K mg c) (L : Lv P w K mg base c k) {f : Addr} {fd : FuncData} (Fd : Fun K "word_truth" "word_truth" s_word_truth f fd) : FnOk P w K mg base CX0 (k + 4) f fd ["word", "formula", "places"] (spD ⟨K, P, w, c⟩ 3 (F (k + 1) .word_truth)) := by
  refine L2.FnOk.imp (sp := spD ⟨K, P, w, c⟩ 3 (defD 7 (b_word_truth (F k)))) ?_ fun vs H Q E q => spD_scope q
  refine fn_D (k := k + 3) (b := b_word_truth (F k)) Fd sc_word_truth (fun ds S r e => e) fun cdv A outer s H E hr => ?_
  have nd := sc_word_truth.nd
  exact (dss_cons (ds_set nd (i := 3) rfl (by first | exact Or.inl rfl | exact Or.inr rfl) (de_idx (hu65 hr) (hn_of hr) (de_var 1) de_int))
    (dss_cons (ds_if (dt_cmp (op_eqDD hr.units) (de_var 3) (de_strK kc_1)) (dss_one (ds_ret (de_cmp op_ltD (de_idx (hu65 hr) (hn_of hr) (de_var 2) (de_idx (hu65 hr) (hn_of hr) (de_var 1) de_int)) (de_idx (hu65 hr) (hn_of hr) (de_var 2) (de_idx (hu65 hr) (hn_of hr) (de_var 1) de_int))))) dss_nil)
    (dss_cons (ds_if (dt_cmp (op_eqDD hr.units) (de_var 3) (de_strK kc_0)) (dss_one (ds_ret (de_cmp (op_eqDD hr.units) (de_idx (hu65 hr) (hn_of hr) (de_var 2) (de_idx (hu65 hr) (hn_of hr) (de_var 1) de_int)) (de_idx (hu65 hr) (hn_of hr) (de_var 2) (de_idx (hu65 hr) (hn_of hr) (de_var 1) de_int))))) dss_nil)
    (dss_cons (ds_if (dt_cmp (op_eqDD hr.units) (de_var 3) (de_strK kc_2)) (dss_one (ds_ret (de_cmp (op_eqDD hr.units) (de_idx (hu65 hr) (hn_of hr) (de_var 0) (de_idx (hu65 hr) (hn_of hr) (de_var 2) (de_idx (hu65 hr) (hn_of hr) (de_var 1) de_int))) (de_idx (hu65 hr) (hn_of hr) (de_var 1) de_int)))) dss_nil)
    (dss_cons (ds_if (dt_cmp (op_inDD (hu65 hr) (hn_of hr)) (de_var 3) (de_tup (da_cons (de_strK kc_8) (da_cons (de_strK kc_7) da_nil)))) (dss_one (ds_ret (de_cmp (op_eqDD hr.units) (de_var 3) (de_strK kc_8)))) dss_nil)
    (dss_cons (ds_if (dt_cmp (op_inDD (hu65 hr) (hn_of hr)) (de_var 3) (de_g T.g_TURNS (by rfl))) (dss_cons (ds_setLc (i := 4) rfl nd rfl rfl (sw_true rfl rfl rfl rfl) (di_rng1 (by rfl) T.z_range (da_cons (de_callB call_lenD2 (by rfl) T.z_len bt_len (da_cons (de_var 0) da_nil)) da_nil)) (blkOk_by (own := [("place", 5)]) (by kernel_rfl)) (fun _ _ _ _ _ => (dg_name nd (i := 5) rfl (by first | exact Or.inl rfl | exact Or.inr rfl))) (fun _ _ _ _ _ => dts_nil) (fun _ _ _ _ _ => (de_call (L.word_truth.at hr) (by rfl) (da_cons (de_var 0) (da_cons (de_idx (hu65 hr) (hn_of hr) (de_var 1) de_int) (da_cons (de_call (L.with_place.at hr) (by rfl) (da_cons (de_var 2) (da_cons (de_idx (hu65 hr) (hn_of hr) (de_var 1) de_int) (da_cons (de_var 5) da_nil)))) da_nil))))))
    (dss_one (ds_ret (de_if (dt_cmp (op_eqDD hr.units) (de_var 3) (de_strK kc_9)) (de_callB (call_anyD rfl) (by rfl) T.z_any bt_any (da_cons (de_var 4) da_nil)) (de_callB (call_allD rfl) (by rfl) T.z_all bt_all (da_cons (de_var 4) da_nil)))))) dss_nil)
    (dss_one (ds_ret (de_call (L.joined_truth.at hr) (by rfl) (da_cons (de_var 3) (da_cons (de_lc rfl nd (di_seq (de_sl (de_var 1) (do_some de_int) do_none)) (blkOk_by (own := [("part", 6)]) (by kernel_rfl)) (fun _ _ _ _ _ => (dg_name nd (i := 6) rfl (by first | exact Or.inl rfl | exact Or.inr rfl))) (fun _ _ _ _ _ => dts_nil) (fun _ _ _ _ _ => (de_call (L.word_truth.at hr) (by rfl) (da_cons (de_var 0) (da_cons (de_var 6) (da_cons (de_var 2) da_nil)))))) da_nil)))))))))))
theorem sc_with_place : FnScope ["places", "name", "place", "found"] ["places", "name", "place"] (defScope s_with_place) := ⟨rfl, rfl, rfl, by decide +kernel, rfl, by decide +kernel, by decide +kernel⟩
theorem st_with_place {k : Nat} (T : Tx P w K mg c) (L : Lv P w K mg base c k) {f : Addr} {fd : FuncData} (Fd : Fun K "with_place" "with_place" s_with_place f fd) : FnOk P w K mg base CX0 (k + 4) f fd ["places", "name", "place"] (spD ⟨K, P, w, c⟩ 3 (F (k + 1) .with_place)) := by
  refine fn_D (k := k + 3) (b := b_with_place (F k)) Fd sc_with_place (fun ds S r e => e) fun cdv A outer s H E hr => ?_
  have nd := sc_with_place.nd
  exact (dss_cons (ds_set nd (i := 3) rfl (by first | exact Or.inl rfl | exact Or.inr rfl) (de_callTy call_dictD (by rfl) T.z_dict bt_dict (da_cons (de_var 0) da_nil)))
    (dss_cons (ds_sub (hu65 hr) (hn_of hr) (de_var 3) (de_var 1) (de_var 2))
    (dss_one (ds_ret (de_var 3)))))
theorem sc_joined_truth : FnScope ["word", "truths"] ["word", "truths"] (defScope s_joined_truth) := ⟨rfl, rfl, rfl, by decide +kernel, rfl, by decide +kernel, by decide +kernel⟩
theorem st_joined_truth {k : Nat} (T : Tx P w K mg c) (L : Lv P w K mg base c k) {f : Addr} {fd : FuncData} (Fd : Fun K "joined_truth" "joined_truth" s_joined_truth f fd) : FnOk P w K mg base CX0 (k + 4) f fd ["word", "truths"] (spD ⟨K, P, w, c⟩ 2 (F (k + 1) .joined_truth)) := by
  refine L2.FnOk.imp (sp := spD ⟨K, P, w, c⟩ 2 (defD 2 (b_joined_truth (F k)))) ?_ fun vs H Q E q => spD_scope q
  refine fn_D (k := k + 3) (b := b_joined_truth (F k)) Fd sc_joined_truth (fun ds S r e => e) fun cdv A outer s H E hr => ?_
  have nd := sc_joined_truth.nd
  exact (dss_cons (ds_if (dt_cmp (op_eqDD hr.units) (de_var 0) (de_strK kc_6)) (dss_one (ds_ret (de_not (de_idx (hu65 hr) (hn_of hr) (de_var 1) de_int)))) dss_nil)
    (dss_cons (ds_if (dt_cmp (op_eqDD hr.units) (de_var 0) (de_strK kc_5)) (dss_one (ds_ret (de_and (de_idx (hu65 hr) (hn_of hr) (de_var 1) de_int) (de_one (de_idx (hu65 hr) (hn_of hr) (de_var 1) de_int))))) dss_nil)
    (dss_one (ds_ret (de_if (dt_cmp (op_eqDD hr.units) (de_var 0) (de_strK kc_4)) (de_or (de_idx (hu65 hr) (hn_of hr) (de_var 1) de_int) (de_one (de_idx (hu65 hr) (hn_of hr) (de_var 1) de_int))) (de_or (de_not (de_idx (hu65 hr) (hn_of hr) (de_var 1) de_int)) (de_one (de_idx (hu65 hr) (hn_of hr) (de_var 1) de_int))))))))
theorem sc_holds_of_word : FnScope ["word", "formula"] ["word", "formula"] (defScope s_holds_of_word) := ⟨rfl, rfl, rfl, by decide +kernel, rfl, by decide +kernel, by decide +kernel⟩
theorem st_holds_of_word {k : Nat} (T : Tx P w K mg c) (L : Lv P w K mg base c k) {f : Addr} {fd : FuncData} (Fd : Fun K "holds_of_word" "holds_of_word" s_holds_of_word f fd) : FnOk P w K mg base CX0 (k + 4) f fd ["word", "formula"] (spD ⟨K, P, w, c⟩ 2 (F (k + 1) .holds_of_word)) := by
  refine L2.FnOk.imp (sp := spD ⟨K, P, w, c⟩ 2 (defD 2 (b_holds_of_word (F k)))) ?_ fun vs H Q E q => spD_pure q
  refine fn_D (k := k + 3) (b := b_holds_of_word (F k)) Fd sc_holds_of_word (fun ds S r e => e) fun cdv A outer s H E hr => ?_
  have nd := sc_holds_of_word.nd
  exact (dss_cons (ds_drop (de_call (L.check_word.at hr) (by rfl) (da_cons (de_var 0) da_nil)))
    (dss_cons (ds_drop (de_call (L.check_order_formula.at hr) (by rfl) (da_cons (de_var 1) (da_cons (de_tup da_nil) da_nil))))
    (dss_one (ds_ret (de_call (L.word_truth.at hr) (by rfl) (da_cons (de_var 0) (da_cons (de_var 1) (da_cons de_dict0 da_nil))))))))
theorem sc_kind_of : FnScope ["word", "rounds"] ["word", "rounds"] (defScope s_kind_of) := ⟨rfl, rfl, rfl, by decide +kernel, rfl, by decide +kernel, by decide +kernel⟩
theorem st_kind_of {k : Nat} (T : Tx P w K mg c) (L : Lv P w K mg base c k) {f : Addr} {fd : FuncData} (Fd : Fun K "kind_of" "kind_of" s_kind_of f fd) : FnOk P w K mg base CX0 (k + 4) f fd ["word", "rounds"] (spD ⟨K, P, w, c⟩ 2 (F (k + 1) .kind_of)) := by
  refine L2.FnOk.imp (sp := spD ⟨K, P, w, c⟩ 2 (defD 2 (b_kind_of (F k)))) ?_ fun vs H Q E q => spD_pure q
  refine fn_D (k := k + 3) (b := b_kind_of (F k)) Fd sc_kind_of (fun ds S r e => e) fun cdv A outer s H E hr => ?_
  have nd := sc_kind_of.nd
  exact (dss_cons (ds_drop (de_call (L.check_word.at hr) (by rfl) (da_cons (de_var 0) da_nil)))
    (dss_cons (ds_drop (de_call (L.check_rounds.at hr) (by rfl) (da_cons (de_var 1) da_nil)))
    (dss_one (ds_ret (de_call (L.known_kind.at hr) (by rfl) (da_cons (de_var 0) (da_cons (de_var 1) (da_cons de_dictN da_nil))))))))
theorem sc_known_kind : FnScope ["word", "rounds", "known", "found", "at", "colour", "left", "right"] ["word", "rounds", "known"] (defScope s_known_kind) := ⟨rfl, rfl, rfl, by decide +kernel, rfl, by decide +kernel, by decide +kernel⟩
theorem st_known_kind {k : Nat} (T : Tx P w K mg c) (L : Lv P w K mg base c k) {f : Addr} {fd : FuncData} (Fd : Fun K "known_kind" "known_kind" s_known_kind f fd) : FnOk P w K mg base CX0 (k + 4) f fd ["word", "rounds", "known"] (spD ⟨K, P, w, c⟩ 3 (F (k + 1) .known_kind)) := by
  refine L2.FnOk.imp (sp := spD ⟨K, P, w, c⟩ 3 (defD 8 (b_known_kind (F k)))) ?_ fun vs H Q E q => spD_scope q
  refine fn_D (k := k + 3) (b := b_known_kind (F k)) Fd sc_known_kind (fun ds S r e => e) fun cdv A outer s H E hr => ?_
  have nd := sc_known_kind.nd
  exact (dss_cons (ds_if (dt_cmp (op_eqDD hr.units) (de_var 1) de_int) (dss_one (ds_ret (de_tup da_nil))) dss_nil)
    (dss_cons (ds_if (dt_cmp (op_ninDD (hu65 hr) (hn_of hr)) (de_tup (da_cons (de_var 0) (da_cons (de_var 1) da_nil))) (de_var 2)) (dss_cons (ds_set nd (i := 3) rfl (by first | exact Or.inl rfl | exact Or.inr rfl) (de_lst da_nil))
    (dss_cons (ds_for PassesOwn.never rfl (di_enu2 (by rfl) T.z_enumerate (da_cons (de_var 0) da_nil)) (dg_un rfl (dgs_cons (dg_name nd (i := 4) rfl (by first | exact Or.inl rfl | exact Or.inr rfl)) (dgs_cons (dg_name nd (i := 5) rfl (by first | exact Or.inl rfl | exact Or.inr rfl)) dgs_nil)))
      (dss_cons (ds_par (i := 6) (j := 7) rfl nd rfl rfl (by decide) rfl rfl (da_cons (de_call (L.known_kind.at hr) (by rfl) (da_cons (de_sl (de_var 0) do_none (do_some (de_var 4))) (da_cons (de_op op_subD (de_var 1) de_int) (da_cons (de_var 2) da_nil)))) (da_cons (de_call (L.known_kind.at hr) (by rfl) (da_cons (de_sl (de_var 0) (do_some (de_op op_addD (de_var 4) de_int)) do_none) (da_cons (de_op op_subD (de_var 1) de_int) (da_cons (de_var 2) da_nil)))) da_nil)) rfl)
    (dss_one (ds_if (dt_cmp (op_ninDD (hu65 hr) (hn_of hr)) (de_tup (da_cons (de_var 6) (da_cons (de_var 5) (da_cons (de_var 7) da_nil)))) (de_var 3)) (dss_one (ds_drop (de_app (de_var 3) (de_tup (da_cons (de_var 6) (da_cons (de_var 5) (da_cons (de_var 7) da_nil))))))) dss_nil))))
    (dss_one (ds_sub (hu65 hr) (hn_of hr) (de_var 2) (de_tup (da_cons (de_var 0) (da_cons (de_var 1) da_nil))) (de_callTy call_tupleD (by rfl) T.z_tuple bt_tuple (da_cons (de_callB (call_sortedS hr.units) (by rfl) T.z_sorted bt_sorted (da_cons (de_var 3) da_nil)) da_nil)))))) dss_nil)
    (dss_one (ds_ret (de_idx (hu65 hr) (hn_of hr) (de_var 2) (de_tup (da_cons (de_var 0) (da_cons (de_var 1) da_nil))))))))
theorem sc_lessened : FnScope ["kind", "rounds", "found", "left", "colour", "right", "one"] ["kind", "rounds"] (defScope s_lessened) := ⟨rfl, rfl, rfl, by decide +kernel, rfl, by decide +kernel, by decide +kernel⟩
theorem st_lessened {k : Nat} (T : Tx P w K mg c) (L : Lv P w K mg base c k) {f : Addr} {fd : FuncData} (Fd : Fun K "lessened" "lessened" s_lessened f fd) : FnOk P w K mg base CX0 (k + 4) f fd ["kind", "rounds"] (spD ⟨K, P, w, c⟩ 2 (F (k + 1) .lessened)) := by
  refine L2.FnOk.imp (sp := spD ⟨K, P, w, c⟩ 2 (defD 7 (b_lessened (F k)))) ?_ fun vs H Q E q => spD_pure q
  refine fn_D (k := k + 3) (b := b_lessened (F k)) Fd sc_lessened (fun ds S r e => e) fun cdv A outer s H E hr => ?_
  have nd := sc_lessened.nd
  exact (dss_cons (ds_if (dt_cmp (op_eqDD hr.units) (de_var 1) de_int) (dss_one (ds_ret (de_tup da_nil))) dss_nil)
    (dss_cons (ds_set nd (i := 2) rfl (by first | exact Or.inl rfl | exact Or.inr rfl) (de_lst da_nil))
    (dss_cons (ds_for PassesOwn.never rfl (di_seq (de_var 0)) (dg_un rfl (dgs_cons (dg_name nd (i := 3) rfl (by first | exact Or.inl rfl | exact Or.inr rfl)) (dgs_cons (dg_name nd (i := 4) rfl (by first | exact Or.inl rfl | exact Or.inr rfl)) (dgs_cons (dg_name nd (i := 5) rfl (by first | exact Or.inl rfl | exact Or.inr rfl)) dgs_nil))))
      (dss_cons (ds_set nd (i := 6) rfl (by first | exact Or.inl rfl | exact Or.inr rfl) (de_tup (da_cons (de_call (L.lessened.at hr) (by rfl) (da_cons (de_var 3) (da_cons (de_op op_subD (de_var 1) de_int) da_nil))) (da_cons (de_var 4) (da_cons (de_call (L.lessened.at hr) (by rfl) (da_cons (de_var 5) (da_cons (de_op op_subD (de_var 1) de_int) da_nil))) da_nil)))))
    (dss_one (ds_if (dt_cmp (op_ninDD (hu65 hr) (hn_of hr)) (de_var 6) (de_var 2)) (dss_one (ds_drop (de_app (de_var 2) (de_var 6)))) dss_nil))))
    (dss_one (ds_ret (de_callTy call_tupleD (by rfl) T.z_tuple bt_tuple (da_cons (de_callB (call_sortedS hr.units) (by rfl) T.z_sorted bt_sorted (da_cons (de_var 2) da_nil)) da_nil)))))))
theorem sc_Adder_init : FnScope ["self"] ["self"] (defScope s_Adder_init) := ⟨rfl, rfl, rfl, by decide +kernel, rfl, by decide +kernel, by decide +kernel⟩
theorem st_Adder_init (T : Tx P w K mg c) {f : Addr} {fd : FuncData} (Fd : Fun K "__init__" "Adder.__init__" s_Adder_init f fd) : FnOk P w K mg base CX0 1 f fd ["self"] (spD ⟨K, P, w, c⟩ 1 i_Adder) := by
  refine fn_D (k := 0) (b := bi_Adder) Fd sc_Adder_init (fun ds S r e => e) fun cdv A outer s H E hr => ?_
  have nd := sc_Adder_init.nd
  exact (dss_one (ds_cast (ds_fld T.f_Adder_known.ok (de_var 0) de_dictN) (by rw [kc_10, kc_11])))
theorem sc_Adder_added : FnScope ["self", "one", "other", "rounds", "key", "less_one", "less_other", "found", "left", "colour", "right", "at", "row"] ["self", "one", "other", "rounds"] (defScope s_Adder_added) := ⟨rfl, rfl, rfl, by decide +kernel, rfl, by decide +kernel, by decide +kernel⟩
theorem st_Adder_added {k : Nat} (T : Tx P w K mg c) (L : Lv P w K mg base c k) {f : Addr} {fd : FuncData} (Fd : Fun K "added" "Adder.added" s_Adder_added f fd) : FnOk P w K mg base CX0 (k + 4) f fd ["self", "one", "other", "rounds"] (spD ⟨K, P, w, c⟩ 4 (F (k + 1) .Adder_added)) := by
  refine L2.FnOk.imp (sp := spD ⟨K, P, w, c⟩ 4 (defD 13 (b_Adder_added (F k)))) ?_ fun vs H Q E q => spD_scope q
  refine fn_D (k := k + 3) (b := b_Adder_added (F k)) Fd sc_Adder_added (fun ds S r e => e) fun cdv A outer s H E hr => ?_
  have nd := sc_Adder_added.nd
  exact (dss_cons (ds_if (dt_cmp (op_eqDD hr.units) (de_var 3) de_int) (dss_one (ds_ret (de_tup da_nil))) dss_nil)
    (dss_cons (ds_set nd (i := 4) rfl (by first | exact Or.inl rfl | exact Or.inr rfl) (de_tup (da_cons (de_var 1) (da_cons (de_var 2) (da_cons (de_var 3) da_nil)))))
    (dss_cons (ds_if (dt_cmp (op_ninDD (hu65 hr) (hn_of hr)) (de_var 4) (de_cast (de_fld T.f_Adder_known.ok (de_var 0)) (by rw [kc_10, kc_11]))) (dss_cons (ds_if (dt_cmp op_gtD (de_callB call_lenD2 (by rfl) T.z_len bt_len (da_cons (de_cast (de_fld T.f_Adder_known.ok (de_var 0)) (by rw [kc_10, kc_11])) da_nil)) (de_g T.g_KINDS_MOST (by rfl))) dss_no dss_nil)
    (dss_cons (ds_par (i := 5) (j := 6) rfl nd rfl rfl (by decide) rfl rfl (da_cons (de_call (L.lessened.at hr) (by rfl) (da_cons (de_var 1) (da_cons (de_var 3) da_nil))) (da_cons (de_call (L.lessened.at hr) (by rfl) (da_cons (de_var 2) (da_cons (de_var 3) da_nil))) da_nil)) rfl)
    (dss_cons (ds_set nd (i := 7) rfl (by first | exact Or.inl rfl | exact Or.inr rfl) (de_lst da_nil))
    (dss_cons (ds_for PassesOwn.never rfl (di_seq (de_var 1)) (dg_un rfl (dgs_cons (dg_name nd (i := 8) rfl (by first | exact Or.inl rfl | exact Or.inr rfl)) (dgs_cons (dg_name nd (i := 9) rfl (by first | exact Or.inl rfl | exact Or.inr rfl)) (dgs_cons (dg_name nd (i := 10) rfl (by first | exact Or.inl rfl | exact Or.inr rfl)) dgs_nil))))
      (dss_one (ds_drop (de_app (de_var 7) (de_tup (da_cons (de_var 8) (da_cons (de_var 9) (da_cons (de_cast (de_meth (L.Adder_added.at hr) (de_var 0) (da_cons (de_var 10) (da_cons (de_var 6) (da_cons (de_op op_subD (de_var 3) de_int) da_nil)))) (by rw [kc_10, kc_12])) da_nil))))))))
    (dss_cons (ds_for PassesOwn.never rfl (di_seq (de_var 2)) (dg_un rfl (dgs_cons (dg_name nd (i := 8) rfl (by first | exact Or.inl rfl | exact Or.inr rfl)) (dgs_cons (dg_name nd (i := 9) rfl (by first | exact Or.inl rfl | exact Or.inr rfl)) (dgs_cons (dg_name nd (i := 10) rfl (by first | exact Or.inl rfl | exact Or.inr rfl)) dgs_nil))))
      (dss_one (ds_drop (de_app (de_var 7) (de_tup (da_cons (de_cast (de_meth (L.Adder_added.at hr) (de_var 0) (da_cons (de_var 5) (da_cons (de_var 8) (da_cons (de_op op_subD (de_var 3) de_int) da_nil)))) (by rw [kc_10, kc_12])) (da_cons (de_var 9) (da_cons (de_var 10) da_nil))))))))
    (dss_one (ds_sub (hu65 hr) (hn_of hr) (de_cast (de_fld T.f_Adder_known.ok (de_var 0)) (by rw [kc_10, kc_11])) (de_var 4) (de_callTy call_tupleD (by rfl) T.z_tuple bt_tuple (da_cons (de_callB (call_sortedS hr.units) (by rfl) T.z_sorted bt_sorted (da_cons (de_lc rfl nd (di_enu2 (by rfl) T.z_enumerate (da_cons (de_var 7) da_nil)) (blkOk_by (own := [("at", 11), ("row", 12)]) (by kernel_rfl)) (fun _ _ _ _ _ => (dg_un rfl (dgs_cons (dg_name nd (i := 11) rfl (by first | exact Or.inl rfl | exact Or.inr rfl)) (dgs_cons (dg_name nd (i := 12) rfl (by first | exact Or.inl rfl | exact Or.inr rfl)) dgs_nil)))) (fun _ _ _ _ _ => (dts_one (dt_cmp (op_ninDD (hu65 hr) (hn_of hr)) (de_var 12) (de_sl (de_var 7) do_none (do_some (de_var 11)))))) (fun _ _ _ _ _ => (de_var 12))) da_nil)) da_nil))))))))) dss_nil)
    (dss_one (ds_ret (de_idx (hu65 hr) (hn_of hr) (de_cast (de_fld T.f_Adder_known.ok (de_var 0)) (by rw [kc_10, kc_11])) (de_var 4)))))))
theorem sc_kind_sum : FnScope ["one", "other", "rounds"] ["one", "other", "rounds"] (defScope s_kind_sum) := ⟨rfl, rfl, rfl, by decide +kernel, rfl, by decide +kernel, by decide +kernel⟩
theorem st_kind_sum {k : Nat} (T : Tx P w K mg c) (L : Lv P w K mg base c k) {f : Addr} {fd : FuncData} (Fd : Fun K "kind_sum" "kind_sum" s_kind_sum f fd) : FnOk P w K mg base CX0 (k + 4) f fd ["one", "other", "rounds"] (spD ⟨K, P, w, c⟩ 3 (F (k + 1) .kind_sum)) := by
  refine L2.FnOk.imp (sp := spD ⟨K, P, w, c⟩ 3 (defD 3 (b_kind_sum (F k)))) ?_ fun vs H Q E q => spD_pure q
  refine fn_D (k := k + 3) (b := b_kind_sum (F k)) Fd sc_kind_sum (fun ds S r e => e) fun cdv A outer s H E hr => ?_
  have nd := sc_kind_sum.nd
  exact (dss_cons (ds_drop (de_call (L.check_rounds.at hr) (by rfl) (da_cons (de_var 2) da_nil)))
    (dss_one (ds_ret (de_cast (de_meth (L.Adder_added.at hr) (de_cast (de_make0 (L.i_Adder.at hr (by omega)) (by rfl)) (by rw [kc_10])) (da_cons (de_var 0) (da_cons (de_var 1) (da_cons (de_var 2) da_nil)))) (by rw [kc_10, kc_12])))))
theorem sc_kind_power : FnScope ["kind", "rounds", "times", "adder", "found"] ["kind", "rounds", "times"] (defScope s_kind_power) := ⟨rfl, rfl, rfl, by decide +kernel, rfl, by decide +kernel, by decide +kernel⟩
theorem st_kind_power {k : Nat} (T : Tx P w K mg c) (L : Lv P w K mg base c k) {f : Addr} {fd : FuncData} (Fd : Fun K "kind_power" "kind_power" s_kind_power f fd) : FnOk P w K mg base CX0 (k + 4) f fd ["kind", "rounds", "times"] (spD ⟨K, P, w, c⟩ 3 (F (k + 1) .kind_power)) := by
  refine L2.FnOk.imp (sp := spD ⟨K, P, w, c⟩ 3 (defD 5 (b_kind_power (F k)))) ?_ fun vs H Q E q => spD_pure q
  refine fn_D (k := k + 3) (b := b_kind_power (F k)) Fd sc_kind_power (fun ds S r e => e) fun cdv A outer s H E hr => ?_
  have nd := sc_kind_power.nd
  exact (dss_cons (ds_drop (de_call (L.check_rounds.at hr) (by rfl) (da_cons (de_var 1) da_nil)))
    (dss_cons (ds_set nd (i := 3) rfl (by first | exact Or.inl rfl | exact Or.inr rfl) (de_cast (de_make0 (L.i_Adder.at hr (by omega)) (by rfl)) (by rw [kc_10])))
    (dss_cons (ds_set nd (i := 4) rfl (by first | exact Or.inl rfl | exact Or.inr rfl) (de_tup da_nil))
    (dss_cons (ds_while (n := 128) PassesOwn.never (dt_cmp op_gtD (de_var 2) de_int) (dss_cons (ds_if (dt_truth (de_op op_modD (de_var 2) de_int)) (dss_one (ds_set nd (i := 4) rfl (by first | exact Or.inl rfl | exact Or.inr rfl) (de_cast (de_meth (L.Adder_added.at hr) (de_var 3) (da_cons (de_var 4) (da_cons (de_var 0) (da_cons (de_var 1) da_nil)))) (by rw [kc_10, kc_12])))) dss_nil)
    (dss_cons (ds_set nd (i := 0) rfl (by first | exact Or.inl rfl | exact Or.inr rfl) (de_cast (de_meth (L.Adder_added.at hr) (de_var 3) (da_cons (de_var 0) (da_cons (de_var 0) (da_cons (de_var 1) da_nil)))) (by rw [kc_10, kc_12])))
    (dss_one (ds_aug nd (i := 2) rfl (by first | exact Or.inl rfl | exact Or.inr rfl) de_int iop_fdivD)))))
    (dss_one (ds_ret (de_var 4)))))))
theorem sc_kind_truth : FnScope ["formula", "rounds", "pieces", "points", "head", "one", "other", "found", "part", "own", "its"] ["formula", "rounds", "pieces", "points"] (defScope s_kind_truth) := ⟨rfl, rfl, rfl, by decide +kernel, rfl, by decide +kernel, by decide +kernel⟩
theorem st_kind_truth {k : Nat} (T : Tx P w K mg c) (L : Lv P w K mg base c k) {f : Addr} {fd : FuncData} (Fd : Fun K "kind_truth" "kind_truth" s_kind_truth f fd) : FnOk P w K mg base CX0 (k + 4) f fd ["formula", "rounds", "pieces", "points"] (spD ⟨K, P, w, c⟩ 4 (F (k + 1) .kind_truth)) := by
  refine L2.FnOk.imp (sp := spD ⟨K, P, w, c⟩ 4 (defD 11 (b_kind_truth (F k)))) ?_ fun vs H Q E q => spD_scope q
  refine fn_D (k := k + 3) (b := b_kind_truth (F k)) Fd sc_kind_truth (fun ds S r e => e) fun cdv A outer s H E hr => ?_
  have nd := sc_kind_truth.nd
  exact (dss_cons (ds_set nd (i := 4) rfl (by first | exact Or.inl rfl | exact Or.inr rfl) (de_idx (hu65 hr) (hn_of hr) (de_var 0) de_int))
    (dss_cons (ds_if (dt_cmp (op_inDD (hu65 hr) (hn_of hr)) (de_var 4) (de_tup (da_cons (de_strK kc_8) (da_cons (de_strK kc_7) da_nil)))) (dss_one (ds_ret (de_cmp (op_eqDD hr.units) (de_var 4) (de_strK kc_8)))) dss_nil)
    (dss_cons (ds_if (dt_cmp (op_eqDD hr.units) (de_var 4) (de_strK kc_2)) (dss_one (ds_ret (de_cmp (op_eqDD hr.units) (de_idx (hu65 hr) (hn_of hr) (de_idx (hu65 hr) (hn_of hr) (de_var 3) (de_call (L.place_of.at hr) (by rfl) (da_cons (de_var 3) (da_cons (de_idx (hu65 hr) (hn_of hr) (de_var 0) de_int) da_nil)))) de_int) (de_idx (hu65 hr) (hn_of hr) (de_var 0) de_int)))) dss_nil)
    (dss_cons (ds_if (dt_cmp (op_inDD (hu65 hr) (hn_of hr)) (de_var 4) (de_tup (da_cons (de_strK kc_1) (da_cons (de_strK kc_0) da_nil)))) (dss_cons (ds_par (i := 5) (j := 6) rfl nd rfl rfl (by decide) rfl rfl (da_cons (de_call (L.place_of.at hr) (by rfl) (da_cons (de_var 3) (da_cons (de_idx (hu65 hr) (hn_of hr) (de_var 0) de_int) da_nil))) (da_cons (de_call (L.place_of.at hr) (by rfl) (da_cons (de_var 3) (da_cons (de_idx (hu65 hr) (hn_of hr) (de_var 0) de_int) da_nil))) da_nil)) rfl)
    (dss_one (ds_ret (de_if (dt_cmp (op_eqDD hr.units) (de_var 4) (de_strK kc_1)) (de_cmp op_ltD (de_var 5) (de_var 6)) (de_cmp (op_eqDD hr.units) (de_var 5) (de_var 6)))))) dss_nil)
    (dss_cons (ds_if (dt_cmp (op_ninDD (hu65 hr) (hn_of hr)) (de_var 4) (de_g T.g_TURNS (by rfl))) (dss_one (ds_ret (de_call (L.joined_truth.at hr) (by rfl) (da_cons (de_var 4) (da_cons (de_lc rfl nd (di_seq (de_sl (de_var 0) (do_some de_int) do_none)) (blkOk_by (own := [("part", 8)]) (by kernel_rfl)) (fun _ _ _ _ _ => (dg_name nd (i := 8) rfl (by first | exact Or.inl rfl | exact Or.inr rfl))) (fun _ _ _ _ _ => dts_nil) (fun _ _ _ _ _ => (de_call (L.kind_truth.at hr) (by rfl) (da_cons (de_var 8) (da_cons (de_var 1) (da_cons (de_var 2) (da_cons (de_var 3) da_nil))))))) da_nil))))) dss_nil)
    (dss_cons (ds_setLc (i := 7) rfl nd rfl rfl (sw_true rfl rfl rfl rfl) (di_seq (de_call (L.choices.at hr) (by rfl) (da_cons (de_idx (hu65 hr) (hn_of hr) (de_var 0) de_int) (da_cons (de_var 1) (da_cons (de_var 2) (da_cons (de_var 3) da_nil)))))) (blkOk_by (own := [("own", 9), ("its", 10)]) (by kernel_rfl)) (fun _ _ _ _ _ => (dg_un rfl (dgs_cons (dg_name nd (i := 9) rfl (by first | exact Or.inl rfl | exact Or.inr rfl)) (dgs_cons (dg_name nd (i := 10) rfl (by first | exact Or.inl rfl | exact Or.inr rfl)) dgs_nil)))) (fun _ _ _ _ _ => dts_nil) (fun _ _ _ _ _ => (de_call (L.kind_truth.at hr) (by rfl) (da_cons (de_idx (hu65 hr) (hn_of hr) (de_var 0) de_int) (da_cons (de_op op_subD (de_var 1) de_int) (da_cons (de_var 9) (da_cons (de_var 10) da_nil)))))))
    (dss_one (ds_ret (de_if (dt_cmp (op_eqDD hr.units) (de_var 4) (de_strK kc_9)) (de_callB (call_anyD rfl) (by rfl) T.z_any bt_any (da_cons (de_var 7) da_nil)) (de_callB (call_allD rfl) (by rfl) T.z_all bt_all (da_cons (de_var 7) da_nil)))))))))))
theorem sc_place_of : FnScope ["points", "name", "at", "colour", "names"] ["points", "name"] (defScope s_place_of) := ⟨rfl, rfl, rfl, by decide +kernel, rfl, by decide +kernel, by decide +kernel⟩
theorem st_place_of {k : Nat} (T : Tx P w K mg c) (L : Lv P w K mg base c k) {f : Addr} {fd : FuncData} (Fd : Fun K "place_of" "place_of" s_place_of f fd) : FnOk P w K mg base CX0 (k + 4) f fd ["points", "name"] (spD ⟨K, P, w, c⟩ 2 (F (k + 1) .place_of)) := by
  refine L2.FnOk.imp (sp := spD ⟨K, P, w, c⟩ 2 (defD 5 (b_place_of (F k)))) ?_ fun vs H Q E q => spD_scope q
  refine fn_D (k := k + 3) (b := b_place_of (F k)) Fd sc_place_of (fun ds S r e => e) fun cdv A outer s H E hr => ?_
  have nd := sc_place_of.nd
  exact (dss_one (ds_ret (de_idx (hu65 hr) (hn_of hr) (de_lc rfl nd (di_enu2 (by rfl) T.z_enumerate (da_cons (de_var 0) da_nil)) (blkOk_by (own := [("at", 2), ("colour", 3), ("names", 4)]) (by kernel_rfl)) (fun _ _ _ _ _ => (dg_un rfl (dgs_cons (dg_name nd (i := 2) rfl (by first | exact Or.inl rfl | exact Or.inr rfl)) (dgs_cons (dg_un rfl (dgs_cons (dg_name nd (i := 3) rfl (by first | exact Or.inl rfl | exact Or.inr rfl)) (dgs_cons (dg_name nd (i := 4) rfl (by first | exact Or.inl rfl | exact Or.inr rfl)) dgs_nil))) dgs_nil)))) (fun _ _ _ _ _ => (dts_one (dt_cmp (op_inDD (hu65 hr) (hn_of hr)) (de_var 1) (de_var 4)))) (fun _ _ _ _ _ => (de_var 2))) de_int)))
theorem sc_freed : FnScope ["points", "name", "colour", "names", "one"] ["points", "name"] (defScope s_freed) := ⟨rfl, rfl, rfl, by decide +kernel, rfl, by decide +kernel, by decide +kernel⟩
theorem st_freed {k : Nat} (T : Tx P w K mg c) (L : Lv P w K mg base c k) {f : Addr} {fd : FuncData} (Fd : Fun K "freed" "freed" s_freed f fd) : FnOk P w K mg base CX0 (k + 4) f fd ["points", "name"] (spD ⟨K, P, w, c⟩ 2 (F (k + 1) .freed)) := by
  refine fn_D (k := k + 3) (b := b_freed (F k)) Fd sc_freed (fun ds S r e => e) fun cdv A outer s H E hr => ?_
  have nd := sc_freed.nd
  exact (dss_one (ds_ret (de_lc rfl nd (di_seq (de_var 0)) (blkOk_by (own := [("colour", 2), ("names", 3)]) (by kernel_rfl)) (fun _ _ _ _ _ => (dg_un rfl (dgs_cons (dg_name nd (i := 2) rfl (by first | exact Or.inl rfl | exact Or.inr rfl)) (dgs_cons (dg_name nd (i := 3) rfl (by first | exact Or.inl rfl | exact Or.inr rfl)) dgs_nil)))) (fun _ _ _ _ _ => dts_nil) (fun _ _ _ _ _ => (de_tup (da_cons (de_var 2) (da_cons (de_callTy call_tupleD (by rfl) T.z_tuple bt_tuple (da_cons (de_lc rfl nd (di_seq (de_var 3)) (blkOk_by (own := [("one", 4)]) (by kernel_rfl)) (fun _ _ _ _ _ => (dg_name nd (i := 4) rfl (by first | exact Or.inl rfl | exact Or.inr rfl))) (fun _ _ _ _ _ => (dts_one (dt_cmp (op_neDD hr.units) (de_var 4) (de_var 1)))) (fun _ _ _ _ _ => (de_var 4))) da_nil)) da_nil)))))))
theorem sc_choices : FnScope ["name", "rounds", "pieces", "points", "less", "found", "at", "colour", "names", "piece", "left", "right", "own"] ["name", "rounds", "pieces", "points"] (defScope s_choices) := ⟨rfl, rfl, rfl, by decide +kernel, rfl, by decide +kernel, by decide +kernel⟩
theorem st_choices {k : Nat} (T : Tx P w K mg c) (L : Lv P w K mg base c k) {f : Addr} {fd : FuncData} (Fd : Fun K "choices" "choices" s_choices f fd) : FnOk P w K mg base CX0 (k + 4) f fd ["name", "rounds", "pieces", "points"] (spD ⟨K, P, w, c⟩ 4 (F (k + 1) .choices)) := by
  refine fn_D (k := k + 3) (b := b_choices (F k)) Fd sc_choices (fun ds S r e => e) fun cdv A outer s H E hr => ?_
  have nd := sc_choices.nd
  exact (dss_cons (ds_set nd (i := 3) rfl (by first | exact Or.inl rfl | exact Or.inr rfl) (de_call (L.freed.at hr) (by rfl) (da_cons (de_var 3) (da_cons (de_var 0) da_nil))))
    (dss_cons (ds_setLc (i := 4) rfl nd rfl rfl (sw_true rfl rfl rfl rfl) (di_seq (de_var 2)) (blkOk_by (own := [("piece", 9)]) (by kernel_rfl)) (fun _ _ _ _ _ => (dg_name nd (i := 9) rfl (by first | exact Or.inl rfl | exact Or.inr rfl))) (fun _ _ _ _ _ => dts_nil) (fun _ _ _ _ _ => (de_call (L.lessened.at hr) (by rfl) (da_cons (de_var 9) (da_cons (de_var 1) da_nil)))))
    (dss_cons (ds_set nd (i := 5) rfl (by first | exact Or.inl rfl | exact Or.inr rfl) (de_lst da_nil))
    (dss_cons (ds_for PassesOwn.never rfl (di_enu2 (by rfl) T.z_enumerate (da_cons (de_var 3) da_nil)) (dg_un rfl (dgs_cons (dg_name nd (i := 6) rfl (by first | exact Or.inl rfl | exact Or.inr rfl)) (dgs_cons (dg_un rfl (dgs_cons (dg_name nd (i := 7) rfl (by first | exact Or.inl rfl | exact Or.inr rfl)) (dgs_cons (dg_name nd (i := 8) rfl (by first | exact Or.inl rfl | exact Or.inr rfl)) dgs_nil))) dgs_nil)))
      (dss_one (ds_drop (de_app (de_var 5) (de_tup (da_cons (de_var 4) (da_cons (de_op op_addD (de_op op_addD (de_sl (de_var 3) do_none (do_some (de_var 6))) (de_lst (da_cons (de_tup (da_cons (de_var 7) (da_cons (de_op op_addD (de_var 8) (de_tup (da_cons (de_var 0) da_nil))) da_nil))) da_nil))) (de_sl (de_var 3) (do_some (de_op op_addD (de_var 6) de_int)) do_none)) da_nil)))))))
    (dss_cons (ds_for PassesOwn.never rfl (di_enu2 (by rfl) T.z_enumerate (da_cons (de_var 2) da_nil)) (dg_un rfl (dgs_cons (dg_name nd (i := 6) rfl (by first | exact Or.inl rfl | exact Or.inr rfl)) (dgs_cons (dg_name nd (i := 9) rfl (by first | exact Or.inl rfl | exact Or.inr rfl)) dgs_nil)))
      (dss_one (ds_for PassesOwn.never rfl (di_seq (de_var 9)) (dg_un rfl (dgs_cons (dg_name nd (i := 10) rfl (by first | exact Or.inl rfl | exact Or.inr rfl)) (dgs_cons (dg_name nd (i := 7) rfl (by first | exact Or.inl rfl | exact Or.inr rfl)) (dgs_cons (dg_name nd (i := 11) rfl (by first | exact Or.inl rfl | exact Or.inr rfl)) dgs_nil))))
      (dss_cons (ds_set nd (i := 12) rfl (by first | exact Or.inl rfl | exact Or.inr rfl) (de_op op_addD (de_op op_addD (de_sl (de_var 4) do_none (do_some (de_var 6))) (de_lst (da_cons (de_var 10) (da_cons (de_var 11) da_nil)))) (de_sl (de_var 4) (do_some (de_op op_addD (de_var 6) de_int)) do_none)))
    (dss_one (ds_drop (de_app (de_var 5) (de_tup (da_cons (de_var 12) (da_cons (de_op op_addD (de_op op_addD (de_sl (de_var 3) do_none (do_some (de_var 6))) (de_lst (da_cons (de_tup (da_cons (de_var 7) (da_cons (de_tup (da_cons (de_var 0) da_nil)) da_nil))) da_nil))) (de_sl (de_var 3) (do_some (de_var 6)) do_none)) da_nil))))))))))
    (dss_one (ds_ret (de_var 5))))))))
theorem sc_holds_of_kind : FnScope ["kind", "rounds", "formula"] ["kind", "rounds", "formula"] (defScope s_holds_of_kind) := ⟨rfl, rfl, rfl, by decide +kernel, rfl, by decide +kernel, by decide +kernel⟩
theorem st_holds_of_kind {k : Nat} (T : Tx P w K mg c) (L : Lv P w K mg base c k) {f : Addr} {fd : FuncData} (Fd : Fun K "holds_of_kind" "holds_of_kind" s_holds_of_kind f fd) : FnOk P w K mg base CX0 (k + 4) f fd ["kind", "rounds", "formula"] (spD ⟨K, P, w, c⟩ 3 (F (k + 1) .holds_of_kind)) := by
  refine L2.FnOk.imp (sp := spD ⟨K, P, w, c⟩ 3 (defD 3 (b_holds_of_kind (F k)))) ?_ fun vs H Q E q => spD_pure q
  refine fn_D (k := k + 3) (b := b_holds_of_kind (F k)) Fd sc_holds_of_kind (fun ds S r e => e) fun cdv A outer s H E hr => ?_
  have nd := sc_holds_of_kind.nd
  exact (dss_cons (ds_drop (de_call (L.check_rounds.at hr) (by rfl) (da_cons (de_var 1) da_nil)))
    (dss_cons (ds_drop (de_call (L.check_order_formula.at hr) (by rfl) (da_cons (de_var 2) (da_cons (de_tup da_nil) da_nil))))
    (dss_cons (ds_if (dt_cmp op_gtD (de_call (L.rounds_of.at hr) (by rfl) (da_cons (de_var 2) da_nil)) (de_var 1)) dss_no dss_nil)
    (dss_one (ds_ret (de_call (L.kind_truth.at hr) (by rfl) (da_cons (de_var 2) (da_cons (de_var 1) (da_cons (de_lst (da_cons (de_var 0) da_nil)) (da_cons (de_lst da_nil) da_nil))))))))))
theorem sc_telling : FnScope ["one", "other", "rounds", "name", "row"] ["one", "other", "rounds"] (defScope s_telling) := ⟨rfl, rfl, rfl, by decide +kernel, rfl, by decide +kernel, by decide +kernel⟩
theorem st_telling {k : Nat} (T : Tx P w K mg c) (L : Lv P w K mg base c k) {f : Addr} {fd : FuncData} (Fd : Fun K "telling" "telling" s_telling f fd) : FnOk P w K mg base CX0 (k + 4) f fd ["one", "other", "rounds"] (spD ⟨K, P, w, c⟩ 3 (F (k + 1) .telling)) := by
  refine L2.FnOk.imp (sp := spD ⟨K, P, w, c⟩ 3 (defD 5 (b_telling (F k)))) ?_ fun vs H Q E q => spD_pure q
  refine fn_D (k := k + 3) (b := b_telling (F k)) Fd sc_telling (fun ds S r e => e) fun cdv A outer s H E hr => ?_
  have nd := sc_telling.nd
  exact (dss_cons (ds_if (dt_cmp (op_eqDD hr.units) (de_var 0) (de_var 1)) (dss_one (ds_ret de_non)) dss_nil)
    dss_no)
theorem sc_same_kind : FnScope ["word", "other", "rounds", "one", "two"] ["word", "other", "rounds"] (defScope s_same_kind) := ⟨rfl, rfl, rfl, by decide +kernel, rfl, by decide +kernel, by decide +kernel⟩
theorem st_same_kind {k : Nat} (T : Tx P w K mg c) (L : Lv P w K mg base c k) {f : Addr} {fd : FuncData} (Fd : Fun K "same_kind" "same_kind" s_same_kind f fd) : FnOk P w K mg base CX0 (k + 4) f fd ["word", "other", "rounds"] (spD ⟨K, P, w, c⟩ 3 (F (k + 1) .same_kind)) := by
  refine L2.FnOk.imp (sp := spD ⟨K, P, w, c⟩ 3 (defD 5 (b_same_kind (F k)))) ?_ fun vs H Q E q => spD_pure q
  refine fn_D (k := k + 3) (b := b_same_kind (F k)) Fd sc_same_kind (fun ds S r e => e) fun cdv A outer s H E hr => ?_
  have nd := sc_same_kind.nd
  exact (dss_cons (ds_par (i := 3) (j := 4) rfl nd rfl rfl (by decide) rfl rfl (da_cons (de_call (L.kind_of.at hr) (by rfl) (da_cons (de_var 0) (da_cons (de_var 2) da_nil))) (da_cons (de_call (L.kind_of.at hr) (by rfl) (da_cons (de_var 1) (da_cons (de_var 2) da_nil))) da_nil)) rfl)
    (dss_one (ds_ret (de_tup (da_cons (de_cmp (op_eqDD hr.units) (de_var 3) (de_var 4)) (da_cons (de_call (L.telling.at hr) (by rfl) (da_cons (de_var 3) (da_cons (de_var 4) (da_cons (de_var 2) da_nil)))) da_nil))))))
theorem sc__law_cell : FnScope ["script", "k"] ["script", "k"] (defScope s__law_cell) := ⟨rfl, rfl, rfl, by decide +kernel, rfl, by decide +kernel, by decide +kernel⟩
theorem st__law_cell {k : Nat} (T : Tx P w K mg c) (L : Lv P w K mg base c k) {f : Addr} {fd : FuncData} (Fd : Fun K "_law_cell" "_law_cell" s__law_cell f fd) : FnOk P w K mg base CX0 (k + 4) f fd ["script", "k"] (spD ⟨K, P, w, c⟩ 2 (F (k + 1) ._law_cell)) := by
  refine L2.FnOk.imp (sp := spD ⟨K, P, w, c⟩ 2 (defD 2 (b__law_cell (F k)))) ?_ fun vs H Q E q => spD_pure q
  refine fn_D (k := k + 3) (b := b__law_cell (F k)) Fd sc__law_cell (fun ds S r e => e) fun cdv A outer s H E hr => ?_
  have nd := sc__law_cell.nd
  exact (dss_cons (ds_if (dt_cmp op_ltD (de_var 1) (de_callB call_lenD2 (by rfl) T.z_len bt_len (da_cons (de_var 0) da_nil))) (dss_one (ds_ret (de_idx (hu65 hr) (hn_of hr) (de_var 0) (de_var 1)))) dss_nil)
    (dss_one (ds_ret de_int)))
theorem sc__law_digits : FnScope ["script", "first", "last", "found", "k", "c", "n", "turn", "s"] ["script", "first", "last"] (defScope s__law_digits) := ⟨rfl, rfl, rfl, by decide +kernel, rfl, by decide +kernel, by decide +kernel⟩
theorem st__law_digits {k : Nat} (T : Tx P w K mg c) (L : Lv P w K mg base c k) {f : Addr} {fd : FuncData} (Fd : Fun K "_law_digits" "_law_digits" s__law_digits f fd) : FnOk P w K mg base CX0 (k + 4) f fd ["script", "first", "last"] (spD ⟨K, P, w, c⟩ 3 (F (k + 1) ._law_digits)) := by
  refine fn_D (k := k + 3) (b := b__law_digits (F k)) Fd sc__law_digits (fun ds S r e => e) fun cdv A outer s H E hr => ?_
  have nd := sc__law_digits.nd
  exact (dss_cons (ds_set nd (i := 3) rfl (by first | exact Or.inl rfl | exact Or.inr rfl) (de_lst da_nil))
    (dss_cons (ds_for PassesOwn.never rfl (di_rng2 (by rfl) T.z_range (da_cons (de_var 1) (da_cons (de_var 2) da_nil))) (dg_name nd (i := 4) rfl (by first | exact Or.inl rfl | exact Or.inr rfl))
      (dss_cons (ds_set nd (i := 5) rfl (by first | exact Or.inl rfl | exact Or.inr rfl) (de_call (L._law_cell.at hr) (by rfl) (da_cons (de_var 0) (da_cons (de_var 4) da_nil))))
    (dss_cons (ds_if (dt_cmp op_ltD (de_var 5) de_int) (dss_one (ds_set nd (i := 5) rfl (by first | exact Or.inl rfl | exact Or.inr rfl) (de_op op_subD de_int (de_op op_mulD (de_var 5) de_int)))) dss_nil)
    (dss_one (ds_if (dt_cmp op_geD (de_var 5) (de_op op_powD de_int de_int)) (dss_cons (ds_set nd (i := 6) rfl (by first | exact Or.inl rfl | exact Or.inr rfl) (de_var 5))
    (dss_one (ds_for PassesOwn.never rfl (di_rng1 (by rfl) T.z_range (da_cons de_int da_nil)) (dg_name nd (i := 7) rfl (by first | exact Or.inl rfl | exact Or.inr rfl))
      (dss_one (ds_if (dt_cmp op_gtD (de_var 6) de_int) (dss_cons (ds_drop (de_app (de_var 3) (de_op op_modD (de_var 6) de_int)))
    (dss_one (ds_set nd (i := 6) rfl (by first | exact Or.inl rfl | exact Or.inr rfl) (de_op op_fdivD (de_var 6) de_int)))) dss_nil))))) (dss_cons (ds_set nd (i := 8) rfl (by first | exact Or.inl rfl | exact Or.inr rfl) (de_op op_modD (de_op op_addD (de_op op_addD (de_op op_mulD (de_var 5) de_int) (de_op op_mulD (de_callTy call_intD (by rfl) T.z_int bt_int (da_cons (de_op op_addD (de_var 4) de_int) da_nil)) de_int)) de_int) de_int))
    (dss_one (ds_for PassesOwn.never rfl (di_rng1 (by rfl) T.z_range (da_cons de_int da_nil)) (dg_name nd (i := 7) rfl (by first | exact Or.inl rfl | exact Or.inr rfl))
      (dss_cons (ds_set nd (i := 8) rfl (by first | exact Or.inl rfl | exact Or.inr rfl) (de_op op_modD (de_op op_addD (de_op op_addD (de_op op_mulD (de_var 8) de_int) (de_op op_mulD (de_var 7) de_int)) de_int) de_int))
    (dss_one (ds_drop (de_app (de_var 3) (de_op op_modD (de_op op_fdivD (de_var 8) de_int) de_int)))))))))))))
    (dss_one (ds_ret (de_var 3)))))
theorem sc__law_draw : FnScope ["box", "m", "digits", "at"] ["box", "m"] (defScope s__law_draw) := ⟨rfl, rfl, rfl, by decide +kernel, rfl, by decide +kernel, by decide +kernel⟩
theorem st__law_draw {k : Nat} (T : Tx P w K mg c) (L : Lv P w K mg base c k) {f : Addr} {fd : FuncData} (Fd : Fun K "_law_draw" "_law_draw" s__law_draw f fd) : FnOk P w K mg base CX0 (k + 4) f fd ["box", "m"] (spD ⟨K, P, w, c⟩ 2 (F (k + 1) ._law_draw)) := by
  refine L2.FnOk.imp (sp := spD ⟨K, P, w, c⟩ 2 (defD 4 (b__law_draw (F k)))) ?_ fun vs H Q E q => spD_scope q
  refine fn_D (k := k + 3) (b := b__law_draw (F k)) Fd sc__law_draw (fun ds S r e => e) fun cdv A outer s H E hr => ?_
  have nd := sc__law_draw.nd
  exact (dss_cons (ds_asg (de_var 0) (dg_un rfl (dgs_cons (dg_name nd (i := 2) rfl (by first | exact Or.inl rfl | exact Or.inr rfl)) (dgs_cons (dg_name nd (i := 3) rfl (by first | exact Or.inl rfl | exact Or.inr rfl)) dgs_nil))))
    (dss_cons (ds_sub (hu65 hr) (hn_of hr) (de_var 0) de_int (de_op op_addD (de_var 3) de_int))
    (dss_cons (ds_if (dt_cmp op_ltD (de_var 3) (de_callB call_lenD2 (by rfl) T.z_len bt_len (da_cons (de_var 2) da_nil))) (dss_one (ds_ret (de_op op_modD (de_idx (hu65 hr) (hn_of hr) (de_var 2) (de_var 3)) (de_var 1)))) dss_nil)
    (dss_one (ds_ret (de_op op_modD (de_op op_addD (de_op op_addD (de_op op_addD (de_op op_mulD (de_op op_mulD (de_var 3) (de_var 3)) de_int) (de_op op_mulD (de_var 3) de_int)) (de_op op_fdivD (de_var 3) de_int)) de_int) (de_var 1)))))))
theorem sc__law_pick : FnScope ["box", "rows"] ["box", "rows"] (defScope s__law_pick) := ⟨rfl, rfl, rfl, by decide +kernel, rfl, by decide +kernel, by decide +kernel⟩
theorem st__law_pick {k : Nat} (T : Tx P w K mg c) (L : Lv P w K mg base c k) {f : Addr} {fd : FuncData} (Fd : Fun K "_law_pick" "_law_pick" s__law_pick f fd) : FnOk P w K mg base CX0 (k + 4) f fd ["box", "rows"] (spD ⟨K, P, w, c⟩ 2 (F (k + 1) ._law_pick)) := by
  refine L2.FnOk.imp (sp := spD ⟨K, P, w, c⟩ 2 (defD 2 (b__law_pick (F k)))) ?_ fun vs H Q E q => spD_scope q
  refine fn_D (k := k + 3) (b := b__law_pick (F k)) Fd sc__law_pick (fun ds S r e => e) fun cdv A outer s H E hr => ?_
  have nd := sc__law_pick.nd
  exact (dss_one (ds_ret (de_idx (hu65 hr) (hn_of hr) (de_var 1) (de_call (L._law_draw.at hr) (by rfl) (da_cons (de_var 0) (da_cons (de_callB call_lenD2 (by rfl) T.z_len bt_len (da_cons (de_var 1) da_nil)) da_nil))))))
theorem sc__law_same : FnScope ["one", "other"] ["one", "other"] (defScope s__law_same) := ⟨rfl, rfl, rfl, by decide +kernel, rfl, by decide +kernel, by decide +kernel⟩
theorem st__law_same {k : Nat} (T : Tx P w K mg c) (L : Lv P w K mg base c k) {f : Addr} {fd : FuncData} (Fd : Fun K "_law_same" "_law_same" s__law_same f fd) : FnOk P w K mg base CX0 (k + 4) f fd ["one", "other"] (spD ⟨K, P, w, c⟩ 2 (F (k + 1) ._law_same)) := by
  refine L2.FnOk.imp (sp := spD ⟨K, P, w, c⟩ 2 (defD 2 (b__law_same (F k)))) ?_ fun vs H Q E q => spD_pure q
  refine fn_D (k := k + 3) (b := b__law_same (F k)) Fd sc__law_same (fun ds S r e => e) fun cdv A outer s H E hr => ?_
  have nd := sc__law_same.nd
  exact (dss_one (ds_ret (de_cmp (op_eqDD hr.units) (de_callB call_reprD (by rfl) T.z_repr bt_repr (da_cons (de_var 0) da_nil)) (de_callB call_reprD (by rfl) T.z_repr bt_repr (da_cons (de_var 1) da_nil)))))
theorem sc__law_rounds : FnScope ["formula", "inner", "part"] ["formula"] (defScope s__law_rounds) := ⟨rfl, rfl, rfl, by decide +kernel, rfl, by decide +kernel, by decide +kernel⟩
theorem st__law_rounds {k : Nat} (T : Tx P w K mg c) (L : Lv P w K mg base c k) {f : Addr} {fd : FuncData} (Fd : Fun K "_law_rounds" "_law_rounds" s__law_rounds f fd) : FnOk P w K mg base CX0 (k + 4) f fd ["formula"] (spD ⟨K, P, w, c⟩ 1 (F (k + 1) ._law_rounds)) := by
  refine L2.FnOk.imp (sp := spD ⟨K, P, w, c⟩ 1 (defD 3 (b__law_rounds (F k)))) ?_ fun vs H Q E q => spD_pure q
  refine fn_D (k := k + 3) (b := b__law_rounds (F k)) Fd sc__law_rounds (fun ds S r e => e) fun cdv A outer s H E hr => ?_
  have nd := sc__law_rounds.nd
  exact (dss_cons (ds_if (dt_cmp (op_inDD (hu65 hr) (hn_of hr)) (de_idx (hu65 hr) (hn_of hr) (de_var 0) de_int) (de_tup (da_cons (de_strK kc_1) (da_cons (de_strK kc_0) (da_cons (de_strK kc_2) (da_cons (de_strK kc_8) (da_cons (de_strK kc_7) da_nil))))))) (dss_one (ds_ret de_int)) dss_nil)
    (dss_cons (ds_set nd (i := 1) rfl (by first | exact Or.inl rfl | exact Or.inr rfl) (de_callB (call_maxD rfl) (by rfl) T.z_max bt_max (da_cons (de_lc rfl nd (di_seq (de_sl (de_var 0) (do_some de_int) do_none)) (blkOk_by (own := [("part", 2)]) (by kernel_rfl)) (fun _ _ _ _ _ => (dg_name nd (i := 2) rfl (by first | exact Or.inl rfl | exact Or.inr rfl))) (fun _ _ _ _ _ => (dts_one (dt_truth (de_isi (T := "tuple") (de_var 2) (by rfl) T.z_isinstance (by rfl) T.z_tuple bt_tuple hk_tuple)))) (fun _ _ _ _ _ => (de_call (L._law_rounds.at hr) (by rfl) (da_cons (de_var 2) da_nil)))) da_nil)))
    (dss_one (ds_ret (de_op op_addD (de_var 1) (de_callTy call_intD (by rfl) T.z_int bt_int (da_cons (de_cmp (op_inDD (hu65 hr) (hn_of hr)) (de_idx (hu65 hr) (hn_of hr) (de_var 0) de_int) (de_tup (da_cons (de_strK kc_13) (da_cons (de_strK kc_9) da_nil)))) da_nil)))))))
theorem sc__law_sentences : FnScope ["box", "one", "other", "first", "second", "third", "fourth", "fifth"] ["box"] (defScope s__law_sentences) := ⟨rfl, rfl, rfl, by decide +kernel, rfl, by decide +kernel, by decide +kernel⟩
theorem st__law_sentences {k : Nat} (T : Tx P w K mg c) (L : Lv P w K mg base c k) {f : Addr} {fd : FuncData} (Fd : Fun K "_law_sentences" "_law_sentences" s__law_sentences f fd) : FnOk P w K mg base CX0 (k + 4) f fd ["box"] (spD ⟨K, P, w, c⟩ 1 (F (k + 1) ._law_sentences)) := by
  refine fn_D (k := k + 3) (b := b__law_sentences (F k)) Fd sc__law_sentences (fun ds S r e => e) fun cdv A outer s H E hr => ?_
  have nd := sc__law_sentences.nd
  exact (dss_cons (ds_par (i := 1) (j := 2) rfl nd rfl rfl (by decide) rfl rfl (da_cons (de_call (L._law_pick.at hr) (by rfl) (da_cons (de_var 0) (da_cons (de_lst (da_cons (de_strK kc_15) (da_cons (de_strK kc_14) da_nil))) da_nil))) (da_cons (de_call (L._law_pick.at hr) (by rfl) (da_cons (de_var 0) (da_cons (de_lst (da_cons (de_strK kc_15) (da_cons (de_strK kc_14) da_nil))) da_nil))) da_nil)) rfl)
    (dss_cons (ds_set nd (i := 3) rfl (by first | exact Or.inl rfl | exact Or.inr rfl) (de_tup (da_cons (de_strK kc_9) (da_cons (de_strK kc_16) (da_cons (de_tup (da_cons (de_strK kc_2) (da_cons (de_var 1) (da_cons (de_strK kc_16) da_nil)))) da_nil)))))
    (dss_cons (ds_set nd (i := 4) rfl (by first | exact Or.inl rfl | exact Or.inr rfl) (de_tup (da_cons (de_strK kc_13) (da_cons (de_strK kc_16) (da_cons (de_tup (da_cons (de_strK kc_3) (da_cons (de_tup (da_cons (de_strK kc_2) (da_cons (de_var 1) (da_cons (de_strK kc_16) da_nil)))) (da_cons (de_tup (da_cons (de_strK kc_9) (da_cons (de_strK kc_17) (da_cons (de_tup (da_cons (de_strK kc_5) (da_cons (de_tup (da_cons (de_strK kc_1) (da_cons (de_strK kc_16) (da_cons (de_strK kc_17) da_nil)))) (da_cons (de_tup (da_cons (de_strK kc_2) (da_cons (de_var 2) (da_cons (de_strK kc_17) da_nil)))) da_nil)))) da_nil)))) da_nil)))) da_nil)))))
    (dss_cons (ds_set nd (i := 5) rfl (by first | exact Or.inl rfl | exact Or.inr rfl) (de_tup (da_cons (de_strK kc_9) (da_cons (de_strK kc_16) (da_cons (de_tup (da_cons (de_strK kc_5) (da_cons (de_tup (da_cons (de_strK kc_2) (da_cons (de_var 1) (da_cons (de_strK kc_16) da_nil)))) (da_cons (de_tup (da_cons (de_strK kc_13) (da_cons (de_strK kc_17) (da_cons (de_tup (da_cons (de_strK kc_4) (da_cons (de_tup (da_cons (de_strK kc_0) (da_cons (de_strK kc_16) (da_cons (de_strK kc_17) da_nil)))) (da_cons (de_tup (da_cons (de_strK kc_1) (da_cons (de_strK kc_16) (da_cons (de_strK kc_17) da_nil)))) da_nil)))) da_nil)))) da_nil)))) da_nil)))))
    (dss_cons (ds_set nd (i := 6) rfl (by first | exact Or.inl rfl | exact Or.inr rfl) (de_tup (da_cons (de_strK kc_9) (da_cons (de_strK kc_16) (da_cons (de_tup (da_cons (de_strK kc_9) (da_cons (de_strK kc_17) (da_cons (de_tup (da_cons (de_strK kc_5) (da_cons (de_tup (da_cons (de_strK kc_1) (da_cons (de_strK kc_16) (da_cons (de_strK kc_17) da_nil)))) (da_cons (de_tup (da_cons (de_strK kc_2) (da_cons (de_var 2) (da_cons (de_strK kc_16) da_nil)))) da_nil)))) da_nil)))) da_nil)))))
    (dss_cons (ds_set nd (i := 7) rfl (by first | exact Or.inl rfl | exact Or.inr rfl) (de_tup (da_cons (de_strK kc_13) (da_cons (de_strK kc_16) (da_cons (de_tup (da_cons (de_strK kc_13) (da_cons (de_strK kc_17) (da_cons (de_tup (da_cons (de_strK kc_3) (da_cons (de_tup (da_cons (de_strK kc_1) (da_cons (de_strK kc_16) (da_cons (de_strK kc_17) da_nil)))) (da_cons (de_tup (da_cons (de_strK kc_2) (da_cons (de_var 2) (da_cons (de_strK kc_17) da_nil)))) da_nil)))) da_nil)))) da_nil)))))
    (dss_one (ds_ret (de_lst (da_cons (de_var 3) (da_cons (de_var 4) (da_cons (de_var 5) (da_cons (de_var 6) (da_cons (de_var 7) (da_cons (de_tup (da_cons (de_strK kc_5) (da_cons (de_var 3) (da_cons (de_tup (da_cons (de_strK kc_6) (da_cons (de_var 5) da_nil))) da_nil)))) da_nil)))))))))))))))
theorem sc_law : FnScope ["script", "box", "rounds", "most", "word", "other", "kind", "late", "n", "m", "whole", "few", "long", "sentence", "due", "k"] ["script"] (defScope s_law) := ⟨rfl, rfl, rfl, by decide +kernel, rfl, by decide +kernel, by decide +kernel⟩
theorem st_law {k : Nat} (T : Tx P w K mg c) (L : Lv P w K mg base c k) {f : Addr} {fd : FuncData} (Fd : Fun K "law" "law" s_law f fd) : FnOk P w K mg base CX0 (k + 4) f fd ["script"] (spD ⟨K, P, w, c⟩ 1 (F (k + 1) .law)) := by
  refine fn_D (k := k + 3) (b := b_law (F k)) Fd sc_law (fun ds S r e => e) fun cdv A outer s H E hr => ?_
  have nd := sc_law.nd
  exact (dss_cons (ds_set nd (i := 1) rfl (by first | exact Or.inl rfl | exact Or.inr rfl) (de_lst (da_cons (de_call (L._law_digits.at hr) (by rfl) (da_cons (de_var 0) (da_cons de_int (da_cons de_int da_nil)))) (da_cons de_int da_nil))))
    (dss_cons (ds_set nd (i := 2) rfl (by first | exact Or.inl rfl | exact Or.inr rfl) (de_op op_addD de_int (de_call (L._law_draw.at hr) (by rfl) (da_cons (de_var 1) (da_cons de_int da_nil)))))
    (dss_cons (ds_set nd (i := 3) rfl (by first | exact Or.inl rfl | exact Or.inr rfl) (de_idx (hu65 hr) (hn_of hr) (de_lst (da_cons de_int (da_cons de_int (da_cons de_int da_nil)))) (de_var 2)))
    (dss_cons (ds_set nd (i := 4) rfl (by first | exact Or.inl rfl | exact Or.inr rfl) (de_callTy call_tupleD (by rfl) T.z_tuple bt_tuple (da_cons (de_lc rfl nd (di_rng1 (by rfl) T.z_range (da_cons (de_op op_addD de_int (de_call (L._law_draw.at hr) (by rfl) (da_cons (de_var 1) (da_cons de_int da_nil)))) da_nil)) (blkOk_by (own := [("k", 15)]) (by kernel_rfl)) (fun _ _ _ _ _ => (dg_name nd (i := 15) rfl (by first | exact Or.inl rfl | exact Or.inr rfl))) (fun _ _ _ _ _ => dts_nil) (fun _ _ _ _ _ => (de_call (L._law_pick.at hr) (by rfl) (da_cons (de_var 1) (da_cons (de_lst (da_cons (de_strK kc_15) (da_cons (de_strK kc_14) da_nil))) da_nil))))) da_nil)))
    (dss_cons (ds_set nd (i := 5) rfl (by first | exact Or.inl rfl | exact Or.inr rfl) (de_callTy call_tupleD (by rfl) T.z_tuple bt_tuple (da_cons (de_lc rfl nd (di_rng1 (by rfl) T.z_range (da_cons (de_call (L._law_draw.at hr) (by rfl) (da_cons (de_var 1) (da_cons de_int da_nil))) da_nil)) (blkOk_by (own := [("k", 15)]) (by kernel_rfl)) (fun _ _ _ _ _ => (dg_name nd (i := 15) rfl (by first | exact Or.inl rfl | exact Or.inr rfl))) (fun _ _ _ _ _ => dts_nil) (fun _ _ _ _ _ => (de_call (L._law_pick.at hr) (by rfl) (da_cons (de_var 1) (da_cons (de_lst (da_cons (de_strK kc_15) (da_cons (de_strK kc_14) da_nil))) da_nil))))) da_nil)))
    (dss_cons (ds_par (i := 6) (j := 7) rfl nd rfl rfl (by decide) rfl rfl (da_cons (de_call (L.kind_of.at hr) (by rfl) (da_cons (de_var 4) (da_cons (de_var 2) da_nil))) (da_cons (de_call (L.kind_of.at hr) (by rfl) (da_cons (de_var 5) (da_cons (de_var 2) da_nil))) da_nil)) rfl)
    (dss_cons (ds_par (i := 8) (j := 9) rfl nd rfl rfl (by decide) rfl rfl (da_cons (de_call (L._law_pick.at hr) (by rfl) (da_cons (de_var 1) (da_cons (de_lst (da_cons de_int (da_cons de_int (da_cons de_int (da_cons de_int (da_cons de_int (da_cons (de_op op_powD de_int de_int) (da_cons (de_op op_addD (de_op op_powD de_int de_int) de_int) da_nil)))))))) da_nil))) (da_cons (de_call (L._law_pick.at hr) (by rfl) (da_cons (de_var 1) (da_cons (de_lst (da_cons de_int (da_cons de_int (da_cons de_int (da_cons de_int (da_cons (de_op op_powD de_int de_int) da_nil)))))) da_nil))) da_nil)) rfl)
    (dss_cons (ds_set nd (i := 10) rfl (by first | exact Or.inl rfl | exact Or.inr rfl) (de_call (L.kind_power.at hr) (by rfl) (da_cons (de_var 6) (da_cons (de_var 2) (da_cons (de_op op_addD (de_var 8) (de_var 9)) da_nil)))))
    (dss_cons (ds_if (dt_cmp (op_neDD hr.units) (de_var 10) (de_call (L.kind_sum.at hr) (by rfl) (da_cons (de_call (L.kind_power.at hr) (by rfl) (da_cons (de_var 6) (da_cons (de_var 2) (da_cons (de_var 8) da_nil)))) (da_cons (de_call (L.kind_power.at hr) (by rfl) (da_cons (de_var 6) (da_cons (de_var 2) (da_cons (de_var 9) da_nil)))) (da_cons (de_var 2) da_nil))))) (dss_one (ds_ret de_bl)) dss_nil)
    (dss_cons (ds_set nd (i := 11) rfl (by first | exact Or.inl rfl | exact Or.inr rfl) (de_callB (call_minD rfl) (by rfl) T.z_min bt_min (da_cons (de_var 8) (da_cons (de_var 3) da_nil))))
    (dss_cons (ds_if (dpt (dw_or (dt_cmp (op_neDD hr.units) (de_call (L.kind_power.at hr) (by rfl) (da_cons (de_var 6) (da_cons (de_var 2) (da_cons (de_var 8) da_nil)))) (de_call (L.kind_of.at hr) (by rfl) (da_cons (de_op op_mulD (de_var 4) (de_var 11)) (da_cons (de_var 2) da_nil)))) (dw_or1 (dt_cmp (op_neDD hr.units) (de_call (L.kind_power.at hr) (by rfl) (da_cons (de_var 6) (da_cons (de_var 2) (da_cons de_int da_nil)))) (de_call (L.kind_of.at hr) (by rfl) (da_cons (de_tup da_nil) (da_cons (de_var 2) da_nil))))))) (dss_one (ds_ret de_bl)) dss_nil)
    (dss_cons (ds_if (dt_cmp (op_neDD hr.units) (de_call (L.kind_power.at hr) (by rfl) (da_cons (de_call (L.kind_power.at hr) (by rfl) (da_cons (de_var 6) (da_cons (de_var 2) (da_cons de_int da_nil)))) (da_cons (de_var 2) (da_cons (de_var 8) da_nil)))) (de_call (L.kind_power.at hr) (by rfl) (da_cons (de_var 6) (da_cons (de_var 2) (da_cons (de_op op_mulD de_int (de_var 8)) da_nil))))) (dss_one (ds_ret de_bl)) dss_nil)
    (dss_cons (ds_set nd (i := 12) rfl (by first | exact Or.inl rfl | exact Or.inr rfl) (de_call (L.kind_sum.at hr) (by rfl) (da_cons (de_call (L.kind_power.at hr) (by rfl) (da_cons (de_var 6) (da_cons (de_var 2) (da_cons (de_var 8) da_nil)))) (da_cons (de_var 7) (da_cons (de_var 2) da_nil)))))
    (dss_cons (ds_if (dt_cmp (op_neDD hr.units) (de_var 12) (de_call (L.kind_of.at hr) (by rfl) (da_cons (de_op op_addD (de_op op_mulD (de_var 4) (de_var 11)) (de_var 5)) (da_cons (de_var 2) da_nil)))) (dss_one (ds_ret de_bl)) dss_nil)
    (dss_cons (ds_if (dpt (dw_and (dt_cmp op_gtD (de_var 8) de_int) (dw_and (dt_cmp op_ltD (de_var 11) (de_var 8)) (dw_and1 (dt_cmp op_leD (de_op op_addD (de_op op_mulD (de_callB call_lenD2 (by rfl) T.z_len bt_len (da_cons (de_var 4) da_nil)) (de_op op_addD (de_var 11) de_int)) (de_callB call_lenD2 (by rfl) T.z_len bt_len (da_cons (de_var 5) da_nil))) de_int))))) (dss_one (ds_if (dt_cmp (op_neDD hr.units) (de_call (L.same_kind.at hr) (by rfl) (da_cons (de_op op_addD (de_op op_mulD (de_var 4) (de_var 11)) (de_var 5)) (da_cons (de_op op_addD (de_op op_mulD (de_var 4) (de_op op_addD (de_var 11) de_int)) (de_var 5)) (da_cons (de_var 2) da_nil)))) (de_tup (da_cons de_bl (da_cons de_non da_nil)))) (dss_one (ds_ret de_bl)) dss_nil)) dss_nil)
    (dss_cons (ds_for PassesOwn.never rfl (di_seq (de_call (L._law_sentences.at hr) (by rfl) (da_cons (de_var 1) da_nil))) (dg_name nd (i := 13) rfl (by first | exact Or.inl rfl | exact Or.inr rfl))
      (dss_one (ds_if (dt_cmp op_leD (de_call (L._law_rounds.at hr) (by rfl) (da_cons (de_var 13) da_nil)) (de_var 2)) (dss_cons (ds_set nd (i := 14) rfl (by first | exact Or.inl rfl | exact Or.inr rfl) (de_call (L.holds_of_word.at hr) (by rfl) (da_cons (de_op op_addD (de_op op_mulD (de_var 4) (de_var 11)) (de_var 5)) (da_cons (de_var 13) da_nil))))
    (dss_cons (ds_if (dt_not (dt_truth (de_call (L._law_same.at hr) (by rfl) (da_cons (de_call (L.holds_of_kind.at hr) (by rfl) (da_cons (de_var 12) (da_cons (de_var 2) (da_cons (de_var 13) da_nil)))) (da_cons (de_var 14) da_nil))))) (dss_one (ds_ret de_bl)) dss_nil)
    (dss_one (ds_if (dt_cmp (op_eqDD hr.units) (de_call (L.holds_of_kind.at hr) (by rfl) (da_cons (de_var 12) (da_cons (de_var 2) (da_cons (de_tup (da_cons (de_strK kc_6) (da_cons (de_var 13) da_nil))) da_nil)))) (de_var 14)) (dss_one (ds_ret de_bl)) dss_nil)))) dss_nil)))
    (dss_one (ds_ret de_bl))))))))))))))))))
end
end K39

set_option Elab.async false
set_option linter.all false
set_option maxRecDepth 100000
set_option maxHeartbeats 4000000
namespace K39
open PySem PySem.Spec L2 DL
open PyProof.Rows hiding St
structure Df (K : PySem.W.Frag) (mg : Str → Option Value) (x : Str) (st : Stmt) (ps : List Str) : Prop where
  ex : ∃ f fd, Fun K x x st f fd ∧ mg x = some (.ref f) ∧ Binds K fd ps []
structure DfM (K : PySem.W.Frag) (c : Str → Option Addr) (cn m qual : Str) (st : Stmt) (ps : List Str) : Prop where
  ex : ∃ C f fd, c cn = some C ∧ Cls K C ∧ Meth K C m f ∧ Fun K m qual st f fd ∧ Binds K fd ps []
structure DfI (K : PySem.W.Frag) (mg : Str → Option Value) (c : Str → Option Addr) (cn qual : Str) (st : Stmt) (ps : List Str) : Prop where
  ex : ∃ C f fd, c cn = some C ∧ mg cn = some (.ref C) ∧ Mk K C f ∧ Fun K "__init__" qual st f fd ∧ Binds K fd ps []
structure Dfs (K : PySem.W.Frag) (mg : Str → Option Value) (c : Str → Option Addr) : Prop where
  is_name : Df K mg "is_name" s_is_name ["text"]
  check_word : Df K mg "check_word" s_check_word ["word"]
  check_rounds : Df K mg "check_rounds" s_check_rounds ["rounds"]
  check_order_formula : Df K mg "check_order_formula" s_check_order_formula ["formula", "known"]
  rounds_of : Df K mg "rounds_of" s_rounds_of ["formula"]
  word_truth : Df K mg "word_truth" s_word_truth ["word", "formula", "places"]
  with_place : Df K mg "with_place" s_with_place ["places", "name", "place"]
  joined_truth : Df K mg "joined_truth" s_joined_truth ["word", "truths"]
  holds_of_word : Df K mg "holds_of_word" s_holds_of_word ["word", "formula"]
  kind_of : Df K mg "kind_of" s_kind_of ["word", "rounds"]
  known_kind : Df K mg "known_kind" s_known_kind ["word", "rounds", "known"]
  lessened : Df K mg "lessened" s_lessened ["kind", "rounds"]
  Adder_init : DfI K mg c "Adder" "Adder.__init__" s_Adder_init ["self"]
  Adder_added : DfM K c "Adder" "added" "Adder.added" s_Adder_added ["self", "one", "other", "rounds"]
  kind_sum : Df K mg "kind_sum" s_kind_sum ["one", "other", "rounds"]
  kind_power : Df K mg "kind_power" s_kind_power ["kind", "rounds", "times"]
  kind_truth : Df K mg "kind_truth" s_kind_truth ["formula", "rounds", "pieces", "points"]
  place_of : Df K mg "place_of" s_place_of ["points", "name"]
  freed : Df K mg "freed" s_freed ["points", "name"]
  choices : Df K mg "choices" s_choices ["name", "rounds", "pieces", "points"]
  holds_of_kind : Df K mg "holds_of_kind" s_holds_of_kind ["kind", "rounds", "formula"]
  telling : Df K mg "telling" s_telling ["one", "other", "rounds"]
  same_kind : Df K mg "same_kind" s_same_kind ["word", "other", "rounds"]
  _law_cell : Df K mg "_law_cell" s__law_cell ["script", "k"]
  _law_digits : Df K mg "_law_digits" s__law_digits ["script", "first", "last"]
  _law_draw : Df K mg "_law_draw" s__law_draw ["box", "m"]
  _law_pick : Df K mg "_law_pick" s__law_pick ["box", "rows"]
  _law_same : Df K mg "_law_same" s__law_same ["one", "other"]
  _law_rounds : Df K mg "_law_rounds" s__law_rounds ["formula"]
  _law_sentences : Df K mg "_law_sentences" s__law_sentences ["box"]
  law : Df K mg "law" s_law ["script"]
theorem Df.has {P : Program} {w : World} {K : PySem.W.Frag} {mg : Str → Option Value} {base : Heap} {c : Str → Option Addr} {x : Str} {st : Stmt} {ps : List Str} {k n : Nat} {h : List D → M D} (d : Df K mg x st ps) (F : ∀ {f : Addr} {fd : FuncData}, Fun K x x st f fd → FnOk P w K mg base CX0 k f fd ps (spD ⟨K, P, w, c⟩ n h)) : Has P w K mg base c x k n h := by
  obtain ⟨f, fd, h1, h2, h3⟩ := d.ex
  exact ⟨f, fd, ps, F h1, h2, h1.kp, h3⟩
theorem DfM.has {P : Program} {w : World} {K : PySem.W.Frag} {mg : Str → Option Value} {base : Heap} {c : Str → Option Addr} {cn m qual : Str} {st : Stmt} {ps : List Str} {k n : Nat} {h : List D → M D} (d : DfM K c cn m qual st ps) (F : ∀ {f : Addr} {fd : FuncData}, Fun K m qual st f fd → FnOk P w K mg base CX0 k f fd ps (spD ⟨K, P, w, c⟩ n h)) : HasM P w K mg base c cn m k n h := by
  obtain ⟨C, f, fd, h0, h1, h2, h3, h4⟩ := d.ex
  exact ⟨C, f, fd, ps, h0, h1, h2, F h3, h4⟩
theorem DfI.has {P : Program} {w : World} {K : PySem.W.Frag} {mg : Str → Option Value} {base : Heap} {c : Str → Option Addr} {cn qual : Str} {st : Stmt} {ps : List Str} {k n : Nat} {h : List D → M D} (d : DfI K mg c cn qual st ps) (F : ∀ {f : Addr} {fd : FuncData}, Fun K "__init__" qual st f fd → FnOk P w K mg base CX0 k f fd ps (spD ⟨K, P, w, c⟩ n h)) : HasI P w K mg base c cn k n h := by
  obtain ⟨C, f, fd, h0, h1, h2, h3, h4⟩ := d.ex
  exact ⟨C, f, fd, ps, h0, h1, h2, F h3, h4⟩
theorem lv {P : Program} {w : World} {K : PySem.W.Frag} {mg : Str → Option Value} {base : Heap} {c : Str → Option Addr} (T : Tx P w K mg c) (D : Dfs K mg c) : ∀ k : Nat, Lv P w K mg base c k
  | 0 => ⟨D.Adder_init.has fun F => st_Adder_init T F, D.is_name.has fun _ => FnOk.zero (fun _ _ => rfl) _, D.check_word.has fun _ => FnOk.zero (fun _ _ => rfl) _, D.check_rounds.has fun _ => FnOk.zero (fun _ _ => rfl) _, D.check_order_formula.has fun _ => FnOk.zero (fun _ _ => rfl) _, D.rounds_of.has fun _ => FnOk.zero (fun _ _ => rfl) _, D.word_truth.has fun _ => FnOk.zero (fun _ _ => rfl) _, D.with_place.has fun _ => FnOk.zero (fun _ _ => rfl) _, D.joined_truth.has fun _ => FnOk.zero (fun _ _ => rfl) _, D.holds_of_word.has fun _ => FnOk.zero (fun _ _ => rfl) _, D.kind_of.has fun _ => FnOk.zero (fun _ _ => rfl) _, D.known_kind.has fun _ => FnOk.zero (fun _ _ => rfl) _, D.lessened.has fun _ => FnOk.zero (fun _ _ => rfl) _, D.Adder_added.has fun _ => FnOk.zero (fun _ _ => rfl) _, D.kind_sum.has fun _ => FnOk.zero (fun _ _ => rfl) _, D.kind_power.has fun _ => FnOk.zero (fun _ _ => rfl) _, D.kind_truth.has fun _ => FnOk.zero (fun _ _ => rfl) _, D.place_of.has fun _ => FnOk.zero (fun _ _ => rfl) _, D.freed.has fun _ => FnOk.zero (fun _ _ => rfl) _, D.choices.has fun _ => FnOk.zero (fun _ _ => rfl) _, D.holds_of_kind.has fun _ => FnOk.zero (fun _ _ => rfl) _, D.telling.has fun _ => FnOk.zero (fun _ _ => rfl) _, D.same_kind.has fun _ => FnOk.zero (fun _ _ => rfl) _, D._law_cell.has fun _ => FnOk.zero (fun _ _ => rfl) _, D._law_digits.has fun _ => FnOk.zero (fun _ _ => rfl) _, D._law_draw.has fun _ => FnOk.zero (fun _ _ => rfl) _, D._law_pick.has fun _ => FnOk.zero (fun _ _ => rfl) _, D._law_same.has fun _ => FnOk.zero (fun _ _ => rfl) _, D._law_rounds.has fun _ => FnOk.zero (fun _ _ => rfl) _, D._law_sentences.has fun _ => FnOk.zero (fun _ _ => rfl) _, D.law.has fun _ => FnOk.zero (fun _ _ => rfl) _⟩
  | k + 1 => ⟨D.Adder_init.has fun F => st_Adder_init T F, D.is_name.has fun F => st_is_name T (lv T D k) F, D.check_word.has fun F => st_check_word T (lv T D k) F, D.check_rounds.has fun F => st_check_rounds T (lv T D k) F, D.check_order_formula.has fun F => st_check_order_formula T (lv T D k) F, D.rounds_of.has fun F => st_rounds_of T (lv T D k) F, D.word_truth.has fun F => st_word_truth T (lv T D k) F, D.with_place.has fun F => st_with_place T (lv T D k) F, D.joined_truth.has fun F => st_joined_truth T (lv T D k) F, D.holds_of_word.has fun F => st_holds_of_word T (lv T D k) F, D.kind_of.has fun F => st_kind_of T (lv T D k) F, D.known_kind.has fun F => st_known_kind T (lv T D k) F, D.lessened.has fun F => st_lessened T (lv T D k) F, D.Adder_added.has fun F => st_Adder_added T (lv T D k) F, D.kind_sum.has fun F => st_kind_sum T (lv T D k) F, D.kind_power.has fun F => st_kind_power T (lv T D k) F, D.kind_truth.has fun F => st_kind_truth T (lv T D k) F, D.place_of.has fun F => st_place_of T (lv T D k) F, D.freed.has fun F => st_freed T (lv T D k) F, D.choices.has fun F => st_choices T (lv T D k) F, D.holds_of_kind.has fun F => st_holds_of_kind T (lv T D k) F, D.telling.has fun F => st_telling T (lv T D k) F, D.same_kind.has fun F => st_same_kind T (lv T D k) F, D._law_cell.has fun F => st__law_cell T (lv T D k) F, D._law_digits.has fun F => st__law_digits T (lv T D k) F, D._law_draw.has fun F => st__law_draw T (lv T D k) F, D._law_pick.has fun F => st__law_pick T (lv T D k) F, D._law_same.has fun F => st__law_same T (lv T D k) F, D._law_rounds.has fun F => st__law_rounds T (lv T D k) F, D._law_sentences.has fun F => st__law_sentences T (lv T D k) F, D.law.has fun F => st_law T (lv T D k) F⟩
def spLaw (K : PySem.W.Frag) : Sp := fun vs H Q _ => ∃ (a : Addr) (ns : List Int), vs = [.ref a] ∧ ((∃ o, H a = some (.frz o (.lst (ns.map V.int)))) ∨ ∀ H', SqL K H' a (ns.map V.int)) ∧ ns.length ≤ 63 ∧ ∀ H', Q (.bl true) H'
theorem rvs_ints (g : Gm) (H : Hp) (η : List Addr) : ∀ ns : List Int, RVs g H η (ns.map D.int) (ns.map V.int)
  | [] => RVs.nil
  | n :: r => RVs.cons (by simp only [RV]) (rvs_ints g H η r)
theorem all_mk {l : PySem.W.OpenLaw} {w : World} {K : PySem.W.Frag} {h : Heap} {mg : Str → Option Value} {fa : Addr} (LAW : ∀ ns : List Int, ns.length ≤ 63 → ∃ S', F 40 .law [.fro (ns.map D.int)] [] = some (.bl true, S')) (X : K.In h) (G : h.Ns mainGlobals mg) (hfa : mg "law" = some (.ref fa))
    {C_Adder : Addr}
    {od_0 an_0 : Option Addr} {sl_0 : Array (Option Value)} {oc_0 kV_0 dc_0 pm_0 cd_0 ct_0 : Value} {f_0 : Addr}
    {od_1 an_1 : Option Addr} {sl_1 : Array (Option Value)} {oc_1 kV_1 dc_1 pm_1 cd_1 ct_1 : Value} {f_1 : Addr}
    {od_2 an_2 : Option Addr} {sl_2 : Array (Option Value)} {oc_2 kV_2 dc_2 pm_2 cd_2 ct_2 : Value} {f_2 : Addr}
    {od_3 an_3 : Option Addr} {sl_3 : Array (Option Value)} {oc_3 kV_3 dc_3 pm_3 cd_3 ct_3 : Value} {f_3 : Addr}
    {od_4 an_4 : Option Addr} {sl_4 : Array (Option Value)} {oc_4 kV_4 dc_4 pm_4 cd_4 ct_4 : Value} {f_4 : Addr}
    {od_5 an_5 : Option Addr} {sl_5 : Array (Option Value)} {oc_5 kV_5 dc_5 pm_5 cd_5 ct_5 : Value} {f_5 : Addr}
    {od_6 an_6 : Option Addr} {sl_6 : Array (Option Value)} {oc_6 kV_6 dc_6 pm_6 cd_6 ct_6 : Value} {f_6 : Addr}
    {od_7 an_7 : Option Addr} {sl_7 : Array (Option Value)} {oc_7 kV_7 dc_7 pm_7 cd_7 ct_7 : Value} {f_7 : Addr}
    {od_8 an_8 : Option Addr} {sl_8 : Array (Option Value)} {oc_8 kV_8 dc_8 pm_8 cd_8 ct_8 : Value} {f_8 : Addr}
    {od_9 an_9 : Option Addr} {sl_9 : Array (Option Value)} {oc_9 kV_9 dc_9 pm_9 cd_9 ct_9 : Value} {f_9 : Addr}
    {od_10 an_10 : Option Addr} {sl_10 : Array (Option Value)} {oc_10 kV_10 dc_10 pm_10 cd_10 ct_10 : Value} {f_10 : Addr}
    {od_11 an_11 : Option Addr} {sl_11 : Array (Option Value)} {oc_11 kV_11 dc_11 pm_11 cd_11 ct_11 : Value} {f_11 : Addr}
    {od_12 an_12 : Option Addr} {sl_12 : Array (Option Value)} {oc_12 kV_12 dc_12 pm_12 cd_12 ct_12 : Value} {f_12 : Addr}
    {od_13 an_13 : Option Addr} {sl_13 : Array (Option Value)} {oc_13 kV_13 dc_13 pm_13 cd_13 ct_13 : Value} {f_13 : Addr}
    {od_14 an_14 : Option Addr} {sl_14 : Array (Option Value)} {oc_14 kV_14 dc_14 pm_14 cd_14 ct_14 : Value} {f_14 : Addr}
    {od_15 an_15 : Option Addr} {sl_15 : Array (Option Value)} {oc_15 kV_15 dc_15 pm_15 cd_15 ct_15 : Value} {f_15 : Addr}
    {od_16 an_16 : Option Addr} {sl_16 : Array (Option Value)} {oc_16 kV_16 dc_16 pm_16 cd_16 ct_16 : Value} {f_16 : Addr}
    {od_17 an_17 : Option Addr} {sl_17 : Array (Option Value)} {oc_17 kV_17 dc_17 pm_17 cd_17 ct_17 : Value} {f_17 : Addr}
    {od_18 an_18 : Option Addr} {sl_18 : Array (Option Value)} {oc_18 kV_18 dc_18 pm_18 cd_18 ct_18 : Value} {f_18 : Addr}
    {od_19 an_19 : Option Addr} {sl_19 : Array (Option Value)} {oc_19 kV_19 dc_19 pm_19 cd_19 ct_19 : Value} {f_19 : Addr}
    {od_20 an_20 : Option Addr} {sl_20 : Array (Option Value)} {oc_20 kV_20 dc_20 pm_20 cd_20 ct_20 : Value} {f_20 : Addr}
    {od_21 an_21 : Option Addr} {sl_21 : Array (Option Value)} {oc_21 kV_21 dc_21 pm_21 cd_21 ct_21 : Value} {f_21 : Addr}
    {od_22 an_22 : Option Addr} {sl_22 : Array (Option Value)} {oc_22 kV_22 dc_22 pm_22 cd_22 ct_22 : Value} {f_22 : Addr}
    {od_23 an_23 : Option Addr} {sl_23 : Array (Option Value)} {oc_23 kV_23 dc_23 pm_23 cd_23 ct_23 : Value} {f_23 : Addr}
    {od_24 an_24 : Option Addr} {sl_24 : Array (Option Value)} {oc_24 kV_24 dc_24 pm_24 cd_24 ct_24 : Value} {f_24 : Addr}
    {od_25 an_25 : Option Addr} {sl_25 : Array (Option Value)} {oc_25 kV_25 dc_25 pm_25 cd_25 ct_25 : Value} {f_25 : Addr}
    {od_26 an_26 : Option Addr} {sl_26 : Array (Option Value)} {oc_26 kV_26 dc_26 pm_26 cd_26 ct_26 : Value} {f_26 : Addr}
    {od_27 an_27 : Option Addr} {sl_27 : Array (Option Value)} {oc_27 kV_27 dc_27 pm_27 cd_27 ct_27 : Value} {f_27 : Addr}
    {od_28 an_28 : Option Addr} {sl_28 : Array (Option Value)} {oc_28 kV_28 dc_28 pm_28 cd_28 ct_28 : Value} {f_28 : Addr}
    {od_29 an_29 : Option Addr} {sl_29 : Array (Option Value)} {oc_29 kV_29 dc_29 pm_29 cd_29 ct_29 : Value} {f_29 : Addr}
    {od_30 an_30 : Option Addr} {sl_30 : Array (Option Value)} {oc_30 kV_30 dc_30 pm_30 cd_30 ct_30 : Value} {f_30 : Addr}
    {t_FIGURES : Tok}
    {t_KINDS_MOST : Tok}
    {t_LONG : Tok}
    {t_ROUNDS_MOST : Tok}
    {t_SMALL : Tok}
    {t0_TURNS t1_TURNS : Tok} {p_TURNS : Addr} {d_TURNS : Option Addr} {m_TURNS : Nat} {o_TURNS : Array (Option Value)}
    {t0_WORDS t1_WORDS t2_WORDS t3_WORDS t4_WORDS t5_WORDS t6_WORDS t7_WORDS t8_WORDS : Tok} {p_WORDS : Addr} {d_WORDS : Option Addr} {m_WORDS : Nat} {o_WORDS : Array (Option Value)}
    (aC_Adder : PySem.W.nsIn K mainGlobals "Adder" = some (some (.ref C_Adder)))
    (a_0 : PySem.W.nsIn K mainGlobals "is_name" = some (some (.ref f_0)))
    (l_0 : K.lookup f_0 = some ⟨oc_0, od_0, .func (PySem.W.fnOf "is_name" "is_name" (defArgs s_is_name) (defBody s_is_name) (defScope s_is_name) .none kV_0 dc_0 pm_0 an_0 cd_0 ct_0), sl_0⟩)
    (c_0 : PySem.W.codeIn K cd_0 "is_name" = true)
    (k_0 : PySem.W.keepIn K (.ref f_0) = true)
    (a_1 : PySem.W.nsIn K mainGlobals "check_word" = some (some (.ref f_1)))
    (l_1 : K.lookup f_1 = some ⟨oc_1, od_1, .func (PySem.W.fnOf "check_word" "check_word" (defArgs s_check_word) (defBody s_check_word) (defScope s_check_word) .none kV_1 dc_1 pm_1 an_1 cd_1 ct_1), sl_1⟩)
    (c_1 : PySem.W.codeIn K cd_1 "check_word" = true)
    (k_1 : PySem.W.keepIn K (.ref f_1) = true)
    (a_2 : PySem.W.nsIn K mainGlobals "check_rounds" = some (some (.ref f_2)))
    (l_2 : K.lookup f_2 = some ⟨oc_2, od_2, .func (PySem.W.fnOf "check_rounds" "check_rounds" (defArgs s_check_rounds) (defBody s_check_rounds) (defScope s_check_rounds) .none kV_2 dc_2 pm_2 an_2 cd_2 ct_2), sl_2⟩)
    (c_2 : PySem.W.codeIn K cd_2 "check_rounds" = true)
    (k_2 : PySem.W.keepIn K (.ref f_2) = true)
    (a_3 : PySem.W.nsIn K mainGlobals "check_order_formula" = some (some (.ref f_3)))
    (l_3 : K.lookup f_3 = some ⟨oc_3, od_3, .func (PySem.W.fnOf "check_order_formula" "check_order_formula" (defArgs s_check_order_formula) (defBody s_check_order_formula) (defScope s_check_order_formula) .none kV_3 dc_3 pm_3 an_3 cd_3 ct_3), sl_3⟩)
    (c_3 : PySem.W.codeIn K cd_3 "check_order_formula" = true)
    (k_3 : PySem.W.keepIn K (.ref f_3) = true)
    (a_4 : PySem.W.nsIn K mainGlobals "rounds_of" = some (some (.ref f_4)))
    (l_4 : K.lookup f_4 = some ⟨oc_4, od_4, .func (PySem.W.fnOf "rounds_of" "rounds_of" (defArgs s_rounds_of) (defBody s_rounds_of) (defScope s_rounds_of) .none kV_4 dc_4 pm_4 an_4 cd_4 ct_4), sl_4⟩)
    (c_4 : PySem.W.codeIn K cd_4 "rounds_of" = true)
    (k_4 : PySem.W.keepIn K (.ref f_4) = true)
    (a_5 : PySem.W.nsIn K mainGlobals "word_truth" = some (some (.ref f_5)))
    (l_5 : K.lookup f_5 = some ⟨oc_5, od_5, .func (PySem.W.fnOf "word_truth" "word_truth" (defArgs s_word_truth) (defBody s_word_truth) (defScope s_word_truth) .none kV_5 dc_5 pm_5 an_5 cd_5 ct_5), sl_5⟩)
    (c_5 : PySem.W.codeIn K cd_5 "word_truth" = true)
    (k_5 : PySem.W.keepIn K (.ref f_5) = true)
    (a_6 : PySem.W.nsIn K mainGlobals "with_place" = some (some (.ref f_6)))
    (l_6 : K.lookup f_6 = some ⟨oc_6, od_6, .func (PySem.W.fnOf "with_place" "with_place" (defArgs s_with_place) (defBody s_with_place) (defScope s_with_place) .none kV_6 dc_6 pm_6 an_6 cd_6 ct_6), sl_6⟩)
    (c_6 : PySem.W.codeIn K cd_6 "with_place" = true)
    (k_6 : PySem.W.keepIn K (.ref f_6) = true)
    (a_7 : PySem.W.nsIn K mainGlobals "joined_truth" = some (some (.ref f_7)))
    (l_7 : K.lookup f_7 = some ⟨oc_7, od_7, .func (PySem.W.fnOf "joined_truth" "joined_truth" (defArgs s_joined_truth) (defBody s_joined_truth) (defScope s_joined_truth) .none kV_7 dc_7 pm_7 an_7 cd_7 ct_7), sl_7⟩)
    (c_7 : PySem.W.codeIn K cd_7 "joined_truth" = true)
    (k_7 : PySem.W.keepIn K (.ref f_7) = true)
    (a_8 : PySem.W.nsIn K mainGlobals "holds_of_word" = some (some (.ref f_8)))
    (l_8 : K.lookup f_8 = some ⟨oc_8, od_8, .func (PySem.W.fnOf "holds_of_word" "holds_of_word" (defArgs s_holds_of_word) (defBody s_holds_of_word) (defScope s_holds_of_word) .none kV_8 dc_8 pm_8 an_8 cd_8 ct_8), sl_8⟩)
    (c_8 : PySem.W.codeIn K cd_8 "holds_of_word" = true)
    (k_8 : PySem.W.keepIn K (.ref f_8) = true)
    (a_9 : PySem.W.nsIn K mainGlobals "kind_of" = some (some (.ref f_9)))
    (l_9 : K.lookup f_9 = some ⟨oc_9, od_9, .func (PySem.W.fnOf "kind_of" "kind_of" (defArgs s_kind_of) (defBody s_kind_of) (defScope s_kind_of) .none kV_9 dc_9 pm_9 an_9 cd_9 ct_9), sl_9⟩)
    (c_9 : PySem.W.codeIn K cd_9 "kind_of" = true)
    (k_9 : PySem.W.keepIn K (.ref f_9) = true)
    (a_10 : PySem.W.nsIn K mainGlobals "known_kind" = some (some (.ref f_10)))
    (l_10 : K.lookup f_10 = some ⟨oc_10, od_10, .func (PySem.W.fnOf "known_kind" "known_kind" (defArgs s_known_kind) (defBody s_known_kind) (defScope s_known_kind) .none kV_10 dc_10 pm_10 an_10 cd_10 ct_10), sl_10⟩)
    (c_10 : PySem.W.codeIn K cd_10 "known_kind" = true)
    (k_10 : PySem.W.keepIn K (.ref f_10) = true)
    (a_11 : PySem.W.nsIn K mainGlobals "lessened" = some (some (.ref f_11)))
    (l_11 : K.lookup f_11 = some ⟨oc_11, od_11, .func (PySem.W.fnOf "lessened" "lessened" (defArgs s_lessened) (defBody s_lessened) (defScope s_lessened) .none kV_11 dc_11 pm_11 an_11 cd_11 ct_11), sl_11⟩)
    (c_11 : PySem.W.codeIn K cd_11 "lessened" = true)
    (k_11 : PySem.W.keepIn K (.ref f_11) = true)
    (a_12 : PySem.W.findIn K (.ref C_Adder) "__init__" = some (some (.ref f_12)))
    (i_12 : PySem.W.isFn K (.ref f_12) = true)
    (l_12 : K.lookup f_12 = some ⟨oc_12, od_12, .func (PySem.W.fnOf "__init__" "Adder.__init__" (defArgs s_Adder_init) (defBody s_Adder_init) (defScope s_Adder_init) .none kV_12 dc_12 pm_12 an_12 cd_12 ct_12), sl_12⟩)
    (c_12 : PySem.W.codeIn K cd_12 "Adder.__init__" = true)
    (k_12 : PySem.W.keepIn K (.ref f_12) = true)
    (a_13 : PySem.W.findIn K (.ref C_Adder) "added" = some (some (.ref f_13)))
    (i_13 : PySem.W.isFn K (.ref f_13) = true)
    (l_13 : K.lookup f_13 = some ⟨oc_13, od_13, .func (PySem.W.fnOf "added" "Adder.added" (defArgs s_Adder_added) (defBody s_Adder_added) (defScope s_Adder_added) .none kV_13 dc_13 pm_13 an_13 cd_13 ct_13), sl_13⟩)
    (c_13 : PySem.W.codeIn K cd_13 "Adder.added" = true)
    (k_13 : PySem.W.keepIn K (.ref f_13) = true)
    (a_14 : PySem.W.nsIn K mainGlobals "kind_sum" = some (some (.ref f_14)))
    (l_14 : K.lookup f_14 = some ⟨oc_14, od_14, .func (PySem.W.fnOf "kind_sum" "kind_sum" (defArgs s_kind_sum) (defBody s_kind_sum) (defScope s_kind_sum) .none kV_14 dc_14 pm_14 an_14 cd_14 ct_14), sl_14⟩)
    (c_14 : PySem.W.codeIn K cd_14 "kind_sum" = true)
    (k_14 : PySem.W.keepIn K (.ref f_14) = true)
    (a_15 : PySem.W.nsIn K mainGlobals "kind_power" = some (some (.ref f_15)))
    (l_15 : K.lookup f_15 = some ⟨oc_15, od_15, .func (PySem.W.fnOf "kind_power" "kind_power" (defArgs s_kind_power) (defBody s_kind_power) (defScope s_kind_power) .none kV_15 dc_15 pm_15 an_15 cd_15 ct_15), sl_15⟩)
    (c_15 : PySem.W.codeIn K cd_15 "kind_power" = true)
    (k_15 : PySem.W.keepIn K (.ref f_15) = true)
    (a_16 : PySem.W.nsIn K mainGlobals "kind_truth" = some (some (.ref f_16)))
    (l_16 : K.lookup f_16 = some ⟨oc_16, od_16, .func (PySem.W.fnOf "kind_truth" "kind_truth" (defArgs s_kind_truth) (defBody s_kind_truth) (defScope s_kind_truth) .none kV_16 dc_16 pm_16 an_16 cd_16 ct_16), sl_16⟩)
    (c_16 : PySem.W.codeIn K cd_16 "kind_truth" = true)
    (k_16 : PySem.W.keepIn K (.ref f_16) = true)
    (a_17 : PySem.W.nsIn K mainGlobals "place_of" = some (some (.ref f_17)))
    (l_17 : K.lookup f_17 = some ⟨oc_17, od_17, .func (PySem.W.fnOf "place_of" "place_of" (defArgs s_place_of) (defBody s_place_of) (defScope s_place_of) .none kV_17 dc_17 pm_17 an_17 cd_17 ct_17), sl_17⟩)
    (c_17 : PySem.W.codeIn K cd_17 "place_of" = true)
    (k_17 : PySem.W.keepIn K (.ref f_17) = true)
    (a_18 : PySem.W.nsIn K mainGlobals "freed" = some (some (.ref f_18)))
    (l_18 : K.lookup f_18 = some ⟨oc_18, od_18, .func (PySem.W.fnOf "freed" "freed" (defArgs s_freed) (defBody s_freed) (defScope s_freed) .none kV_18 dc_18 pm_18 an_18 cd_18 ct_18), sl_18⟩)
    (c_18 : PySem.W.codeIn K cd_18 "freed" = true)
    (k_18 : PySem.W.keepIn K (.ref f_18) = true)
    (a_19 : PySem.W.nsIn K mainGlobals "choices" = some (some (.ref f_19)))
    (l_19 : K.lookup f_19 = some ⟨oc_19, od_19, .func (PySem.W.fnOf "choices" "choices" (defArgs s_choices) (defBody s_choices) (defScope s_choices) .none kV_19 dc_19 pm_19 an_19 cd_19 ct_19), sl_19⟩)
    (c_19 : PySem.W.codeIn K cd_19 "choices" = true)
    (k_19 : PySem.W.keepIn K (.ref f_19) = true)
    (a_20 : PySem.W.nsIn K mainGlobals "holds_of_kind" = some (some (.ref f_20)))
    (l_20 : K.lookup f_20 = some ⟨oc_20, od_20, .func (PySem.W.fnOf "holds_of_kind" "holds_of_kind" (defArgs s_holds_of_kind) (defBody s_holds_of_kind) (defScope s_holds_of_kind) .none kV_20 dc_20 pm_20 an_20 cd_20 ct_20), sl_20⟩)
    (c_20 : PySem.W.codeIn K cd_20 "holds_of_kind" = true)
    (k_20 : PySem.W.keepIn K (.ref f_20) = true)
    (a_21 : PySem.W.nsIn K mainGlobals "telling" = some (some (.ref f_21)))
    (l_21 : K.lookup f_21 = some ⟨oc_21, od_21, .func (PySem.W.fnOf "telling" "telling" (defArgs s_telling) (defBody s_telling) (defScope s_telling) .none kV_21 dc_21 pm_21 an_21 cd_21 ct_21), sl_21⟩)
    (c_21 : PySem.W.codeIn K cd_21 "telling" = true)
    (k_21 : PySem.W.keepIn K (.ref f_21) = true)
    (a_22 : PySem.W.nsIn K mainGlobals "same_kind" = some (some (.ref f_22)))
    (l_22 : K.lookup f_22 = some ⟨oc_22, od_22, .func (PySem.W.fnOf "same_kind" "same_kind" (defArgs s_same_kind) (defBody s_same_kind) (defScope s_same_kind) .none kV_22 dc_22 pm_22 an_22 cd_22 ct_22), sl_22⟩)
    (c_22 : PySem.W.codeIn K cd_22 "same_kind" = true)
    (k_22 : PySem.W.keepIn K (.ref f_22) = true)
    (a_23 : PySem.W.nsIn K mainGlobals "_law_cell" = some (some (.ref f_23)))
    (l_23 : K.lookup f_23 = some ⟨oc_23, od_23, .func (PySem.W.fnOf "_law_cell" "_law_cell" (defArgs s__law_cell) (defBody s__law_cell) (defScope s__law_cell) .none kV_23 dc_23 pm_23 an_23 cd_23 ct_23), sl_23⟩)
    (c_23 : PySem.W.codeIn K cd_23 "_law_cell" = true)
    (k_23 : PySem.W.keepIn K (.ref f_23) = true)
    (a_24 : PySem.W.nsIn K mainGlobals "_law_digits" = some (some (.ref f_24)))
    (l_24 : K.lookup f_24 = some ⟨oc_24, od_24, .func (PySem.W.fnOf "_law_digits" "_law_digits" (defArgs s__law_digits) (defBody s__law_digits) (defScope s__law_digits) .none kV_24 dc_24 pm_24 an_24 cd_24 ct_24), sl_24⟩)
    (c_24 : PySem.W.codeIn K cd_24 "_law_digits" = true)
    (k_24 : PySem.W.keepIn K (.ref f_24) = true)
    (a_25 : PySem.W.nsIn K mainGlobals "_law_draw" = some (some (.ref f_25)))
    (l_25 : K.lookup f_25 = some ⟨oc_25, od_25, .func (PySem.W.fnOf "_law_draw" "_law_draw" (defArgs s__law_draw) (defBody s__law_draw) (defScope s__law_draw) .none kV_25 dc_25 pm_25 an_25 cd_25 ct_25), sl_25⟩)
    (c_25 : PySem.W.codeIn K cd_25 "_law_draw" = true)
    (k_25 : PySem.W.keepIn K (.ref f_25) = true)
    (a_26 : PySem.W.nsIn K mainGlobals "_law_pick" = some (some (.ref f_26)))
    (l_26 : K.lookup f_26 = some ⟨oc_26, od_26, .func (PySem.W.fnOf "_law_pick" "_law_pick" (defArgs s__law_pick) (defBody s__law_pick) (defScope s__law_pick) .none kV_26 dc_26 pm_26 an_26 cd_26 ct_26), sl_26⟩)
    (c_26 : PySem.W.codeIn K cd_26 "_law_pick" = true)
    (k_26 : PySem.W.keepIn K (.ref f_26) = true)
    (a_27 : PySem.W.nsIn K mainGlobals "_law_same" = some (some (.ref f_27)))
    (l_27 : K.lookup f_27 = some ⟨oc_27, od_27, .func (PySem.W.fnOf "_law_same" "_law_same" (defArgs s__law_same) (defBody s__law_same) (defScope s__law_same) .none kV_27 dc_27 pm_27 an_27 cd_27 ct_27), sl_27⟩)
    (c_27 : PySem.W.codeIn K cd_27 "_law_same" = true)
    (k_27 : PySem.W.keepIn K (.ref f_27) = true)
    (a_28 : PySem.W.nsIn K mainGlobals "_law_rounds" = some (some (.ref f_28)))
    (l_28 : K.lookup f_28 = some ⟨oc_28, od_28, .func (PySem.W.fnOf "_law_rounds" "_law_rounds" (defArgs s__law_rounds) (defBody s__law_rounds) (defScope s__law_rounds) .none kV_28 dc_28 pm_28 an_28 cd_28 ct_28), sl_28⟩)
    (c_28 : PySem.W.codeIn K cd_28 "_law_rounds" = true)
    (k_28 : PySem.W.keepIn K (.ref f_28) = true)
    (a_29 : PySem.W.nsIn K mainGlobals "_law_sentences" = some (some (.ref f_29)))
    (l_29 : K.lookup f_29 = some ⟨oc_29, od_29, .func (PySem.W.fnOf "_law_sentences" "_law_sentences" (defArgs s__law_sentences) (defBody s__law_sentences) (defScope s__law_sentences) .none kV_29 dc_29 pm_29 an_29 cd_29 ct_29), sl_29⟩)
    (c_29 : PySem.W.codeIn K cd_29 "_law_sentences" = true)
    (k_29 : PySem.W.keepIn K (.ref f_29) = true)
    (a_30 : PySem.W.nsIn K mainGlobals "law" = some (some (.ref f_30)))
    (l_30 : K.lookup f_30 = some ⟨oc_30, od_30, .func (PySem.W.fnOf "law" "law" (defArgs s_law) (defBody s_law) (defScope s_law) .none kV_30 dc_30 pm_30 an_30 cd_30 ct_30), sl_30⟩)
    (c_30 : PySem.W.codeIn K cd_30 "law" = true)
    (k_30 : PySem.W.keepIn K (.ref f_30) = true)
    (pg_Adder : PySem.W.plainGet K C_Adder Str.empty = true)
    (hd_Adder : PySem.W.hasDictIn K C_Adder = true)
    (po_Adder : PySem.W.plainOver K C_Adder = true)
    (sa_Adder : PySem.W.findIn K (.ref C_Adder) "__setattr__" = some (some (.builtin "object.__setattr__")))
    (mk_Adder : PySem.W.makesIn K C_Adder = true)
    (kc_Adder : PySem.W.keepIn K (.ref C_Adder) = true)
    (n_Adder_known : PySem.W.findIn K (.ref C_Adder) "known" = some none)
    (z_all : PySem.W.nsIn K mainGlobals "all" = some none)
    (z_any : PySem.W.nsIn K mainGlobals "any" = some none)
    (z_dict : PySem.W.nsIn K mainGlobals "dict" = some none)
    (z_enumerate : PySem.W.nsIn K mainGlobals "enumerate" = some none)
    (z_int : PySem.W.nsIn K mainGlobals "int" = some none)
    (z_isinstance : PySem.W.nsIn K mainGlobals "isinstance" = some none)
    (z_len : PySem.W.nsIn K mainGlobals "len" = some none)
    (z_max : PySem.W.nsIn K mainGlobals "max" = some none)
    (z_min : PySem.W.nsIn K mainGlobals "min" = some none)
    (z_range : PySem.W.nsIn K mainGlobals "range" = some none)
    (z_repr : PySem.W.nsIn K mainGlobals "repr" = some none)
    (z_sorted : PySem.W.nsIn K mainGlobals "sorted" = some none)
    (z_str : PySem.W.nsIn K mainGlobals "str" = some none)
    (z_tuple : PySem.W.nsIn K mainGlobals "tuple" = some none)
    (g_FIGURES : PySem.W.nsIn K mainGlobals "FIGURES" = some (some (.str "0123456789" t_FIGURES)))
    (g_KINDS_MOST : PySem.W.nsIn K mainGlobals "KINDS_MOST" = some (some (.int 20000 t_KINDS_MOST)))
    (g_LONG : PySem.W.nsIn K mainGlobals "LONG" = some (some (.int 12 t_LONG)))
    (g_ROUNDS_MOST : PySem.W.nsIn K mainGlobals "ROUNDS_MOST" = some (some (.int 4 t_ROUNDS_MOST)))
    (g_SMALL : PySem.W.nsIn K mainGlobals "SMALL" = some (some (.str "abcdefghijklmnopqrstuvwxyz" t_SMALL)))
    (g_TURNS : PySem.W.nsIn K mainGlobals "TURNS" = some (some (.ref p_TURNS)))
    (h_TURNS : K.lookup p_TURNS = some ⟨.type "tuple", d_TURNS, .seq #[.str "every" t0_TURNS, .str "some" t1_TURNS] m_TURNS, o_TURNS⟩)
    (g_WORDS : PySem.W.nsIn K mainGlobals "WORDS" = some (some (.ref p_WORDS)))
    (h_WORDS : K.lookup p_WORDS = some ⟨.type "tuple", d_WORDS, .seq #[.str "true" t0_WORDS, .str "false" t1_WORDS, .str "not" t2_WORDS, .str "and" t3_WORDS, .str "or" t4_WORDS, .str "implies" t5_WORDS, .str "every" t6_WORDS, .str "some" t7_WORDS, .str "by" t8_WORDS] m_WORDS, o_WORDS⟩)
    : ∃ fd : FuncData, (∀ (s : Shared) (v : Value), BindsTo s fd ⟨[v], []⟩ [("script", v)]) ∧ ∀ base : Heap, K.In base → base.Ns mainGlobals mg → FnOk l.prog w K mg base CX0 43 fa fd ["script"] (spLaw K) := by
  have e := hfa.symm.trans (PySem.W.mg_of X G a_30)
  cases e
  let c : Str → Option Addr := fun x => if x = "Adder" then some C_Adder else none
  have hc_Adder : c "Adder" = some C_Adder := by simp [c]
  have cl_Adder : Cls K C_Adder := ⟨pg_Adder, hd_Adder, po_Adder, sa_Adder⟩
  have F_0 := fun_mk (st := s_is_name) l_0 c_0 k_0
  have b_0 := F_0.binds (ps := ["text"]) fun _ _ _ _ _ _ us hl => match us, hl with | [_], _ => rfl
  have F_1 := fun_mk (st := s_check_word) l_1 c_1 k_1
  have b_1 := F_1.binds (ps := ["word"]) fun _ _ _ _ _ _ us hl => match us, hl with | [_], _ => rfl
  have F_2 := fun_mk (st := s_check_rounds) l_2 c_2 k_2
  have b_2 := F_2.binds (ps := ["rounds"]) fun _ _ _ _ _ _ us hl => match us, hl with | [_], _ => rfl
  have F_3 := fun_mk (st := s_check_order_formula) l_3 c_3 k_3
  have b_3 := F_3.binds (ps := ["formula", "known"]) fun _ _ _ _ _ _ us hl => match us, hl with | [_, _], _ => rfl
  have F_4 := fun_mk (st := s_rounds_of) l_4 c_4 k_4
  have b_4 := F_4.binds (ps := ["formula"]) fun _ _ _ _ _ _ us hl => match us, hl with | [_], _ => rfl
  have F_5 := fun_mk (st := s_word_truth) l_5 c_5 k_5
  have b_5 := F_5.binds (ps := ["word", "formula", "places"]) fun _ _ _ _ _ _ us hl => match us, hl with | [_, _, _], _ => rfl
  have F_6 := fun_mk (st := s_with_place) l_6 c_6 k_6
  have b_6 := F_6.binds (ps := ["places", "name", "place"]) fun _ _ _ _ _ _ us hl => match us, hl with | [_, _, _], _ => rfl
  have F_7 := fun_mk (st := s_joined_truth) l_7 c_7 k_7
  have b_7 := F_7.binds (ps := ["word", "truths"]) fun _ _ _ _ _ _ us hl => match us, hl with | [_, _], _ => rfl
  have F_8 := fun_mk (st := s_holds_of_word) l_8 c_8 k_8
  have b_8 := F_8.binds (ps := ["word", "formula"]) fun _ _ _ _ _ _ us hl => match us, hl with | [_, _], _ => rfl
  have F_9 := fun_mk (st := s_kind_of) l_9 c_9 k_9
  have b_9 := F_9.binds (ps := ["word", "rounds"]) fun _ _ _ _ _ _ us hl => match us, hl with | [_, _], _ => rfl
  have F_10 := fun_mk (st := s_known_kind) l_10 c_10 k_10
  have b_10 := F_10.binds (ps := ["word", "rounds", "known"]) fun _ _ _ _ _ _ us hl => match us, hl with | [_, _, _], _ => rfl
  have F_11 := fun_mk (st := s_lessened) l_11 c_11 k_11
  have b_11 := F_11.binds (ps := ["kind", "rounds"]) fun _ _ _ _ _ _ us hl => match us, hl with | [_, _], _ => rfl
  have F_12 := fun_mk (st := s_Adder_init) l_12 c_12 k_12
  have b_12 := F_12.binds (ps := ["self"]) fun _ _ _ _ _ _ us hl => match us, hl with | [_], _ => rfl
  have F_13 := fun_mk (st := s_Adder_added) l_13 c_13 k_13
  have b_13 := F_13.binds (ps := ["self", "one", "other", "rounds"]) fun _ _ _ _ _ _ us hl => match us, hl with | [_, _, _, _], _ => rfl
  have F_14 := fun_mk (st := s_kind_sum) l_14 c_14 k_14
  have b_14 := F_14.binds (ps := ["one", "other", "rounds"]) fun _ _ _ _ _ _ us hl => match us, hl with | [_, _, _], _ => rfl
  have F_15 := fun_mk (st := s_kind_power) l_15 c_15 k_15
  have b_15 := F_15.binds (ps := ["kind", "rounds", "times"]) fun _ _ _ _ _ _ us hl => match us, hl with | [_, _, _], _ => rfl
  have F_16 := fun_mk (st := s_kind_truth) l_16 c_16 k_16
  have b_16 := F_16.binds (ps := ["formula", "rounds", "pieces", "points"]) fun _ _ _ _ _ _ us hl => match us, hl with | [_, _, _, _], _ => rfl
  have F_17 := fun_mk (st := s_place_of) l_17 c_17 k_17
  have b_17 := F_17.binds (ps := ["points", "name"]) fun _ _ _ _ _ _ us hl => match us, hl with | [_, _], _ => rfl
  have F_18 := fun_mk (st := s_freed) l_18 c_18 k_18
  have b_18 := F_18.binds (ps := ["points", "name"]) fun _ _ _ _ _ _ us hl => match us, hl with | [_, _], _ => rfl
  have F_19 := fun_mk (st := s_choices) l_19 c_19 k_19
  have b_19 := F_19.binds (ps := ["name", "rounds", "pieces", "points"]) fun _ _ _ _ _ _ us hl => match us, hl with | [_, _, _, _], _ => rfl
  have F_20 := fun_mk (st := s_holds_of_kind) l_20 c_20 k_20
  have b_20 := F_20.binds (ps := ["kind", "rounds", "formula"]) fun _ _ _ _ _ _ us hl => match us, hl with | [_, _, _], _ => rfl
  have F_21 := fun_mk (st := s_telling) l_21 c_21 k_21
  have b_21 := F_21.binds (ps := ["one", "other", "rounds"]) fun _ _ _ _ _ _ us hl => match us, hl with | [_, _, _], _ => rfl
  have F_22 := fun_mk (st := s_same_kind) l_22 c_22 k_22
  have b_22 := F_22.binds (ps := ["word", "other", "rounds"]) fun _ _ _ _ _ _ us hl => match us, hl with | [_, _, _], _ => rfl
  have F_23 := fun_mk (st := s__law_cell) l_23 c_23 k_23
  have b_23 := F_23.binds (ps := ["script", "k"]) fun _ _ _ _ _ _ us hl => match us, hl with | [_, _], _ => rfl
  have F_24 := fun_mk (st := s__law_digits) l_24 c_24 k_24
  have b_24 := F_24.binds (ps := ["script", "first", "last"]) fun _ _ _ _ _ _ us hl => match us, hl with | [_, _, _], _ => rfl
  have F_25 := fun_mk (st := s__law_draw) l_25 c_25 k_25
  have b_25 := F_25.binds (ps := ["box", "m"]) fun _ _ _ _ _ _ us hl => match us, hl with | [_, _], _ => rfl
  have F_26 := fun_mk (st := s__law_pick) l_26 c_26 k_26
  have b_26 := F_26.binds (ps := ["box", "rows"]) fun _ _ _ _ _ _ us hl => match us, hl with | [_, _], _ => rfl
  have F_27 := fun_mk (st := s__law_same) l_27 c_27 k_27
  have b_27 := F_27.binds (ps := ["one", "other"]) fun _ _ _ _ _ _ us hl => match us, hl with | [_, _], _ => rfl
  have F_28 := fun_mk (st := s__law_rounds) l_28 c_28 k_28
  have b_28 := F_28.binds (ps := ["formula"]) fun _ _ _ _ _ _ us hl => match us, hl with | [_], _ => rfl
  have F_29 := fun_mk (st := s__law_sentences) l_29 c_29 k_29
  have b_29 := F_29.binds (ps := ["box"]) fun _ _ _ _ _ _ us hl => match us, hl with | [_], _ => rfl
  have F_30 := fun_mk (st := s_law) l_30 c_30 k_30
  have b_30 := F_30.binds (ps := ["script"]) fun _ _ _ _ _ _ us hl => match us, hl with | [_], _ => rfl
  have DD : Dfs K mg c := ⟨⟨_, _, F_0, PySem.W.mg_of X G a_0, b_0⟩, ⟨_, _, F_1, PySem.W.mg_of X G a_1, b_1⟩, ⟨_, _, F_2, PySem.W.mg_of X G a_2, b_2⟩, ⟨_, _, F_3, PySem.W.mg_of X G a_3, b_3⟩, ⟨_, _, F_4, PySem.W.mg_of X G a_4, b_4⟩, ⟨_, _, F_5, PySem.W.mg_of X G a_5, b_5⟩, ⟨_, _, F_6, PySem.W.mg_of X G a_6, b_6⟩, ⟨_, _, F_7, PySem.W.mg_of X G a_7, b_7⟩, ⟨_, _, F_8, PySem.W.mg_of X G a_8, b_8⟩, ⟨_, _, F_9, PySem.W.mg_of X G a_9, b_9⟩, ⟨_, _, F_10, PySem.W.mg_of X G a_10, b_10⟩, ⟨_, _, F_11, PySem.W.mg_of X G a_11, b_11⟩, ⟨C_Adder, _, _, hc_Adder, PySem.W.mg_of X G aC_Adder, ⟨mk_Adder, a_12, i_12, kc_Adder⟩, F_12, b_12⟩, ⟨C_Adder, _, _, hc_Adder, cl_Adder, ⟨a_13, i_13, k_13⟩, F_13, b_13⟩, ⟨_, _, F_14, PySem.W.mg_of X G a_14, b_14⟩, ⟨_, _, F_15, PySem.W.mg_of X G a_15, b_15⟩, ⟨_, _, F_16, PySem.W.mg_of X G a_16, b_16⟩, ⟨_, _, F_17, PySem.W.mg_of X G a_17, b_17⟩, ⟨_, _, F_18, PySem.W.mg_of X G a_18, b_18⟩, ⟨_, _, F_19, PySem.W.mg_of X G a_19, b_19⟩, ⟨_, _, F_20, PySem.W.mg_of X G a_20, b_20⟩, ⟨_, _, F_21, PySem.W.mg_of X G a_21, b_21⟩, ⟨_, _, F_22, PySem.W.mg_of X G a_22, b_22⟩, ⟨_, _, F_23, PySem.W.mg_of X G a_23, b_23⟩, ⟨_, _, F_24, PySem.W.mg_of X G a_24, b_24⟩, ⟨_, _, F_25, PySem.W.mg_of X G a_25, b_25⟩, ⟨_, _, F_26, PySem.W.mg_of X G a_26, b_26⟩, ⟨_, _, F_27, PySem.W.mg_of X G a_27, b_27⟩, ⟨_, _, F_28, PySem.W.mg_of X G a_28, b_28⟩, ⟨_, _, F_29, PySem.W.mg_of X G a_29, b_29⟩, ⟨_, _, F_30, PySem.W.mg_of X G a_30, b_30⟩⟩
  have TT : Tx l.prog w K mg c := ⟨PySem.W.mg_none_of X G z_all,
    PySem.W.mg_none_of X G z_any,
    PySem.W.mg_none_of X G z_dict,
    PySem.W.mg_none_of X G z_enumerate,
    PySem.W.mg_none_of X G z_int,
    PySem.W.mg_none_of X G z_isinstance,
    PySem.W.mg_none_of X G z_len,
    PySem.W.mg_none_of X G z_max,
    PySem.W.mg_none_of X G z_min,
    PySem.W.mg_none_of X G z_range,
    PySem.W.mg_none_of X G z_repr,
    PySem.W.mg_none_of X G z_sorted,
    PySem.W.mg_none_of X G z_str,
    PySem.W.mg_none_of X G z_tuple,
    ⟨⟨_, .str "0123456789", PySem.W.mg_of X G g_FIGURES, ⟨_, rfl⟩, fun _ _ => by simp only [RV, K39.g_FIGURES, kc_18]⟩⟩,
    ⟨⟨_, .int 20000, PySem.W.mg_of X G g_KINDS_MOST, ⟨_, rfl⟩, fun _ _ => by simp only [RV, K39.g_KINDS_MOST]⟩⟩,
    ⟨⟨_, .int 12, PySem.W.mg_of X G g_LONG, ⟨_, rfl⟩, fun _ _ => by simp only [RV, K39.g_LONG]⟩⟩,
    ⟨⟨_, .int 4, PySem.W.mg_of X G g_ROUNDS_MOST, ⟨_, rfl⟩, fun _ _ => by simp only [RV, K39.g_ROUNDS_MOST]⟩⟩,
    ⟨⟨_, .str "abcdefghijklmnopqrstuvwxyz", PySem.W.mg_of X G g_SMALL, ⟨_, rfl⟩, fun _ _ => by simp only [RV, K39.g_SMALL, kc_19]⟩⟩,
    ⟨⟨_, .ref p_TURNS, PySem.W.mg_of X G g_TURNS, rfl, fun _ _ => by simp only [RV, K39.g_TURNS]; exact ⟨p_TURNS, [.str "every", .str "some"], rfl, .inr ⟨_, _, _, h_TURNS, rfl, rfl, (by show 2 ≤ sizeLine; rw [sizeLine_eq]; decide), .cons ⟨_, rfl⟩ (.cons ⟨_, rfl⟩ .nil)⟩, (RVs.cons (by simp only [RV, kc_13]) (RVs.cons (by simp only [RV, kc_9]) RVs.nil))⟩⟩⟩,
    ⟨⟨_, .ref p_WORDS, PySem.W.mg_of X G g_WORDS, rfl, fun _ _ => by simp only [RV, K39.g_WORDS]; exact ⟨p_WORDS, [.str "true", .str "false", .str "not", .str "and", .str "or", .str "implies", .str "every", .str "some", .str "by"], rfl, .inr ⟨_, _, _, h_WORDS, rfl, rfl, (by show 9 ≤ sizeLine; rw [sizeLine_eq]; decide), .cons ⟨_, rfl⟩ (.cons ⟨_, rfl⟩ (.cons ⟨_, rfl⟩ (.cons ⟨_, rfl⟩ (.cons ⟨_, rfl⟩ (.cons ⟨_, rfl⟩ (.cons ⟨_, rfl⟩ (.cons ⟨_, rfl⟩ (.cons ⟨_, rfl⟩ .nil))))))))⟩, (RVs.cons (by simp only [RV, kc_8]) (RVs.cons (by simp only [RV, kc_7]) (RVs.cons (by simp only [RV, kc_6]) (RVs.cons (by simp only [RV, kc_5]) (RVs.cons (by simp only [RV, kc_4]) (RVs.cons (by simp only [RV, kc_3]) (RVs.cons (by simp only [RV, kc_13]) (RVs.cons (by simp only [RV, kc_9]) (RVs.cons (by simp only [RV, kc_20]) RVs.nil)))))))))⟩⟩⟩,
    ⟨C_Adder, hc_Adder, cl_Adder, n_Adder_known⟩⟩
  refine ⟨PySem.W.fnOf "law" "law" (defArgs s_law) (defBody s_law) (defScope s_law) .none kV_30 dc_30 pm_30 an_30 cd_30 ct_30, fun s v => .of_eq rfl, fun base _ _ => ?_⟩
  have L := lv (base := base) TT DD 39
  refine L2.FnOk.imp (sp := spD ⟨K, l.prog, w, c⟩ 1 (F 40 .law)) (st_law TT L F_30) fun vs H Q E q => ?_
  obtain ⟨a, ns, rfl, hs, h63, kk⟩ := q
  obtain ⟨S', e⟩ := LAW ns h63
  refine ⟨[], [], [.fro (ns.map D.int)], .bl true, S', ⟨rfl, List.nodup_nil, fun n o a h1 _ => by simp at h1⟩, .one ?_, rfl, e, fun v H' η' x s r => ?_⟩
  · simp only [RV]
    exact ⟨a, _, rfl, hs, rvs_ints _ _ _ ns⟩
  · simp only [RV] at r
    subst r
    exact kk H'

end K39

set_option Elab.async false
set_option linter.all false
set_option maxRecDepth 100000
set_option maxHeartbeats 4000000
/-! DLm: simple data: texts, whole numbers, tuples of such; how they are compared, found, used as keys -/
namespace DL
open PySem PySem.Spec L2
open PyProof.Rows hiding St
def sd : Nat → D → Bool
  | _, .str x => PyData.strOk x
  | _, .int _ => true
  | n + 1, .tup ds => ds.all (sd n)
  | _, _ => false
theorem sd_tup {n : Nat} {ds : List D} : sd (n + 1) (.tup ds) = ds.all (sd n) := rfl
theorem pds_of {ds : List D} (h : ∀ d ∈ ds, d.pd = some d.pdT) : D.pds ds = some (ds.map D.pdT) := by
  induction ds with
  | nil => rfl
  | cons d r ih => simp only [D.pds, h d List.mem_cons_self, ih fun e he => h e (List.mem_cons_of_mem _ he), List.map_cons]
theorem sd_pd : ∀ (n : Nat) (d : D), sd n d = true → d.pd = some d.pdT
  | _, .str x, _ => rfl
  | _, .int _, _ => rfl
  | n + 1, .tup ds, h => by
    rw [sd_tup, List.all_eq_true] at h
    have := pds_of (ds := ds) fun d hd => sd_pd n d (h d hd)
    simp only [D.pdT, D.pd, this, Option.getD_some]
  | 0, .tup _, h => by simp [sd] at h
  | 0, .non, h => by simp [sd] at h
  | _ + 1, .non, h => by simp [sd] at h
  | 0, .bl _, h => by simp [sd] at h
  | _ + 1, .bl _, h => by simp [sd] at h
  | 0, .fro _, h => by simp [sd] at h
  | _ + 1, .fro _, h => by simp [sd] at h
  | 0, .ref _, h => by simp [sd] at h
  | _ + 1, .ref _, h => by simp [sd] at h
theorem sd_free : ∀ (n : Nat) (d : D), sd n d = true → free d = true
  | _, .str x, _ => rfl
  | _, .int _, _ => rfl
  | n + 1, .tup ds, h => by
    rw [sd_tup, List.all_eq_true] at h
    simp only [free]
    induction ds with
    | nil => rfl
    | cons d r ih => simp only [frees, Bool.and_eq_true]; exact ⟨sd_free n d (h d List.mem_cons_self), ih fun e he => h e (List.mem_cons_of_mem _ he)⟩
  | 0, .tup _, h => by simp [sd] at h
  | 0, .non, h => by simp [sd] at h
  | _ + 1, .non, h => by simp [sd] at h
  | 0, .bl _, h => by simp [sd] at h
  | _ + 1, .bl _, h => by simp [sd] at h
  | 0, .fro _, h => by simp [sd] at h
  | _ + 1, .fro _, h => by simp [sd] at h
  | 0, .ref _, h => by simp [sd] at h
  | _ + 1, .ref _, h => by simp [sd] at h
theorem pdT_str (x : Str) : (D.str x).pdT = .str x := rfl
theorem pdT_int (i : Int) : (D.int i).pdT = .int i := rfl
theorem pdT_tup {n : Nat} {ds : List D} (h : sd (n + 1) (.tup ds) = true) : (D.tup ds).pdT = .tuple (ds.map D.pdT) := by
  rw [sd_tup, List.all_eq_true] at h
  have := pds_of (ds := ds) fun d hd => sd_pd n d (h d hd)
  simp only [D.pdT, D.pd, this, Option.getD_some]
theorem sd_cases {n : Nat} {d : D} (h : sd n d = true) : (∃ x, d = .str x ∧ PyData.strOk x = true) ∨ (∃ i, d = .int i) ∨ ∃ m ds, n = m + 1 ∧ d = .tup ds ∧ ∀ e ∈ ds, sd m e = true := by
  cases d with
  | str x => exact .inl ⟨x, rfl, by cases n <;> exact h⟩
  | int i => exact .inr (.inl ⟨i, rfl⟩)
  | tup ds =>
    cases n with
    | zero => simp [sd] at h
    | succ m => exact .inr (.inr ⟨m, ds, rfl, rfl, by rw [sd_tup, List.all_eq_true] at h; exact h⟩)
  | _ => cases n <;> simp [sd] at h
theorem sd_mk {n : Nat} {ds : List D} (h : ∀ e ∈ ds, sd n e = true) : sd (n + 1) (.tup ds) = true := by rw [sd_tup, List.all_eq_true]; exact h
theorem all_lay {n : Nat} (ih : ∀ d, sd n d = true → PyData.canLay0 d.pdT = true) : ∀ ds : List D, (∀ d ∈ ds, sd n d = true) → PyData.canLayAll0 (ds.map D.pdT) = true
  | [], _ => rfl
  | d :: r, h => by
    simp only [List.map_cons, PyData.canLayAll0, Bool.and_eq_true]
    exact ⟨ih d (h d List.mem_cons_self), all_lay ih r fun e he => h e (List.mem_cons_of_mem _ he)⟩
theorem sd_lay : ∀ (n : Nat) (d : D), sd n d = true → PyData.canLay0 d.pdT = true := by
  intro n
  induction n with
  | zero =>
    intro d h
    rcases sd_cases h with ⟨x, rfl, hx⟩ | ⟨i, rfl⟩ | ⟨m, ds, e, _⟩
    · exact hx
    · rfl
    · cases e
  | succ n ih =>
    intro d h
    rcases sd_cases h with ⟨x, rfl, hx⟩ | ⟨i, rfl⟩ | ⟨m, ds, e, rfl, hh⟩
    · exact hx
    · rfl
    · cases e
      rw [pdT_tup h]
      simp only [PyData.canLay0]
      exact all_lay ih ds hh
theorem all_dep {n : Nat} (ih : ∀ d, sd n d = true → PyData.depth d.pdT ≤ n) : ∀ ds : List D, (∀ d ∈ ds, sd n d = true) → PyData.depthAll (ds.map D.pdT) ≤ n
  | [], _ => Nat.zero_le _
  | d :: r, h => by
    simp only [List.map_cons, PyData.depthAll]
    exact Nat.max_le.mpr ⟨ih d (h d List.mem_cons_self), all_dep ih r fun e he => h e (List.mem_cons_of_mem _ he)⟩
theorem sd_dep : ∀ (n : Nat) (d : D), sd n d = true → PyData.depth d.pdT ≤ n := by
  intro n
  induction n with
  | zero =>
    intro d h
    rcases sd_cases h with ⟨x, rfl, hx⟩ | ⟨i, rfl⟩ | ⟨m, ds, e, _⟩
    · exact Nat.le_refl _
    · exact Nat.le_refl _
    · cases e
  | succ n ih =>
    intro d h
    rcases sd_cases h with ⟨x, rfl, hx⟩ | ⟨i, rfl⟩ | ⟨m, ds, e, rfl, hh⟩
    · exact Nat.zero_le _
    · exact Nat.zero_le _
    · cases e
      rw [pdT_tup h]
      simp only [PyData.depth]
      exact Nat.succ_le_succ (all_dep ih ds hh)
theorem sd_shaped {n : Nat} {d : D} (h : sd n d = true) (hn : n ≤ 64) : SeqAt.shaped d.pdT = true := by
  unfold SeqAt.shaped
  rw [sd_lay n d h, Bool.true_and]
  exact decide_eq_true (Nat.le_trans (sd_dep n d h) hn)
theorem sds_shaped {n : Nat} {ds : List D} (h : ∀ d ∈ ds, sd n d = true) (hn : n ≤ 63) : SeqAt.shaped (.list (ds.map D.pdT)) = true ∧ SeqAt.shaped (.tuple (ds.map D.pdT)) = true := by
  have h1 := all_lay (sd_lay n) ds h
  have h2 := all_dep (sd_dep n) ds h
  constructor <;>
  · unfold SeqAt.shaped
    simp only [PyData.canLay0, h1, Bool.true_and, PyData.depth]
    exact decide_eq_true (by omega)
theorem eqvAll_iff {n : Nat} (ih : ∀ d e, sd n d = true → sd n e = true → (PyData.eqv d.pdT e.pdT = true ↔ d = e)) : ∀ ds es : List D, (∀ d ∈ ds, sd n d = true) → (∀ e ∈ es, sd n e = true) → (PyData.eqvAll (ds.map D.pdT) (es.map D.pdT) = true ↔ ds = es)
  | [], [], _, _ => by simp [PyData.eqvAll]
  | [], _ :: _, _, _ => by simp [PyData.eqvAll]
  | _ :: _, [], _, _ => by simp [PyData.eqvAll]
  | d :: r, e :: t, h, k => by
    simp only [List.map_cons, PyData.eqvAll, Bool.and_eq_true, List.cons.injEq]
    rw [ih d e (h d List.mem_cons_self) (k e List.mem_cons_self), eqvAll_iff ih r t (fun x hx => h x (List.mem_cons_of_mem _ hx)) fun x hx => k x (List.mem_cons_of_mem _ hx)]
theorem sd_up : ∀ {n : Nat} {d : D}, sd n d = true → sd (n + 1) d = true := by
  intro n
  induction n with
  | zero =>
    intro d h
    rcases sd_cases h with ⟨x, rfl, hx⟩ | ⟨i, rfl⟩ | ⟨m, ds, e, _⟩
    · exact hx
    · rfl
    · cases e
  | succ n ih =>
    intro d h
    rcases sd_cases h with ⟨x, rfl, hx⟩ | ⟨i, rfl⟩ | ⟨m, ds, e, rfl, hh⟩
    · exact hx
    · rfl
    · cases e
      exact sd_mk fun e he => ih (hh e he)
theorem sd_eqv : ∀ (n : Nat) (d e : D), sd n d = true → sd n e = true → (PyData.eqv d.pdT e.pdT = true ↔ d = e) := by
  intro n
  induction n with
  | zero =>
    intro d e h k
    rcases sd_cases h with ⟨x, rfl, hx⟩ | ⟨i, rfl⟩ | ⟨m, ds, q, _⟩ <;> rcases sd_cases k with ⟨y, rfl, hy⟩ | ⟨j, rfl⟩ | ⟨m', es, q', _⟩ <;> first | cases q | cases q' | simp [pdT_str, pdT_int, PyData.eqv]
  | succ n ih =>
    intro d e h k
    rcases sd_cases h with ⟨x, rfl, hx⟩ | ⟨i, rfl⟩ | ⟨m, ds, q, rfl, h'⟩ <;> rcases sd_cases k with ⟨y, rfl, hy⟩ | ⟨j, rfl⟩ | ⟨m', es, q', rfl, k'⟩
    · simp [pdT_str, PyData.eqv]
    · simp [pdT_str, pdT_int, PyData.eqv]
    · rw [pdT_tup k]; simp [pdT_str, PyData.eqv]
    · simp [pdT_str, pdT_int, PyData.eqv]
    · simp [pdT_int, PyData.eqv]
    · rw [pdT_tup k]; simp [pdT_int, PyData.eqv]
    · rw [pdT_tup h]; simp [pdT_str, PyData.eqv]
    · rw [pdT_tup h]; simp [pdT_int, PyData.eqv]
    · cases q; cases q'
      rw [pdT_tup h, pdT_tup k]
      simp only [PyData.eqv, D.tup.injEq]
      exact eqvAll_iff ih ds es h' k'
/-! ### ==, in, keys -/
open Classical in
theorem eqB_sd {n : Nat} {S : Sto} {d e : D} (hd : sd n d = true) (he : sd n e = true) (hn : n ≤ 64) : eqB S d e = some (decide (d = e)) := by
  have go : ∀ {x y : D}, sd n x = true → sd n y = true → (match pdS S x, pdS S y with
    | some p, some q => if SeqAt.shaped p = true ∧ SeqAt.shaped q = true then some (PyData.eqv p q) else none
    | _, _ => none) = some (decide (x = y)) := fun {x y} hx hy => by
    have px : pdS S x = some x.pdT := by rcases sd_cases hx with ⟨z, rfl, _⟩ | ⟨z, rfl⟩ | ⟨_, z, _, rfl, _⟩ <;> exact sd_pd n _ hx
    have py : pdS S y = some y.pdT := by rcases sd_cases hy with ⟨z, rfl, _⟩ | ⟨z, rfl⟩ | ⟨_, z, _, rfl, _⟩ <;> exact sd_pd n _ hy
    rw [px, py]
    show (if _ then _ else _) = _
    rw [if_pos ⟨sd_shaped hx hn, sd_shaped hy hn⟩]
    congr 1
    rw [Bool.eq_iff_iff, decide_eq_true_iff]
    exact sd_eqv n x y hx hy
  rcases sd_cases hd with ⟨x, rfl, hx⟩ | ⟨i, rfl⟩ | ⟨m, ds, q, rfl, h'⟩ <;> rcases sd_cases he with ⟨y, rfl, hy⟩ | ⟨j, rfl⟩ | ⟨m', es, q', rfl, k'⟩
  · unfold eqB; simp
  · exact go hd he
  · exact go hd he
  · exact go hd he
  · unfold eqB; simp
  · exact go hd he
  · exact go hd he
  · exact go hd he
  · exact go hd he
open Classical in
theorem any_sd {n : Nat} {d : D} {ys : List D} (hd : sd n d = true) (hy : ∀ y ∈ ys, sd n y = true) : ((ys.map D.pdT).any fun z => PyData.eqv z d.pdT) = decide (d ∈ ys) := by
  rw [Bool.eq_iff_iff, decide_eq_true_iff, List.any_eq_true]
  constructor
  · rintro ⟨z, hz, e⟩
    obtain ⟨y, h1, rfl⟩ := List.mem_map.mp hz
    rw [(sd_eqv n y d (hy y h1) hd).mp e] at h1
    exact h1
  · intro h
    exact ⟨_, List.mem_map_of_mem h, (sd_eqv n d d hd hd).mpr rfl⟩
open Classical in
theorem inB_tup {n : Nat} {S : Sto} {d : D} {ys : List D} (hd : sd n d = true) (hy : ∀ y ∈ ys, sd n y = true) (hn : n ≤ 63) : inB S d (.tup ys) = some (decide (d ∈ ys)) := by
  simp only [inB, sd_pd n d hd, pds_of fun y h => sd_pd n y (hy y h)]
  rw [if_pos ⟨sd_shaped hd (by omega), (sds_shaped hy hn).2⟩, any_sd hd hy]
open Classical in
theorem inB_lst {n : Nat} {S : Sto} {h : Nat} {d : D} {ys : List D} (e : S[h]? = some (.lst ys)) (hd : sd n d = true) (hy : ∀ y ∈ ys, sd n y = true) (hn : n ≤ 63) : inB S d (.ref h) = some (decide (d ∈ ys)) := by
  simp only [inB, e, sd_pd n d hd, pds_of fun y h => sd_pd n y (hy y h)]
  rw [if_pos ⟨sd_shaped hd (by omega), (sds_shaped hy hn).1⟩, any_sd hd hy]
theorem inB_lstb {n : Nat} {S : Sto} {h : Nat} {d : D} {ys : List D} {b : Bool} (e : S[h]? = some (.lst ys)) (hd : sd n d = true) (hy : ∀ y ∈ ys, sd n y = true) (hn : n ≤ 63) (hb : b = true ↔ d ∈ ys) : inB S d (.ref h) = some b := by
  rw [inB_lst e hd hy hn]
  congr 1
  rw [Bool.eq_iff_iff, hb]
  simp
theorem inB_tupb {n : Nat} {S : Sto} {d : D} {ys : List D} {b : Bool} (hd : sd n d = true) (hy : ∀ y ∈ ys, sd n y = true) (hn : n ≤ 63) (hb : b = true ↔ d ∈ ys) : inB S d (.tup ys) = some b := by
  rw [inB_tup hd hy hn]
  congr 1
  rw [Bool.eq_iff_iff, hb]
  simp
theorem eqB_sdb {n : Nat} {S : Sto} {d e : D} {b : Bool} (hd : sd n d = true) (he : sd n e = true) (hn : n ≤ 64) (hb : b = true ↔ d = e) : eqB S d e = some b := by
  rw [eqB_sd hd he hn]
  congr 1
  rw [Bool.eq_iff_iff, hb]
  simp
theorem keys_of {n : Nat} (ih : ∀ d, sd n d = true → ∃ k, d.key = some k) : ∀ ds : List D, (∀ d ∈ ds, sd n d = true) → ∃ ks, D.keys ds = some ks
  | [], _ => ⟨[], rfl⟩
  | d :: r, h => by
    obtain ⟨k, e1⟩ := ih d (h d List.mem_cons_self)
    obtain ⟨ks, e2⟩ := keys_of ih r fun e he => h e (List.mem_cons_of_mem _ he)
    exact ⟨k :: ks, by simp only [D.keys, e1, e2]⟩
theorem sd_key : ∀ (n : Nat) (d : D), sd n d = true → ∃ k, d.key = some k := by
  intro n
  induction n with
  | zero =>
    intro d h
    rcases sd_cases h with ⟨x, rfl, hx⟩ | ⟨i, rfl⟩ | ⟨m, ds, e, _⟩
    · exact ⟨_, rfl⟩
    · exact ⟨_, rfl⟩
    · cases e
  | succ n ih =>
    intro d h
    rcases sd_cases h with ⟨x, rfl, hx⟩ | ⟨i, rfl⟩ | ⟨m, ds, e, rfl, hh⟩
    · exact ⟨_, rfl⟩
    · exact ⟨_, rfl⟩
    · cases e
      obtain ⟨ks, e⟩ := keys_of ih ds hh
      exact ⟨.tup ks, by simp only [D.key, e]⟩
theorem kdep_all {n : Nat} (ih : ∀ d k, sd n d = true → d.key = some k → k.depth ≤ n) : ∀ (ds : List D) (ks : List NestedKey), (∀ d ∈ ds, sd n d = true) → D.keys ds = some ks → NestedKey.depthAll ks ≤ n
  | [], ks, _, e => by simp only [D.keys] at e; cases e; exact Nat.zero_le _
  | d :: r, ks, h, e => by
    simp only [D.keys] at e
    split at e
    · rename_i k1 ks1 a1 a2
      cases e
      simp only [NestedKey.depthAll]
      exact Nat.max_le.mpr ⟨ih d k1 (h d List.mem_cons_self) a1, kdep_all ih r ks1 (fun x hx => h x (List.mem_cons_of_mem _ hx)) a2⟩
    · cases e
theorem key_tup {ds : List D} {k : NestedKey} (h : (D.tup ds).key = some k) : ∃ ks, D.keys ds = some ks ∧ k = .tup ks := by
  simp only [D.key] at h
  split at h
  · rename_i ks e; cases h; exact ⟨ks, e, rfl⟩
  · cases h
theorem sd_kdep : ∀ (n : Nat) (d : D) (k : NestedKey), sd n d = true → d.key = some k → k.depth ≤ n := by
  intro n
  induction n with
  | zero =>
    intro d k h e
    rcases sd_cases h with ⟨x, rfl, hx⟩ | ⟨i, rfl⟩ | ⟨m, ds, q, _⟩
    · simp only [D.key, Option.some.injEq] at e; subst e; exact Nat.le_refl _
    · simp only [D.key, Option.some.injEq] at e; subst e; exact Nat.le_refl _
    · cases q
  | succ n ih =>
    intro d k h e
    rcases sd_cases h with ⟨x, rfl, hx⟩ | ⟨i, rfl⟩ | ⟨m, ds, q, rfl, hh⟩
    · simp only [D.key, Option.some.injEq] at e; subst e; exact Nat.zero_le _
    · simp only [D.key, Option.some.injEq] at e; subst e; exact Nat.zero_le _
    · cases q
      obtain ⟨ks, e1, rfl⟩ := key_tup e
      simp only [NestedKey.depth]
      exact Nat.succ_le_succ (kdep_all ih ds ks hh e1)
theorem keys_inj {n : Nat} (ih : ∀ d e k, sd n d = true → sd n e = true → d.key = some k → e.key = some k → d = e) : ∀ (ds es : List D) (ks : List NestedKey), (∀ d ∈ ds, sd n d = true) → (∀ e ∈ es, sd n e = true) → D.keys ds = some ks → D.keys es = some ks → ds = es
  | [], [], _, _, _, _, _ => rfl
  | [], e :: t, ks, _, _, h1, h2 => by
    simp only [D.keys] at h1 h2
    cases h1
    split at h2 <;> cases h2
  | d :: r, [], ks, _, _, h1, h2 => by
    simp only [D.keys] at h1 h2
    cases h2
    split at h1 <;> cases h1
  | d :: r, e :: t, ks, h, k, h1, h2 => by
    simp only [D.keys] at h1 h2
    split at h1
    · rename_i k1 ks1 a1 a2
      cases h1
      split at h2
      · rename_i k2 ks2 b1 b2
        cases h2
        rw [ih d e _ (h d List.mem_cons_self) (k e List.mem_cons_self) a1 b1, keys_inj ih r t _ (fun x hx => h x (List.mem_cons_of_mem _ hx)) (fun x hx => k x (List.mem_cons_of_mem _ hx)) a2 b2]
      · cases h2
    · cases h1
theorem sd_key_inj : ∀ (n : Nat) (d e : D) (k : NestedKey), sd n d = true → sd n e = true → d.key = some k → e.key = some k → d = e := by
  intro n
  induction n with
  | zero =>
    intro d e k h1 h2 a b
    rcases sd_cases h1 with ⟨x, rfl, hx⟩ | ⟨i, rfl⟩ | ⟨m, ds, q, _⟩ <;> rcases sd_cases h2 with ⟨y, rfl, hy⟩ | ⟨j, rfl⟩ | ⟨m', es, q', _⟩ <;> first
      | cases q
      | cases q'
      | (simp only [D.key, Option.some.injEq] at a b; rw [← a] at b; first | cases b; rfl | cases b)
  | succ n ih =>
    intro d e k h1 h2 a b
    rcases sd_cases h1 with ⟨x, rfl, hx⟩ | ⟨i, rfl⟩ | ⟨m, ds, q, rfl, h'⟩ <;> rcases sd_cases h2 with ⟨y, rfl, hy⟩ | ⟨j, rfl⟩ | ⟨m', es, q', rfl, k'⟩
    · simp only [D.key, Option.some.injEq] at a b; rw [← a] at b; cases b; rfl
    · simp only [D.key, Option.some.injEq] at a b; rw [← a] at b; cases b
    · obtain ⟨ks, _, e2⟩ := key_tup b; simp only [D.key, Option.some.injEq] at a; rw [← a] at e2; cases e2
    · simp only [D.key, Option.some.injEq] at a b; rw [← a] at b; cases b
    · simp only [D.key, Option.some.injEq] at a b; rw [← a] at b; cases b; rfl
    · obtain ⟨ks, _, e2⟩ := key_tup b; simp only [D.key, Option.some.injEq] at a; rw [← a] at e2; cases e2
    · obtain ⟨ks, _, e2⟩ := key_tup a; simp only [D.key, Option.some.injEq] at b; rw [← b] at e2; cases e2
    · obtain ⟨ks, _, e2⟩ := key_tup a; simp only [D.key, Option.some.injEq] at b; rw [← b] at e2; cases e2
    · cases q; cases q'
      obtain ⟨ks, c1, e1⟩ := key_tup a
      obtain ⟨ks', c2, e2⟩ := key_tup b
      rw [e1] at e2
      cases e2
      rw [keys_inj ih ds es ks h' k' c1 c2]
end DL

set_option Elab.async false
set_option linter.all false
set_option maxRecDepth 100000
set_option maxHeartbeats 4000000
/-! DLr: how the plain functions run; loops -/
namespace DL
open PySem PySem.Spec L2
open PyProof.Rows hiding St

section
variable {ρ : Env} {S : Sto} {α β : Type}
@[simp] theorem r_bd (f : M α) (k : α → M β) : bd f k S = (f S).bind fun p => k p.1 p.2 := by
  unfold bd; cases f S <;> rfl
@[simp] theorem r_pu (a : α) : pu a S = some (a, S) := rfl
@[simp] theorem r_no : (no : M α) S = none := rfl
@[simp] theorem r_var (i : Nat) : fVar i ρ S = (ρ[i]?.bind id).map fun d => (d, S) := by
  unfold fVar
  cases h : ρ[i]? with
  | none => rfl
  | some o => cases o <;> rfl
@[simp] theorem r_c (d : D) : fC d ρ S = some (d, S) := rfl
@[simp] theorem r_nil : aNil ρ S = some ([], S) := rfl
@[simp] theorem r_cons (f : Env → M D) (r : Env → M (List D)) : aCons f r ρ S = (f ρ S).bind fun p => (r ρ p.2).map fun q => (p.1 :: q.1, q.2) := by
  simp only [aCons, r_bd, r_pu]
  cases f ρ S with
  | none => rfl
  | some p => simp only [Option.bind_some]; cases r ρ p.2 <;> rfl
@[simp] theorem r_bin (h : D → D → M D) (f k : Env → M D) : fBin h f k ρ S = (f ρ S).bind fun p => (k ρ p.2).bind fun q => h p.1 q.1 q.2 := by simp only [fBin, r_bd]
@[simp] theorem r_call (h : List D → M D) (r : Env → M (List D)) : fCall h r ρ S = (r ρ S).bind fun p => h p.1 p.2 := by simp only [fCall, r_bd]
@[simp] theorem r_bl (f : Env → M D) : fBl f ρ S = (f ρ S).bind fun p => blD p.1 p.2 := by simp only [fBl, r_bd]
@[simp] theorem r_blD (b : Bool) : blD (.bl b) S = some (b, S) := rfl
@[simp] theorem r_tru (f : Env → M D) : fTru f ρ S = (f ρ S).bind fun p => truD p.1 p.2 := by simp only [fTru, r_bd]
@[simp] theorem r_truD (b : Bool) : truD (.bl b) S = some (b, S) := rfl
@[simp] theorem r_tNot (t : Env → M Bool) : tNot' t ρ S = (t ρ S).map fun p => (!p.1, p.2) := by
  simp only [tNot', r_bd, r_pu]
  cases t ρ S <;> rfl
@[simp] theorem r_tAnd (t u : Env → M Bool) : tAnd' t u ρ S = (t ρ S).bind fun p => if p.1 = true then u ρ p.2 else some (false, p.2) := by
  simp only [tAnd', r_bd]
  congr 1
  funext p
  split <;> rfl
@[simp] theorem r_tOr (t u : Env → M Bool) : tOr' t u ρ S = (t ρ S).bind fun p => if p.1 = true then some (true, p.2) else u ρ p.2 := by
  simp only [tOr', r_bd]
  congr 1
  funext p
  split <;> rfl
@[simp] theorem r_if (t : Env → M Bool) (f k : Env → M D) : fIf t f k ρ S = (t ρ S).bind fun p => if p.1 = true then f ρ p.2 else k ρ p.2 := by
  simp only [fIf, r_bd]
  congr 1
  funext p
  split <;> rfl
@[simp] theorem r_and (f k : Env → M D) : fAnd f k ρ S = (f ρ S).bind fun p => (truD p.1 p.2).bind fun q => if q.1 = true then k ρ q.2 else some (p.1, q.2) := by
  simp only [fAnd, r_bd]
  congr 1; funext p; congr 1; funext q
  split <;> rfl
@[simp] theorem r_or (f k : Env → M D) : fOr f k ρ S = (f ρ S).bind fun p => (truD p.1 p.2).bind fun q => if q.1 = true then some (p.1, q.2) else k ρ q.2 := by
  simp only [fOr, r_bd]
  congr 1; funext p; congr 1; funext q
  split <;> rfl
@[simp] theorem r_not (f : Env → M D) : fNot f ρ S = (f ρ S).bind fun p => (truD p.1 p.2).map fun q => (.bl (!q.1), q.2) := by
  simp only [fNot, r_bd, r_pu]
  congr 1; funext p
  cases truD p.1 p.2 <;> rfl
@[simp] theorem r_chk (n : Nat) (h : List D → M D) (ds : List D) : chk n h ds S = if ds.length = n then h ds S else none := by
  unfold chk; split <;> rfl
@[simp] theorem r_tup (ds : List D) : tupD ds S = if ds.length ≤ LINE then some (.tup ds, S) else none := by
  unfold tupD; split <;> rfl
@[simp] theorem r_lst (ds : List D) : lstD ds S = if ds.length ≤ LINE then some (.ref S.length, S ++ [.lst ds]) else none := by
  unfold lstD; split <;> rfl
@[simp] theorem r_alloc (o : Ob) : alloc o S = some (.ref S.length, S ++ [o]) := rfl
@[simp] theorem r_dictN : fDictN ρ S = some (.ref S.length, S ++ [.dN []]) := rfl
@[simp] theorem r_dict0 : fDict0 () ρ S = some (.ref S.length, S ++ [.dK []]) := rfl
/-! statements -/
@[simp] theorem r_nx : sNx ρ S = some (.nx, ρ, S) := rfl
@[simp] theorem r_bk : sBk ρ S = some (.bk, ρ, S) := rfl
@[simp] theorem r_ct : sCt ρ S = some (.ct, ρ, S) := rfl
@[simp] theorem r_sno : sNo ρ S = none := rfl
@[simp] theorem r_sif (t : Env → M Bool) (f k : FS) : sIf t f k ρ S = (t ρ S).bind fun p => if p.1 = true then f ρ p.2 else k ρ p.2 := by
  unfold sIf; cases t ρ S <;> rfl
@[simp] theorem r_ret (f : Env → M D) : sRet f ρ S = (f ρ S).map fun p => (.rt p.1, ρ, p.2) := by
  unfold sRet; cases f ρ S <;> rfl
@[simp] theorem r_retN : sRetN ρ S = some (.rt .non, ρ, S) := rfl
@[simp] theorem r_set (i : Nat) (f : Env → M D) : sSet i f ρ S = (f ρ S).map fun p => (.nx, ρ.set i (some p.1), p.2) := by
  unfold sSet; cases f ρ S <;> rfl
@[simp] theorem r_asg (g : D → Sto → Option Ups) (f : Env → M D) : sAsg g f ρ S = (f ρ S).bind fun p => (g p.1 p.2).map fun us => (.nx, upsD ρ us, p.2) := by
  unfold sAsg
  cases f ρ S with
  | none => rfl
  | some p => simp only [Option.bind_some]; cases g p.1 p.2 <;> rfl
@[simp] theorem r_par (i j : Nat) (f k : Env → M D) : sPar i j (aCons f (aCons k aNil)) ρ S = (f ρ S).bind fun p => (k ρ p.2).map fun q => (.nx, (ρ.set i (some p.1)).set j (some q.1), q.2) := by
  unfold sPar
  simp only [r_cons, r_nil, Option.map_some]
  cases f ρ S with
  | none => rfl
  | some p =>
    simp only [Option.bind_some]
    cases k ρ p.2 <;> rfl
@[simp] theorem r_eff (m : Env → M Unit) : eff m ρ S = (m ρ S).map fun p => (.nx, ρ, p.2) := by
  unfold eff; cases m ρ S <;> rfl
@[simp] theorem r_drop (f : Env → M D) : sDrop f ρ S = (f ρ S).map fun p => (.nx, ρ, p.2) := by
  simp only [sDrop, r_eff, r_bd, r_pu]
  cases f ρ S <;> rfl
@[simp] theorem r_aug (i : Nat) (h : D → D → M D) (f : Env → M D) : sAug i h f ρ S = (ρ[i]?.bind id).bind fun x => (f ρ S).bind fun p => (h x p.1 p.2).map fun q => (.nx, ρ.set i (some q.1), q.2) := by
  unfold sAug
  cases ρ[i]? with
  | none => rfl
  | some o =>
    cases o with
    | none => rfl
    | some x =>
      simp only [Option.bind_some, id]
      cases f ρ S with
      | none => rfl
      | some p => simp only [Option.bind_some]; cases h x p.1 p.2 <;> rfl
@[simp] theorem r_sub (fo fi fe : Env → M D) : sSub fo fi fe ρ S = ((fe ρ S).bind fun v => (fo ρ v.2).bind fun o => (fi ρ o.2).bind fun i => setD o.1 i.1 v.1 i.2).map fun p => (.nx, ρ, p.2) := by
  simp only [sSub, r_eff, r_bd]
@[simp] theorem r_sfld (cn f : Str) (fo fe : Env → M D) : sFld cn f fo fe ρ S = ((fe ρ S).bind fun v => (fo ρ v.2).bind fun o => setFD cn f o.1 v.1 o.2).map fun p => (.nx, ρ, p.2) := by
  simp only [sFld, r_eff, r_bd]
@[simp] theorem r_ffld (cn f : Str) (k : Env → M D) : fFld cn f k ρ S = (k ρ S).bind fun p => fldD cn f p.1 p.2 := by
  simp only [fFld, r_bd]
def isMeth (cn m : Str) (o : D) : M Unit := fun S => match o with
  | .ref i => match S[i]? with
    | some (.ins cn' fs) => if cn' = cn ∧ fs.lookup m = none then some ((), S) else none
    | _ => none
  | _ => none
@[simp] theorem r_meth (cn m : Str) (n : Nat) (h : List D → M D) (f : Env → M D) (r : Env → M (List D)) : fMeth cn m n h f r ρ S = (f ρ S).bind fun p => (isMeth cn m p.1 p.2).bind fun _ => (r ρ p.2).bind fun q => chk n h (p.1 :: q.1) q.2 := by
  simp only [fMeth, r_bd]
  congr 1
  funext p
  obtain ⟨d, S'⟩ := p
  cases d with
  | ref i =>
    simp only [isMeth]
    cases S'[i]? with
    | none => rfl
    | some o =>
      cases o with
      | ins c fs =>
        simp only
        split <;> rfl
      | _ => rfl
  | _ => rfl
def goOn (k : FS) : Out × Env × Sto → Option (Out × Env × Sto) := fun r => match r with
  | (.nx, ρ', S') => k ρ' S'
  | (.bk, ρ', S') => some (.bk, ρ', S')
  | (.ct, ρ', S') => some (.ct, ρ', S')
  | (.rt d, ρ', S') => some (.rt d, ρ', S')
@[simp] theorem r_seq (f k : FS) : sSeq f k ρ S = (f ρ S).bind (goOn k) := by
  unfold sSeq goOn
  cases f ρ S with
  | none => rfl
  | some r =>
    obtain ⟨o, r⟩ := r
    cases o <;> rfl
@[simp] theorem r_go1 (k : FS) (ρ' : Env) (S' : Sto) : goOn k (.nx, ρ', S') = k ρ' S' := rfl
@[simp] theorem r_go2 (k : FS) (ρ' : Env) (S' : Sto) : goOn k (.bk, ρ', S') = some (.bk, ρ', S') := rfl
@[simp] theorem r_go3 (k : FS) (ρ' : Env) (S' : Sto) : goOn k (.ct, ρ', S') = some (.ct, ρ', S') := rfl
@[simp] theorem r_go4 (k : FS) (d : D) (ρ' : Env) (S' : Sto) : goOn k (.rt d, ρ', S') = some (.rt d, ρ', S') := rfl
@[simp] theorem r_for (w : Env → M Src) (g : D → Sto → Option Ups) (b : FS) : sFor w g b ρ S = (w ρ S).bind fun p => forD p.1 g b p.1.n 0 ρ p.2 := by
  unfold sFor; cases w ρ S <;> rfl
@[simp] theorem r_lc (w : Env → M Src) (g : D → Sto → Option Ups) (t : Env → M Bool) (f : Env → M D) (vs : List Nat) : fLc w g t f vs ρ S = (w ρ S).bind fun p => (lcD p.1 g t f vs (wipeD ρ vs) p.1.n 0 [] p.2).map fun q => (.ref q.2.length, q.2 ++ [.lst q.1]) := by
  simp only [fLc, r_bd, r_alloc]
  cases w ρ S with
  | none => rfl
  | some p => simp only [Option.bind_some]; cases lcD p.1 g t f vs (wipeD ρ vs) p.1.n 0 [] p.2 <;> rfl
@[simp] theorem r_isi (T : String) (f : DL.Env → M D) : fIsi T f ρ S = (f ρ S).bind fun p => isiD T p.1 p.2 := by simp only [fIsi, r_bd]
@[simp] theorem r_yes : tYesD ρ S = some (true, S) := rfl
@[simp] theorem r_fseq (f : Env → M D) : fSeq f ρ S = (f ρ S).bind fun p => seqS p.1 p.2 := by simp only [fSeq, r_bd]
@[simp] theorem r_seqT (ds : List D) : seqS (.tup ds) S = some (sqSrc ds, S) := rfl
@[simp] theorem r_fenu (r : Env → M (List D)) : fEnu2 r ρ S = (r ρ S).bind fun p => enuS2 p.1 p.2 := by simp only [fEnu2, r_bd]
@[simp] theorem r_enuT (ds : List D) : enuS2 [.tup ds] S = some (enuFSrc ds, S) := rfl
@[simp] theorem r_frng1 (r : Env → M (List D)) : fRng1 r ρ S = (r ρ S).bind fun p => rng1S p.1 p.2 := by simp only [fRng1, r_bd]
@[simp] theorem r_frng2 (r : Env → M (List D)) : fRng2 r ρ S = (r ρ S).bind fun p => rng2S p.1 p.2 := by simp only [fRng2, r_bd]
@[simp] theorem r_gNm (i : Nat) (d : D) : gNm i d S = some [(i, d)] := rfl
@[simp] theorem r_gsNil : gsNil [] S = some [] := rfl
@[simp] theorem r_gsCons (f : D → Sto → Option Ups) (k : List D → Sto → Option Ups) (d : D) (r : List D) : gsCons f k (d :: r) S = (f d S).bind fun us => (k r S).map fun ws => us ++ ws := by
  simp only [gsCons]
  cases f d S with
  | none => rfl
  | some a => simp only [Option.bind_some]; cases k r S <;> rfl
@[simp] theorem r_gUnT (n : Nat) (t : List D → Sto → Option Ups) (ds : List D) : gUn n t (.tup ds) S = if ds.length = n then t ds S else none := by
  simp only [gUn]
@[simp] theorem r_ups0 : upsD ρ [] = ρ := rfl
@[simp] theorem r_ups1 (i : Nat) (d : D) (r : Ups) : upsD ρ ((i, d) :: r) = upsD (ρ.set i (some d)) r := rfl
@[simp] theorem r_wipe0 : wipeD ρ [] = ρ := rfl
@[simp] theorem r_wipe1 (v : Nat) (vs : List Nat) : wipeD ρ (v :: vs) = (wipeD ρ vs).set v none := rfl
@[simp] theorem r_app (f k : Env → M D) : fApp f k ρ S = (f ρ S).bind fun p => (isLst p.1 p.2).bind fun q => (k ρ q.2).bind fun x => appD q.1 x.1 x.2 := by
  simp only [fApp, r_bd, Option.bind_assoc]
@[simp] theorem r_sl (f : Env → M D) (l h : Env → M (Option Int)) : fSl f l h ρ S = (f ρ S).bind fun p => (l ρ p.2).bind fun q => (h ρ q.2).bind fun r => slD p.1 q.1 r.1 r.2 := by
  simp only [fSl, r_bd]
@[simp] theorem r_oNone : oNone ρ S = some (none, S) := rfl
theorem defD_eq (n : Nat) (b : FS) (ds : List D) : defD n b ds S = outD (b (ds.map some ++ List.replicate (n - ds.length) none) S) := rfl
@[simp] theorem r_out1 (ρ' : Env) : outD (some (.nx, ρ', S)) = some (.non, S) := rfl
@[simp] theorem r_out2 (d : D) (ρ' : Env) : outD (some (.rt d, ρ', S)) = some (d, S) := rfl
@[simp] theorem r_out3 : outD none = none := rfl
end

theorem bls_map (bs : List Bool) : blsD (bs.map D.bl) = some bs := by
  induction bs with
  | nil => rfl
  | cons b r ih => simp only [List.map_cons, blsD, ih, Option.map_some]
theorem all_at {S : Sto} {h : Nat} {bs : List Bool} (e : S[h]? = some (.lst (bs.map D.bl))) : allD [.ref h] S = some (.bl (bs.all id), S) := by
  simp only [allD, bqD, listD, itemsD, e, bls_map]
theorem any_at {S : Sto} {h : Nat} {bs : List Bool} (e : S[h]? = some (.lst (bs.map D.bl))) : anyD [.ref h] S = some (.bl (bs.any id), S) := by
  simp only [anyD, bqD, listD, itemsD, e, bls_map]
@[simp] theorem get_end (S : Sto) (o : Ob) (T : Sto) : (S ++ o :: T)[S.length]? = some o := by simp
@[simp] theorem get_end1 (S : Sto) (o : Ob) : (S ++ [o])[S.length]? = some o := by simp
theorem app_at {S : Sto} {h : Nat} {xs : List D} (x : D) (e : S[h]? = some (.lst xs)) (hl : xs.length < LINE) : appD (.ref h) x S = some (.non, S.set h (.lst (xs ++ [x]))) := by
  simp only [appD, e, if_pos hl]
theorem isLst_at {S : Sto} {h : Nat} {xs : List D} (e : S[h]? = some (.lst xs)) : isLst (.ref h) S = some (.ref h, S) := by
  simp only [isLst, e]
theorem r_oSome {f : DL.Env → M D} {ρ : DL.Env} {S S' : Sto} {i : Int} (e : f ρ S = some (.int i, S')) : oSome f ρ S = some (some i, S') := by
  simp only [oSome, r_bd, e, Option.bind_some, r_pu]
theorem cut_to {xs : List D} {i : Nat} (h : i ≤ xs.length) : cutD xs none (some (i : Int)) = xs.take i := by
  unfold cutD
  have e1 : HT.sIx xs.length 0 none = 0 := rfl
  have e2 : HT.sIx xs.length xs.length (some (i : Int)) = i := by rw [HT.sIx_nat]; omega
  rw [e1, e2]; simp
theorem cut_from {xs : List D} {i : Nat} (h : i ≤ xs.length) : cutD xs (some (i : Int)) none = xs.drop i := by
  unfold cutD
  have e1 : HT.sIx xs.length xs.length none = xs.length := rfl
  have e2 : HT.sIx xs.length 0 (some (i : Int)) = i := by rw [HT.sIx_nat]; omega
  rw [e1, e2]
  exact List.take_of_length_le (by simp)
/-! ### loops -/
/-- what is walked is these items, whatever is made behind -/
structure Walks (src : Src) (its : List D) (S : Sto) : Prop where
  n : src.n = its.length
  ok : ∀ T, src.ok (S ++ T) = true
  it : ∀ T i, src.item i (S ++ T) = its[i]?
theorem walks_sq (ds : List D) (S : Sto) : Walks (sqSrc ds) ds S := ⟨rfl, fun _ => rfl, fun _ _ => rfl⟩
theorem walks_lst {S : Sto} {h : Nat} {xs : List D} (e : S[h]? = some (.lst xs)) : Walks (lstSrc h xs.length) xs S := by
  have hl : h < S.length := (List.getElem?_eq_some_iff.mp e).1
  refine ⟨rfl, fun T => ?_, fun T i => ?_⟩
  · simp only [lstSrc, List.getElem?_append_left hl, e, Nat.le_refl, decide_true]
  · simp only [lstSrc, List.getElem?_append_left hl, e]
def enumD (ds : List D) : List D := ds.mapIdx fun i d => .tup [.int i, d]
theorem enumD_get (ds : List D) (i : Nat) : (enumD ds)[i]? = match ds[i]? with
  | some d => some (.tup [.int i, d])
  | none => none := by
  unfold enumD
  rw [List.getElem?_mapIdx]
  cases ds[i]? <;> rfl
theorem walks_enuF (ds : List D) (S : Sto) : Walks (enuFSrc ds) (enumD ds) S := ⟨by simp [enuFSrc, enumD], fun _ => rfl, fun _ i => (enumD_get ds i).symm⟩
theorem walks_enu {S : Sto} {h : Nat} {xs : List D} (e : S[h]? = some (.lst xs)) : Walks (enuSrc h xs.length) (enumD xs) S := by
  have w := walks_lst e
  refine ⟨by simp [enuSrc, enumD], fun T => w.ok T, fun T i => ?_⟩
  have := w.it T i
  simp only [enuSrc]
  rw [this, enumD_get] <;> (cases xs[i]? <;> rfl)
theorem walks_rng (lo : Int) (n : Nat) (S : Sto) : Walks (rngSrc lo n) ((List.range n).map fun i : Nat => D.int (lo + i)) S → True := fun _ => trivial
/-- a comprehension, item by item -/
theorem lc_walk {src : Src} {its : List D} {S0 : Sto} (W : Walks src its S0) {g : D → Sto → Option Ups} {t : Env → M Bool} {f : Env → M D} {vs : List Nat} {ρ : Env} {keep : D → Bool} {y : D → D} (hl : its.length ≤ LINE)
    (h : ∀ d ∈ its, ∀ T, ∃ us T', g d (S0 ++ T) = some us ∧ (us.all fun p => decide (p.1 ∈ vs)) = true ∧ t (upsD ρ us) (S0 ++ T) = some (keep d, S0 ++ T) ∧ (keep d = true → f (upsD ρ us) (S0 ++ T) = some (y d, S0 ++ T ++ T'))) :
    ∀ (n i : Nat) (acc : List D) (T : Sto), n + i = its.length → acc.length ≤ i → ∃ T', lcD src g t f vs ρ n i acc (S0 ++ T) = some (acc ++ ((its.drop i).filter keep).map y, S0 ++ T ++ T')
  | 0, i, acc, T, hn, _ => by
    refine ⟨[], ?_⟩
    simp only [lcD, W.ok T, if_true]
    rw [List.drop_eq_nil_of_le (by omega)]
    simp
  | n + 1, i, acc, T, hn, ha => by
    have hi : i < its.length := by omega
    obtain ⟨us, T', h1, h2, h3, h4⟩ := h its[i] (List.getElem_mem hi) T
    have e : its.drop i = its[i] :: its.drop (i + 1) := List.drop_eq_getElem_cons hi
    simp only [lcD, W.it T i, List.getElem?_eq_getElem hi, h1, h2, if_true, h3]
    cases hk : keep its[i] with
    | false =>
      obtain ⟨T2, e2⟩ := lc_walk W hl h n (i + 1) acc T (by omega) (by omega)
      refine ⟨T2, ?_⟩
      simp only [e2]
      rw [e, List.filter_cons_of_neg (by simp [hk])]
    | true =>
      simp only [h4 hk]
      rw [if_pos (by omega)]
      obtain ⟨T2, e2⟩ := lc_walk W hl h n (i + 1) (acc ++ [y its[i]]) (T ++ T') (by omega) (by simp; omega)
      refine ⟨T' ++ T2, ?_⟩
      rw [← List.append_assoc] at e2
      rw [e2, e, List.filter_cons_of_pos hk]
      simp
theorem lc_all {src : Src} {its : List D} {S0 : Sto} (W : Walks src its S0) {g : D → Sto → Option Ups} {t : Env → M Bool} {f : Env → M D} {vs : List Nat} {ρ : Env} {keep : D → Bool} {y : D → D} (hl : its.length ≤ LINE)
    (h : ∀ d ∈ its, ∀ T, ∃ us T', g d (S0 ++ T) = some us ∧ (us.all fun p => decide (p.1 ∈ vs)) = true ∧ t (upsD ρ us) (S0 ++ T) = some (keep d, S0 ++ T) ∧ (keep d = true → f (upsD ρ us) (S0 ++ T) = some (y d, S0 ++ T ++ T'))) :
    ∃ T', lcD src g t f vs ρ src.n 0 [] S0 = some ((its.filter keep).map y, S0 ++ T') := by
  obtain ⟨T', e⟩ := lc_walk W hl h src.n 0 [] [] W.n (Nat.le_refl _)
  simp only [List.append_nil, List.nil_append, List.drop_zero] at e
  exact ⟨T', e⟩
/-- a comprehension that makes nothing on its way -/
theorem lc_pure {src : Src} {its : List D} {S0 : Sto} (W : Walks src its S0) {g : D → Sto → Option Ups} {t : Env → M Bool} {f : Env → M D} {vs : List Nat} {ρ : Env} {keep : D → Bool} {y : D → D} (hl : its.length ≤ LINE)
    (h : ∀ d ∈ its, ∃ us, g d S0 = some us ∧ (us.all fun p => decide (p.1 ∈ vs)) = true ∧ t (upsD ρ us) S0 = some (keep d, S0) ∧ (keep d = true → f (upsD ρ us) S0 = some (y d, S0))) :
    lcD src g t f vs ρ src.n 0 [] S0 = some ((its.filter keep).map y, S0) := by
  have go : ∀ (n i : Nat) (acc : List D), n + i = its.length → acc.length ≤ i → lcD src g t f vs ρ n i acc S0 = some (acc ++ ((its.drop i).filter keep).map y, S0) := by
    intro n
    induction n with
    | zero =>
      intro i acc hn _
      have := W.ok []
      rw [List.append_nil] at this
      simp only [lcD, this, if_true]
      rw [List.drop_eq_nil_of_le (by omega)]
      simp
    | succ n ih =>
      intro i acc hn ha
      have hi : i < its.length := by omega
      obtain ⟨us, h1, h2, h3, h4⟩ := h its[i] (List.getElem_mem hi)
      have e : its.drop i = its[i] :: its.drop (i + 1) := List.drop_eq_getElem_cons hi
      have wi := W.it [] i
      rw [List.append_nil] at wi
      simp only [lcD, wi, List.getElem?_eq_getElem hi, h1, h2, if_true, h3]
      cases hk : keep its[i] with
      | false =>
        simp only [ih (i + 1) acc (by omega) (by omega)]
        rw [e, List.filter_cons_of_neg (by simp [hk])]
      | true =>
        simp only [h4 hk]
        rw [if_pos (by omega), ih (i + 1) (acc ++ [y its[i]]) (by omega) (by simp; omega), e, List.filter_cons_of_pos hk]
        simp
  have e := go src.n 0 [] W.n (Nat.le_refl _)
  simpa using e
theorem lc_map {src : Src} {its : List D} {S0 : Sto} (W : Walks src its S0) {g : D → Sto → Option Ups} {f : Env → M D} {vs : List Nat} {ρ : Env} {y : D → D} (hl : its.length ≤ LINE)
    (h : ∀ d ∈ its, ∃ us, g d S0 = some us ∧ (us.all fun p => decide (p.1 ∈ vs)) = true ∧ f (upsD ρ us) S0 = some (y d, S0)) : lcD src g tYesD f vs ρ src.n 0 [] S0 = some (its.map y, S0) := by
  have := lc_pure W (keep := fun _ => true) (t := tYesD) (y := y) hl fun d hd => by
    obtain ⟨us, h1, h2, h3⟩ := h d hd
    exact ⟨us, h1, h2, rfl, fun _ => h3⟩
  rw [this, List.filter_eq_self.mpr fun _ _ => rfl]
/-- a for loop whose body goes on to its end -/
theorem for_inv {src : Src} {g : D → Sto → Option Ups} {b : FS} (I : Nat → Env → Sto → Prop) (h : ∀ i ρ S, i < src.n → I i ρ S → ∃ d us ρ' S', src.item i S = some d ∧ g d S = some us ∧ b (upsD ρ us) S = some (.nx, ρ', S') ∧ I (i + 1) ρ' S') (ok : ∀ ρ S, I src.n ρ S → src.ok S = true) :
    ∀ {ρ : Env} {S : Sto}, I 0 ρ S → ∃ ρ' S', forD src g b src.n 0 ρ S = some (.nx, ρ', S') ∧ I src.n ρ' S' := by
  have go : ∀ (n i : Nat) (ρ : Env) (S : Sto), n + i = src.n → I i ρ S → ∃ ρ' S', forD src g b n i ρ S = some (.nx, ρ', S') ∧ I src.n ρ' S' := by
    intro n
    induction n with
    | zero =>
      intro i ρ S hn hI
      have : i = src.n := by omega
      subst this
      exact ⟨ρ, S, by simp only [forD, ok ρ S hI, if_true], hI⟩
    | succ n ih =>
      intro i ρ S hn hI
      obtain ⟨d, us, ρ', S', h1, h2, h3, h4⟩ := h i ρ S (by omega) hI
      obtain ⟨ρ2, S2, e, h5⟩ := ih (i + 1) ρ' S' (by omega) h4
      exact ⟨ρ2, S2, by simp only [forD, h1, h2, h3, e], h5⟩
  exact fun {ρ S} hI => go src.n 0 ρ S (by omega) hI
/-- a comprehension by an invariant -/
theorem lc_inv {src : Src} {g : D → Sto → Option Ups} {t : Env → M Bool} {f : Env → M D} {vs : List Nat} {ρ : Env} (J : Nat → List D → Sto → Prop)
    (h : ∀ i acc S, i < src.n → J i acc S → ∃ d us, src.item i S = some d ∧ g d S = some us ∧ (us.all fun p => decide (p.1 ∈ vs)) = true ∧
      ((∃ S', t (upsD ρ us) S = some (false, S') ∧ J (i + 1) acc S') ∨ ∃ S' x S'', t (upsD ρ us) S = some (true, S') ∧ f (upsD ρ us) S' = some (x, S'') ∧ acc.length < LINE ∧ J (i + 1) (acc ++ [x]) S''))
    (ok : ∀ acc S, J src.n acc S → src.ok S = true) : ∀ {S : Sto}, J 0 [] S → ∃ acc S', lcD src g t f vs ρ src.n 0 [] S = some (acc, S') ∧ J src.n acc S' := by
  have go : ∀ (n i : Nat) (acc : List D) (S : Sto), n + i = src.n → J i acc S → ∃ acc' S', lcD src g t f vs ρ n i acc S = some (acc', S') ∧ J src.n acc' S' := by
    intro n
    induction n with
    | zero =>
      intro i acc S hn hJ
      have : i = src.n := by omega
      subst this
      exact ⟨acc, S, by simp only [lcD, ok acc S hJ, if_true], hJ⟩
    | succ n ih =>
      intro i acc S hn hJ
      obtain ⟨d, us, h1, h2, h3, h4⟩ := h i acc S (by omega) hJ
      rcases h4 with ⟨S', h5, h6⟩ | ⟨S', x, S'', h5, h6, h7, h8⟩
      · obtain ⟨acc', S2, e, h9⟩ := ih (i + 1) acc S' (by omega) h6
        exact ⟨acc', S2, by simp only [lcD, h1, h2, h3, h5, if_true, e], h9⟩
      · obtain ⟨acc', S2, e, h9⟩ := ih (i + 1) (acc ++ [x]) S'' (by omega) h8
        exact ⟨acc', S2, by simp only [lcD, h1, h2, h3, h5, h6, if_pos h7, if_true, e], h9⟩
  exact fun {S} hJ => go src.n 0 [] S (by omega) hJ
end DL

set_option Elab.async false
set_option linter.all false
set_option maxRecDepth 100000
set_option maxHeartbeats 4000000
/-! K39m: kinds of words, as data -/
namespace K39
open PySem PySem.Spec L2 DL
open PyProof.Rows hiding St

def cD : Bool → D
  | false => .str ks_15
  | true => .str ks_14
def wD (w : List Bool) : D := .tup (w.map cD)
abbrev Lt := Bool × Bool
def row1 (c : Bool) : D := .tup [.tup [], cD c, .tup []]
def k1D : Lt → D
  | (false, false) => .tup []
  | (true, false) => .tup [row1 false]
  | (true, true) => .tup [row1 false, row1 true]
  | (false, true) => .tup [row1 true]
abbrev Row := Lt × Bool × Lt
def rowD (r : Row) : D := .tup [k1D r.1, cD r.2.1, k1D r.2.2]
def lts : List Lt := [(false, false), (true, false), (true, true), (false, true)]
def all32 : List Row := lts.flatMap fun l => [false, true].flatMap fun c => lts.map fun r => (l, c, r)
def U1 : List D := [row1 false, row1 true]
def U2 : List D := all32.map rowD
def uni : Nat → List D
  | 1 => U1
  | 2 => U2
  | _ => []
theorem strict1 : strictS U1 = true := by decide +kernel
theorem strict2 : strictS U2 = true := by decide +kernel
theorem sd1 : ∀ d ∈ U1, sd 4 d = true := by
  have : (U1.all (sd 4)) = true := by decide +kernel
  exact List.all_eq_true.mp this
theorem sd2 : ∀ d ∈ U2, sd 4 d = true := by
  have : (U2.all (sd 4)) = true := by decide +kernel
  exact List.all_eq_true.mp this
theorem alike1 : alikeB (U1.map D.pdT) = true := by decide +kernel
theorem alike2 : alikeB (U2.map D.pdT) = true := by decide +kernel
theorem tup1 : (U1.map D.pdT).all tupB = true := by decide +kernel
theorem tup2 : (U2.map D.pdT).all tupB = true := by decide +kernel
theorem strictS_pair : ∀ {xs : List D}, strictS xs = true → xs.Pairwise fun a b => PySem.W.dataLt a.pdT b.pdT = true := by
  intro xs h
  have p := strict_pairwise xs h
  refine p.imp fun {a b} q => ?_
  rw [dLe_eq] at q
  simpa using q
theorem pair_strictS : ∀ {xs : List D}, (xs.Pairwise fun a b => PySem.W.dataLt a.pdT b.pdT = true) → strictS xs = true
  | [], _ => rfl
  | [_], _ => rfl
  | x :: y :: r, h => by
    simp only [strictS, Bool.and_eq_true]
    exact ⟨(List.pairwise_cons.mp h).1 y List.mem_cons_self, pair_strictS (List.pairwise_cons.mp h).2⟩
theorem lt_irrefl (a : D) : PySem.W.dataLt a.pdT a.pdT = false := by
  have := dLe_total.total a a
  rw [dLe_eq] at this
  simpa using this
theorem strict_nodup {xs : List D} (h : strictS xs = true) : xs.Nodup :=
  (strictS_pair h).imp fun {a b} q e => by rw [e, lt_irrefl] at q; cases q
/-- insertion keeps order -/
theorem insS_le (x : D) : ∀ {ys : List D}, (ys.Pairwise fun a b => PySem.W.dataLe false D.pdT a b = true) → (insS x ys).Pairwise fun a b => PySem.W.dataLe false D.pdT a b = true
  | [], _ => by simp [insS]
  | y :: ys, h => by
    unfold insS
    have hy := (List.pairwise_cons.mp h).1
    split
    · rename_i hlt
      have hxy : PySem.W.dataLe false D.pdT x y = true := by
        rcases dLe_total.total x y with q | q
        · exact q
        · rw [dLe_eq, hlt] at q; cases q
      refine List.pairwise_cons.mpr ⟨fun z hz => ?_, h⟩
      rcases List.mem_cons.mp hz with e | hz
      · subst e; exact hxy
      · exact dLe_total.trans _ _ _ hxy (hy z hz)
    · rename_i hlt
      have hyx : PySem.W.dataLe false D.pdT y x = true := by rw [dLe_eq]; simpa using hlt
      refine List.pairwise_cons.mpr ⟨fun z hz => ?_, insS_le x (List.pairwise_cons.mp h).2⟩
      rcases List.mem_cons.mp ((insS_perm x ys).mem_iff.mp hz) with e | hz
      · subst e; exact hyx
      · exact hy z hz
theorem sortS_le : ∀ xs : List D, (sortS xs).Pairwise fun a b => PySem.W.dataLe false D.pdT a b = true
  | [] => .nil
  | x :: xs => insS_le x (sortS_le xs)
theorem sortS_to {xs ys : List D} (h : strictS ys = true) (p : ys.Perm xs) : sortS xs = ys := by
  have p1 := strict_pairwise _ h
  have pm : (sortS xs).Perm ys := (sortS_perm xs).trans p.symm
  refine List.Perm.eq_of_pairwise (le := fun a b => PySem.W.dataLe false D.pdT a b = true) (fun a b ha hb h1 h2 => ?_) (sortS_le xs) (p1.imp fun {a b} q => ?_) pm
  · have ha' := pm.mem_iff.mp ha
    obtain ⟨i, hi, rfl⟩ := List.mem_iff_getElem.mp ha'
    obtain ⟨j, hj, rfl⟩ := List.mem_iff_getElem.mp hb
    rcases Nat.lt_trichotomy i j with l | l | l
    · have := List.pairwise_iff_getElem.mp p1 i j hi hj l
      rw [h2] at this; cases this
    · subst l; rfl
    · have := List.pairwise_iff_getElem.mp p1 j i hj hi l
      rw [h1] at this; cases this
  · rcases dLe_total.total a b with z | z
    · exact z
    · rw [q] at z; cases z
open Classical in
noncomputable def sub (U l : List D) : List D := U.filter fun d => decide (d ∈ l)
open Classical in
theorem sub_perm {U l : List D} (hU : strictS U = true) (hl : l.Nodup) (hs : ∀ d ∈ l, d ∈ U) : (sub U l).Perm l := by
  refine (List.perm_ext_iff_of_nodup ((strict_nodup hU).filter _) hl).mpr fun d => ?_
  simp only [sub, List.mem_filter, decide_eq_true_eq]
  exact ⟨fun h => h.2, fun h => ⟨hs d h, h⟩⟩
theorem sub_strict {U l : List D} (hU : strictS U = true) : strictS (sub U l) = true := pair_strictS ((strictS_pair hU).sublist List.filter_sublist)
/-- sorted of rows of one universe -/
theorem sorted_uni {U l : List D} {S : Sto} {h n : Nat} (hU : strictS U = true) (hd : ∀ d ∈ U, sd n d = true) (hn : n ≤ 60) (ha : alikeB (U.map D.pdT) = true) (ht : (U.map D.pdT).all tupB = true) (e : S[h]? = some (.lst l)) (hl : l.Nodup) (hs : ∀ d ∈ l, d ∈ U) :
    DL.sortedS [.ref h] S = some (.ref S.length, S ++ [.lst (sub U l)]) := by
  have e1 : listD (.ref h) S = some l := by simp only [listD, itemsD, e]
  have e2 : D.pds l = some (l.map D.pdT) := pds_of fun d hd' => sd_pd n d (hd d (hs d hd'))
  have m : ∀ p ∈ l.map D.pdT, p ∈ U.map D.pdT := fun p hp => by
    obtain ⟨d, h1, rfl⟩ := List.mem_map.mp hp
    exact List.mem_map_of_mem (hs d h1)
  have e3 : sortS l = sub U l := sortS_to (sub_strict hU) (sub_perm hU hl hs)
  simp only [DL.sortedS, e1, e2]
  rw [if_pos, e3]
  refine ⟨?_, ?_, ?_, by rw [e3]; exact sub_strict hU⟩
  · refine List.all_eq_true.mpr fun p hp => List.all_eq_true.mpr fun q hq => ?_
    exact List.all_eq_true.mp (List.all_eq_true.mp ha p (m p hp)) q (m q hq)
  · unfold sortB
    rw [Bool.or_eq_true]
    exact .inl (List.all_eq_true.mpr fun p hp => List.all_eq_true.mp ht p (m p hp))
  · refine List.all_eq_true.mpr fun p hp => decide_eq_true ?_
    obtain ⟨d, h1, rfl⟩ := List.mem_map.mp hp
    exact Nat.le_trans (sd_dep n d (hd d (hs d h1))) hn
open Classical in
/-- the items that come first, each once -/
noncomputable def dd (acc : List D) (x : D) : List D := if x ∈ acc then acc else acc ++ [x]
theorem dd_nodup {acc : List D} {x : D} (h : acc.Nodup) : (dd acc x).Nodup := by
  unfold dd
  split
  · exact h
  · rename_i hx
    rw [List.nodup_append]
    exact ⟨h, by simp, fun a ha b hb e => hx (by rw [List.mem_singleton.mp hb] at e; exact e ▸ ha)⟩
theorem dd_mem {acc : List D} {x y : D} : y ∈ dd acc x ↔ y ∈ acc ∨ y = x := by
  unfold dd
  split
  · rename_i h
    exact ⟨.inl, fun z => z.elim id fun e => e ▸ h⟩
  · simp
noncomputable def dds (xs : List D) : List D := xs.foldl dd []
theorem dds_snoc (xs : List D) (x : D) : dds (xs ++ [x]) = dd (dds xs) x := by simp [dds, List.foldl_append]
theorem dds_nodup (xs : List D) : (dds xs).Nodup := by
  have : ∀ (xs acc : List D), acc.Nodup → (xs.foldl dd acc).Nodup := by
    intro xs
    induction xs with
    | nil => exact fun acc h => h
    | cons x r ih => exact fun acc h => ih _ (dd_nodup h)
  exact this xs [] .nil
theorem dds_mem (xs : List D) (y : D) : y ∈ dds xs ↔ y ∈ xs := by
  have : ∀ (xs acc : List D), y ∈ xs.foldl dd acc ↔ y ∈ acc ∨ y ∈ xs := by
    intro xs
    induction xs with
    | nil => intro acc; simp
    | cons x r ih => intro acc; rw [List.foldl_cons, ih, dd_mem]; simp [or_assoc]
  simpa [dds] using this xs []
open Classical in
theorem sub_dds (U xs : List D) : sub U (dds xs) = sub U xs := by
  unfold sub
  congr 1
  funext d
  simp only [dds_mem]
theorem dds_length (xs : List D) : (dds xs).length ≤ xs.length := by
  have : ∀ (xs acc : List D), (xs.foldl dd acc).length ≤ acc.length + xs.length := by
    intro xs
    induction xs with
    | nil => intro acc; simp
    | cons x r ih =>
      intro acc
      rw [List.foldl_cons]
      refine Nat.le_trans (ih _) ?_
      unfold dd
      split <;> simp <;> omega
  simpa [dds] using this xs []
/-- the kind of a word -/
noncomputable def kr : Nat → List Bool → D
  | 0, _ => .tup []
  | r + 1, w => .tup (sub (uni (r + 1)) ((List.range w.length).map fun i => .tup [kr r (w.take i), cD (w.getD i false), kr r (w.drop (i + 1))]))
noncomputable def rowsD (r : Nat) (w : List Bool) : List D := (List.range w.length).map fun i => .tup [kr r (w.take i), cD (w.getD i false), kr r (w.drop (i + 1))]
theorem kr_succ (r : Nat) (w : List Bool) : kr (r + 1) w = .tup (sub (uni (r + 1)) (rowsD r w)) := rfl
theorem kr0 (w : List Bool) : kr 0 w = .tup [] := rfl
theorem cD_inj {a b : Bool} (h : cD a = cD b) : a = b := by
  cases a <;> cases b <;> first | rfl | (exact absurd h (by simp only [cD, D.str.injEq]; decide +kernel))
theorem row1_inj {a b : Bool} (h : row1 a = row1 b) : a = b := by
  simp only [row1, D.tup.injEq, List.cons.injEq] at h
  exact cD_inj h.2.1
theorem rows1 (w : List Bool) : rowsD 0 w = w.map row1 := by
  unfold rowsD
  apply List.ext_getElem
  · simp
  · intro i h1 h2
    simp only [List.getElem_map, List.getElem_range, kr0, row1]
    simp only [List.length_map, List.length_range] at h1
    rw [List.getD_eq_getElem?_getD, List.getElem?_eq_getElem h1]
    rfl
def lt (w : List Bool) : Lt := (w.contains false, w.contains true)
theorem kr1 (w : List Bool) : kr 1 w = k1D (lt w) := by
  rw [kr_succ, rows1]
  have ha : (row1 false ∈ w.map row1) ↔ false ∈ w := by
    rw [List.mem_map]
    exact ⟨fun ⟨c, h, e⟩ => row1_inj e ▸ h, fun h => ⟨_, h, rfl⟩⟩
  have hb : (row1 true ∈ w.map row1) ↔ true ∈ w := by
    rw [List.mem_map]
    exact ⟨fun ⟨c, h, e⟩ => row1_inj e ▸ h, fun h => ⟨_, h, rfl⟩⟩
  simp only [sub, uni, U1, List.filter_cons, List.filter_nil, ha, hb, lt, List.contains_iff_mem]
  by_cases h1 : false ∈ w <;> by_cases h2 : true ∈ w <;> simp [h1, h2, k1D]
theorem rows2_mem (w : List Bool) : ∀ d ∈ rowsD 1 w, d ∈ U2 := by
  intro d hd
  obtain ⟨i, _, rfl⟩ := List.mem_map.mp hd
  rw [kr1, kr1]
  refine List.mem_map.mpr ⟨(lt (w.take i), w.getD i false, lt (w.drop (i + 1))), ?_, rfl⟩
  generalize lt (w.take i) = l
  generalize lt (w.drop (i + 1)) = r
  generalize w.getD i false = c
  obtain ⟨l1, l2⟩ := l
  obtain ⟨r1, r2⟩ := r
  cases l1 <;> cases l2 <;> cases r1 <;> cases r2 <;> cases c <;> decide
theorem rows1_mem (w : List Bool) : ∀ d ∈ rowsD 0 w, d ∈ U1 := by
  intro d hd
  rw [rows1] at hd
  obtain ⟨c, _, rfl⟩ := List.mem_map.mp hd
  cases c <;> simp [U1]
theorem rows_mem {r : Nat} (hr : r ≤ 1) (w : List Bool) : ∀ d ∈ rowsD r w, d ∈ uni (r + 1) := by
  rcases Nat.le_one_iff_eq_zero_or_eq_one.mp hr with rfl | rfl
  · exact rows1_mem w
  · exact rows2_mem w
theorem uni_sd {r : Nat} : ∀ d ∈ uni r, sd 4 d = true := by
  intro d hd
  match r, hd with
  | 1, hd => exact sd1 d hd
  | 2, hd => exact sd2 d hd
theorem uni_strict {r : Nat} : strictS (uni r) = true := by
  match r with
  | 0 => rfl
  | 1 => exact strict1
  | 2 => exact strict2
  | _ + 3 => rfl
theorem uni_alike {r : Nat} : alikeB ((uni r).map D.pdT) = true := by
  match r with
  | 0 => rfl
  | 1 => exact alike1
  | 2 => exact alike2
  | _ + 3 => rfl
theorem uni_tup {r : Nat} : ((uni r).map D.pdT).all tupB = true := by
  match r with
  | 0 => rfl
  | 1 => exact tup1
  | 2 => exact tup2
  | _ + 3 => rfl
theorem sorted_r {r : Nat} {l : List D} {S : Sto} {h : Nat} (e : S[h]? = some (.lst l)) (hl : l.Nodup) (hs : ∀ d ∈ l, d ∈ uni r) : DL.sortedS [.ref h] S = some (.ref S.length, S ++ [.lst (sub (uni r) l)]) :=
  sorted_uni uni_strict uni_sd (by decide) uni_alike uni_tup e hl hs
theorem kr_sd {r : Nat} (hr : r ≤ 2) (w : List Bool) : sd 5 (kr r w) = true := by
  cases r with
  | zero => rfl
  | succ r =>
    rw [kr_succ]
    refine sd_mk fun d hd => ?_
    unfold sub at hd
    exact uni_sd d (List.mem_filter.mp hd).1
theorem cD_sd (n : Nat) (c : Bool) : sd n (cD c) = true := by
  have h : ∀ c : Bool, ∃ x, cD c = .str x ∧ PyData.strOk x = true := by
    intro c; cases c
    · exact ⟨_, rfl, by decide +kernel⟩
    · exact ⟨_, rfl, by decide +kernel⟩
  obtain ⟨x, e, hx⟩ := h c
  rw [e]
  cases n <;> exact hx
theorem wD_sd (n : Nat) (w : List Bool) : sd (n + 1) (wD w) = true := sd_mk fun d hd => by
  obtain ⟨c, _, rfl⟩ := List.mem_map.mp hd
  exact cD_sd n c
end K39

set_option Elab.async false
set_option linter.all false
set_option maxRecDepth 100000
set_option maxHeartbeats 4000000
/-! K39s: what the defs compute -/
namespace K39
open PySem PySem.Spec L2 DL
open PyProof.Rows hiding St

theorem F_is_name (k : Nat) : F (k + 1) .is_name = pureD (defD 2 (b_is_name (F k))) := rfl
theorem F_check_word (k : Nat) : F (k + 1) .check_word = pureD (defD 2 (b_check_word (F k))) := rfl
theorem F_check_rounds (k : Nat) : F (k + 1) .check_rounds = pureD (defD 1 (b_check_rounds (F k))) := rfl
theorem F_known (k : Nat) : F (k + 1) .known_kind = scopeD (defD 8 (b_known_kind (F k))) := rfl
theorem F_kind_of (k : Nat) : F (k + 1) .kind_of = pureD (defD 2 (b_kind_of (F k))) := rfl
theorem of_fst {o : Option (D × Sto)} {d : D} (h : o.map (·.1) = some d) : ∃ T, o = some (d, T) := by
  obtain ⟨p, h1, h2⟩ := Option.map_eq_some_iff.mp h
  exact ⟨p.2, by rw [h1, ← h2]⟩
theorem is_name_ok (k : Nat) (c : Bool) (S : Sto) : F (k + 1) .is_name [cD c] S = some (.bl true, S) := by
  have h : ∃ T, defD 2 (b_is_name (F k)) [cD c] [] = some (.bl true, T) := by
    cases c
    · exact of_fst (by kernel_rfl)
    · exact of_fst (by kernel_rfl)
  obtain ⟨T, h⟩ := h
  rw [F_is_name]
  exact pureD_of S h (by cases c <;> rfl) rfl
theorem lenW (w : List Bool) (S : Sto) : lenD2 [wD w] S = some (.int w.length, S) := by
  simp [lenD2, lenD, wD, itemsD]
theorem isiW (w : List Bool) (S : Sto) : isiD "tuple" (wD w) S = some (.bl true, S) := rfl
theorem seqW (w : List Bool) (S : Sto) : seqS (wD w) S = some (sqSrc (w.map cD), S) := rfl
theorem check_word_ok (k : Nat) (w : List Bool) (hw : w.length ≤ 12) (S : Sto) : F (k + 2) .check_word [wD w] S = some (.non, S) := by
  have lc : ∀ S : Sto, lcD (sqSrc (w.map cD)) (gNm 1) tYesD (fCall (chk 1 (F (k + 1) .is_name)) (aCons (fVar 1) aNil)) [1] [some (wD w), none] (sqSrc (w.map cD)).n 0 [] S = some ((w.map cD).map fun _ => .bl true, S) := fun S =>
    lc_map (walks_sq (w.map cD) S) (by simp [LINE]; omega) fun d hd => by
      obtain ⟨c, _, rfl⟩ := List.mem_map.mp hd
      exact ⟨[(1, cD c)], rfl, by simp, by simp [is_name_ok]⟩
  have h : ∃ T, defD 2 (b_check_word (F (k + 1))) [wD w] [] = some (.non, T) := by
    have h12 : ¬ (12 : Int) < w.length := by omega
    have al : allD [.ref 0] [.lst ((w.map cD).map fun _ => D.bl true)] = some (.bl true, [.lst ((w.map cD).map fun _ => D.bl true)]) := by
      have := all_at (S := [.lst ((w.map fun _ => true).map D.bl)]) (h := 0) (bs := w.map fun _ => true) rfl
      have e : (w.all fun _ => true) = true := List.all_eq_true.mpr fun _ _ => rfl
      simpa [Function.comp_def, e] using this
    simp only [defD_eq, b_check_word, isiW, lenW, seqW, g_LONG, ltD, lc]
    simp [isiW, lenW, seqW, ltD, lc, h12, al, -List.map_map]
  obtain ⟨T, h⟩ := h
  rw [F_check_word]
  exact pureD_of S h (by simp [frees, sd_free _ _ (wD_sd 1 w)]) rfl
/-! ### kinds of words -/
/-- what is remembered is right -/
structure MemoK (kvs : List (NestedKey × D)) : Prop where
  fr : ∀ p ∈ kvs, free p.2 = true
  ok : ∀ (w : List Bool) (r : Nat) (k : NestedKey) (v : D), r ≤ 2 → (D.tup [wD w, .int r]).key = some k → getK kvs k = some v → v = kr r w
theorem getK_put {κ : Type} [DecidableEq κ] (kvs : List (κ × D)) (k k' : κ) (d : D) : getK (putD kvs k d) k' = if k' = k then some d else getK kvs k' := by
  unfold putD
  split
  · rename_i h
    induction kvs with
    | nil => simp at h
    | cons p r ih =>
      simp only [List.map_cons, getK, List.find?_cons]
      by_cases e : p.1 = k
      · simp only [e, if_true]
        by_cases q : k' = k
        · subst q; simp
        · have q' : ¬ k = k' := fun z => q z.symm
          simp only [q, q', decide_false, if_false]
          by_cases h' : (r.any fun p => decide (p.1 = k)) = true
          · have := ih h'
            simp only [q, if_false] at this
            exact this
          · have e2 : r.map (fun p => if p.1 = k then (p.1, d) else p) = r := by
              refine (List.map_congr_left fun p hp => ?_).trans (List.map_id r)
              split
              · rename_i hk
                exact absurd (List.any_eq_true.mpr ⟨p, hp, decide_eq_true hk⟩) h'
              · rfl
            rw [e2]
      · have h' : (r.any fun p => decide (p.1 = k)) = true := by simpa [e] using h
        simp only [e, if_false]
        by_cases q : p.1 = k'
        · simp only [q, decide_true]
          have : ¬ k' = k := fun z => e (q.trans z)
          simp [this]
        · simp only [q, decide_false]
          exact ih h'
  · rename_i h
    by_cases q : k' = k
    · subst q
      simp only [if_true]
      have hn : getK kvs k' = none := by
        have := anyGet k' kvs
        cases e : getK kvs k' with
        | none => rfl
        | some v => rw [e] at this; exact absurd this h
      unfold getK at hn ⊢
      rw [List.find?_append]
      simp only [Option.map_eq_none_iff] at hn
      simp [hn]
    · simp only [q, if_false]
      unfold getK
      rw [List.find?_append]
      have : ¬ k = k' := fun z => q z.symm
      simp [this]
theorem put_length {κ : Type} [DecidableEq κ] (kvs : List (κ × D)) (k : κ) (d : D) : (putD kvs k d).length ≤ kvs.length + 1 := by
  unfold putD; split <;> simp
theorem put_mem {κ : Type} [DecidableEq κ] {kvs : List (κ × D)} {k : κ} {d : D} {p : κ × D} (h : p ∈ putD kvs k d) : p ∈ kvs ∨ p.2 = d := by
  unfold putD at h
  split at h
  · obtain ⟨q, h1, rfl⟩ := List.mem_map.mp h
    split
    · exact .inr rfl
    · rename_i z; rw [if_neg z] at h; exact .inl h1
  · rcases List.mem_append.mp h with h | h
    · exact .inl h
    · exact .inr (by rw [List.mem_singleton.mp h])
theorem wD_inj {v w : List Bool} (h : wD v = wD w) : v = w := by
  simp only [wD, D.tup.injEq] at h
  exact (List.map_inj_right fun a b e => cD_inj e).mp h
theorem wkey_sd (w : List Bool) (r : Nat) : sd 3 (.tup [wD w, .int r]) = true := sd_mk fun d hd => by
  simp only [List.mem_cons, List.not_mem_nil, or_false] at hd
  rcases hd with rfl | rfl
  · exact wD_sd 1 w
  · rfl
theorem MemoK.put {kvs : List (NestedKey × D)} (m : MemoK kvs) {w : List Bool} {r : Nat} {k : NestedKey} (hr : r ≤ 2) (e : (D.tup [wD w, .int r]).key = some k) : MemoK (putD kvs k (kr r w)) := by
  refine ⟨fun p hp => ?_, fun w' r' k' v hr' e' hv => ?_⟩
  · rcases put_mem hp with h | h
    · exact m.fr p h
    · rw [h]; exact sd_free 5 _ (kr_sd hr w)
  · rw [getK_put] at hv
    split at hv
    · rename_i q
      subst q
      cases hv
      have := sd_key_inj 3 _ _ _ (wkey_sd w r) (wkey_sd w' r') e e'
      simp only [D.tup.injEq, List.cons.injEq, D.int.injEq] at this
      obtain ⟨h1, h2, _⟩ := this
      rw [wD_inj h1]
      have : r = r' := by omega
      rw [this]
    · exact m.ok w' r' k' v hr' e' hv
theorem inB_dN {S : Sto} {h : Nat} {kvs : List (NestedKey × D)} {ds : List D} {k : NestedKey} (e : S[h]? = some (.dN kvs)) (hk : (D.tup ds).key = some k) (hd : k.depth ≤ 8) : inB S (.tup ds) (.ref h) = some (getK kvs k).isSome := by
  simp only [inB, e, hk, if_pos hd, anyGet]
theorem idx_dN {S : Sto} {h : Nat} {kvs : List (NestedKey × D)} {ds : List D} {k : NestedKey} {v : D} (e : S[h]? = some (.dN kvs)) (hk : (D.tup ds).key = some k) (hd : k.depth ≤ 8) (hv : getK kvs k = some v) : idxD (.ref h) (.tup ds) S = some (v, S) := by
  simp only [idxD, e, hk, if_pos hd, hv]
theorem set_dN {S : Sto} {h : Nat} {kvs : List (NestedKey × D)} {ds : List D} {k : NestedKey} {v : D} (e : S[h]? = some (.dN kvs)) (hk : (D.tup ds).key = some k) (hd : k.depth ≤ 8) (hl : kvs.length < LINE) : setD (.ref h) (.tup ds) v S = some ((), S.set h (.dN (putD kvs k v))) := by
  simp only [setD, e, hk, if_pos (And.intro hd hl)]
theorem set_same {S : Sto} {h : Nat} {o : Ob} (e : S[h]? = some o) : S.set h o = S := by
  obtain ⟨hl, rfl⟩ := List.getElem?_eq_some_iff.mp e
  exact List.set_getElem_self hl
theorem set_app {S T : Sto} {h : Nat} {o : Ob} (hl : h < S.length) : (S ++ T).set h o = S.set h o ++ T := by
  rw [List.set_append_left _ _ hl]
def bnd : Nat → Nat
  | 0 => 0
  | 1 => 1
  | _ => 25
theorem ninD_of {S : Sto} {x y : D} {b : Bool} (e : inB S x y = some b) : ninD x y S = some (.bl (!b), S) := by simp only [ninD, inD', e]
theorem inD_of {S : Sto} {x y : D} {b : Bool} (e : inB S x y = some b) : inD x y S = some (.bl b, S) := by simp only [inD, inD', e]
theorem eqD_of {S : Sto} {x y : D} {b : Bool} (e : eqB S x y = some b) : eqD x y S = some (.bl b, S) := by simp only [eqD, eqD', e]
theorem eqI (S : Sto) (i j : Int) : eqD (.int i) (.int j) S = some (.bl (decide (i = j)), S) := rfl
theorem subI (S : Sto) (i j : Int) : subD (.int i) (.int j) S = some (.int (i - j), S) := rfl
theorem addI (S : Sto) (i j : Int) : addD (.int i) (.int j) S = some (.int (i + j), S) := rfl
theorem slW_to (w : List Bool) (i : Nat) (hi : i ≤ w.length) (S : Sto) : slD (wD w) none (some (i : Int)) S = some (wD (w.take i), S) := by
  simp only [slD, wD, cut_to (show i ≤ (w.map cD).length by simpa using hi), List.map_take]
theorem slW_from (w : List Bool) (i : Nat) (hi : i ≤ w.length) (S : Sto) : slD (wD w) (some (i : Int)) none S = some (wD (w.drop i), S) := by
  simp only [slD, wD, cut_from (show i ≤ (w.map cD).length by simpa using hi), List.map_drop]
theorem slW_from1 (w : List Bool) (i : Nat) (hi : i + 1 ≤ w.length) (S : Sto) : slD (wD w) (some ((i : Int) + 1)) none S = some (wD (w.drop (i + 1)), S) := slW_from w (i + 1) hi S
theorem enuW (w : List Bool) (S : Sto) : enuS2 [wD w] S = some (enuFSrc (w.map cD), S) := rfl
theorem wkey (w : List Bool) (r : Nat) : ∃ k, (D.tup [wD w, .int r]).key = some k ∧ k.depth ≤ 8 := by
  obtain ⟨k, e⟩ := sd_key 3 _ (wkey_sd w r)
  exact ⟨k, e, Nat.le_trans (sd_kdep 3 _ k (wkey_sd w r) e) (by decide)⟩
theorem known0 (k : Nat) (w : List Bool) (S : Sto) (h : Nat) : F (k + 1) .known_kind [wD w, .int 0, .ref h] S = some (kr 0 w, S) := by
  rw [F_known]
  refine scopeD_app (T := []) ?_ rfl
  simp [defD_eq, b_known_kind, eqI, kr0, LINE]
theorem known_step (r k : Nat) (hr : r ≤ 1)
    (ih : ∀ (w : List Bool) (S : Sto) (h : Nat) (kvs : List (NestedKey × D)), w.length ≤ 12 → S[h]? = some (.dN kvs) → MemoK kvs → kvs.length + bnd r ≤ 1000 → ∃ kvs', F k .known_kind [wD w, .int r, .ref h] S = some (kr r w, S.set h (.dN kvs')) ∧ MemoK kvs' ∧ kvs'.length ≤ kvs.length + bnd r)
    (w : List Bool) (S : Sto) (h : Nat) (kvs : List (NestedKey × D)) (hw : w.length ≤ 12) (e : S[h]? = some (.dN kvs)) (m : MemoK kvs) (hl : kvs.length + bnd (r + 1) ≤ 1000) :
    ∃ kvs', F (k + 1) .known_kind [wD w, .int ((r + 1 : Nat) : Int), .ref h] S = some (kr (r + 1) w, S.set h (.dN kvs')) ∧ MemoK kvs' ∧ kvs'.length ≤ kvs.length + bnd (r + 1) := by
  have hb : 1 + 12 * (2 * bnd r) ≤ bnd (r + 1) := by rcases Nat.le_one_iff_eq_zero_or_eq_one.mp hr with rfl | rfl <;> decide
  obtain ⟨ky, hk, hd⟩ := wkey w (r + 1)
  have hS : h < S.length := (List.getElem?_eq_some_iff.mp e).1
  obtain ⟨R, hR⟩ : ∃ R : Int, R = ((r + 1 : Nat) : Int) := ⟨_, rfl⟩
  have h0 : ¬ R = 0 := by omega
  have hR1 : R - 1 = (r : Int) := by omega
  rw [← hR] at hk ⊢
  have ik := inB_dN e hk hd
  rw [F_known]
  cases hg : getK kvs ky with
  | some v =>
    have hv := m.ok w (r + 1) ky v (by omega) (by rw [← hR]; exact hk) hg
    subst hv
    refine ⟨kvs, ?_, m, by omega⟩
    rw [set_same e]
    refine scopeD_app (T := []) ?_ (sd_free 5 _ (kr_sd (by omega) w))
    rw [hg] at ik
    have ix := idx_dN e hk hd hg
    simp only [defD_eq, b_known_kind]
    simp [eqI, h0, LINE, ninD_of ik, ix]
  | none =>
    rw [hg] at ik
    let A : List (NestedKey × D) → Sto := fun kv => S.set h (.dN kv)
    have hA : ∀ kv, A kv = S.set h (.dN kv) := fun _ => rfl
    have lA : ∀ kv, (A kv).length = S.length := fun kv => by rw [hA, List.length_set]
    have gA : ∀ kv (T : Sto), (A kv ++ T)[h]? = some (.dN kv) := fun kv T => by
      rw [List.getElem?_append_left (by rw [lA]; exact hS), hA, List.getElem?_set_self hS]
    have sA : ∀ kv kv' (T : Sto), (A kv ++ T).set h (.dN kv') = A kv' ++ T := fun kv kv' T => by
      rw [set_app (by rw [lA]; exact hS), hA, List.set_set]
    have fA : ∀ kv (o : Ob) (T : Sto), (A kv ++ o :: T)[S.length]? = some o := fun kv o T => by
      rw [List.getElem?_append_right (by rw [lA]; exact Nat.le_refl _), lA]; simp
    have uA : ∀ kv (o o' : Ob) (T : Sto), (A kv ++ o :: T).set S.length o' = A kv ++ o' :: T := fun kv o o' T => by
      rw [List.set_append_right _ _ (by rw [lA]; exact Nat.le_refl _), lA]; simp
    have hrows := rows_mem hr w
    have loop : ∃ ρ' S', forD (enuFSrc (w.map cD)) (gUn 2 (gsCons (gNm 4) (gsCons (gNm 5) gsNil)))
        (sSeq (sPar 6 7 (aCons (fCall (chk 3 (F k .known_kind)) (aCons (fSl (fVar 0) oNone (oSome (fVar 4))) (aCons (fBin subD (fVar 1) (fC (.int 1))) (aCons (fVar 2) aNil)))) (aCons (fCall (chk 3 (F k .known_kind)) (aCons (fSl (fVar 0) (oSome (fBin addD (fVar 4) (fC (.int 1)))) oNone) (aCons (fBin subD (fVar 1) (fC (.int 1))) (aCons (fVar 2) aNil)))) aNil)))
        (sIf (fBl (fBin ninD (fCall tupD (aCons (fVar 6) (aCons (fVar 5) (aCons (fVar 7) aNil)))) (fVar 3))) (sDrop (fApp (fVar 3) (fCall tupD (aCons (fVar 6) (aCons (fVar 5) (aCons (fVar 7) aNil)))))) sNx)) (enuFSrc (w.map cD)).n 0 [some (wD w), some (.int R), some (.ref h), some (.ref S.length), none, none, none, none] (A kvs ++ [.lst []]) = some (.nx, ρ', S') ∧
        (∃ x4 x5 x6 x7 kv, ρ' = [some (wD w), some (.int R), some (.ref h), some (.ref S.length), x4, x5, x6, x7] ∧ S' = A kv ++ [.lst (dds ((rowsD r w).take (enuFSrc (w.map cD)).n))] ∧ MemoK kv ∧ kv.length ≤ kvs.length + (enuFSrc (w.map cD)).n * (2 * bnd r)) := by
      refine for_inv (fun i ρ S' => ∃ x4 x5 x6 x7 kv, ρ = [some (wD w), some (.int R), some (.ref h), some (.ref S.length), x4, x5, x6, x7] ∧ S' = A kv ++ [.lst (dds ((rowsD r w).take i))] ∧ MemoK kv ∧ kv.length ≤ kvs.length + i * (2 * bnd r)) ?_ ?_ ⟨none, none, none, none, kvs, rfl, rfl, m, by omega⟩
      rotate_left
      · intro _ _ _; rfl
      intro i ρ S' hi hI
      obtain ⟨x4, x5, x6, x7, kv, rfl, rfl, mk, lk⟩ := hI
      have hi' : i < w.length := by simpa [enuFSrc] using hi
      have i12 : i * (2 * bnd r) ≤ 12 * (2 * bnd r) := Nat.mul_le_mul (by omega) (Nat.le_refl _)
      have i12' : (i + 1) * (2 * bnd r) ≤ 12 * (2 * bnd r) := Nat.mul_le_mul (by omega) (Nat.le_refl _)
      have i1 : (i + 1) * (2 * bnd r) = i * (2 * bnd r) + 2 * bnd r := by rw [Nat.add_mul, Nat.one_mul]
      obtain ⟨kv1, e1, m1, l1⟩ := ih (w.take i) (A kv ++ [.lst (dds ((rowsD r w).take i))]) h kv (by simp; omega) (gA _ _) mk (by omega)
      rw [sA] at e1
      obtain ⟨kv2, e2, m2, l2⟩ := ih (w.drop (i + 1)) (A kv1 ++ [.lst (dds ((rowsD r w).take i))]) h kv1 (by simp; omega) (gA _ _) m1 (by omega)
      rw [sA] at e2
      have hc : (w.map cD)[i]? = some (cD w[i]) := by simp [hi']
      have hrow : (rowsD r w)[i]? = some (.tup [kr r (w.take i), cD w[i], kr r (w.drop (i + 1))]) := by
        unfold rowsD
        rw [List.getElem?_map, List.getElem?_range hi']
        simp [List.getD_eq_getElem?_getD, hi']
      have hmem : (D.tup [kr r (w.take i), cD w[i], kr r (w.drop (i + 1))]) ∈ rowsD r w := List.mem_of_getElem? hrow
      have hsd : sd 4 (.tup [kr r (w.take i), cD w[i], kr r (w.drop (i + 1))]) = true := uni_sd _ (hrows _ hmem)
      have htk : (rowsD r w).take (i + 1) = (rowsD r w).take i ++ [.tup [kr r (w.take i), cD w[i], kr r (w.drop (i + 1))]] := by
        rw [List.take_succ, hrow]; rfl
      have hin := inB_lst (fA kv2 (.lst (dds ((rowsD r w).take i))) []) hsd (fun y hy => uni_sd y (hrows y (List.mem_of_mem_take ((dds_mem _ y).mp hy)))) (by decide)
      refine ⟨.tup [.int i, cD w[i]], [(4, .int i), (5, cD w[i])], [some (wD w), some (.int R), some (.ref h), some (.ref S.length), some (.int i), some (cD w[i]), some (kr r (w.take i)), some (kr r (w.drop (i + 1)))], A kv2 ++ [.lst (dds ((rowsD r w).take (i + 1)))], ?_, by simp, ?_, ⟨_, _, _, _, kv2, rfl, rfl, m2, by omega⟩⟩
      · simp only [enuFSrc, hc]
      · have o1 : oSome (fVar 4) [some (wD w), some (.int R), some (.ref h), some (.ref S.length), some (.int i), some (cD w[i]), x6, x7] (A kv ++ [.lst (dds ((rowsD r w).take i))]) = some (some (i : Int), A kv ++ [.lst (dds ((rowsD r w).take i))]) := r_oSome (by simp)
        have o2 : oSome (fBin addD (fVar 4) (fC (.int 1))) [some (wD w), some (.int R), some (.ref h), some (.ref S.length), some (.int i), some (cD w[i]), x6, x7] (A kv1 ++ [.lst (dds ((rowsD r w).take i))]) = some (some ((i + 1 : Nat) : Int), A kv1 ++ [.lst (dds ((rowsD r w).take i))]) := r_oSome (by simp [addI])
        simp only [r_seq, r_par, r_ups0, r_ups1]
        by_cases hmm : (D.tup [kr r (w.take i), cD w[i], kr r (w.drop (i + 1))]) ∈ dds ((rowsD r w).take i)
        · simp only [hmm, decide_true] at hin
          have q : dds ((rowsD r w).take (i + 1)) = dds ((rowsD r w).take i) := by
            rw [htk, dds_snoc]; unfold dd; rw [if_pos hmm]
          rw [q]
          simp [o1, o2, subI, hR1, e1, e2, slW_to w i (by omega), slW_from1 w i (by omega), LINE, ninD_of hin]
        · simp only [hmm, decide_false] at hin
          have q : dds ((rowsD r w).take (i + 1)) = dds ((rowsD r w).take i) ++ [.tup [kr r (w.take i), cD w[i], kr r (w.drop (i + 1))]] := by
            rw [htk, dds_snoc]; unfold dd; rw [if_neg hmm]
          rw [q]
          have l3 : (dds ((rowsD r w).take i)).length < LINE := by
            have := dds_length ((rowsD r w).take i)
            have h2 : ((rowsD r w).take i).length ≤ i := by simp; omega
            simp only [LINE]; omega
          have ap := app_at (.tup [kr r (w.take i), cD w[i], kr r (w.drop (i + 1))]) (fA kv2 (.lst (dds ((rowsD r w).take i))) []) l3
          rw [uA] at ap
          simp [o1, o2, subI, hR1, e1, e2, slW_to w i (by omega), slW_from1 w i (by omega), LINE, ninD_of hin, isLst_at (fA kv2 (.lst (dds ((rowsD r w).take i))) []), ap]
    obtain ⟨ρ', S', el, x4, x5, x6, x7, kv, rfl, rfl, mk, lk⟩ := loop
    have hn : (rowsD r w).take (enuFSrc (w.map cD)).n = rowsD r w := by
      refine List.take_of_length_le ?_
      simp [rowsD, enuFSrc]
    have lk' : kv.length ≤ kvs.length + 12 * (2 * bnd r) := by
      refine Nat.le_trans lk (Nat.add_le_add_left (Nat.mul_le_mul ?_ (Nat.le_refl _)) _)
      simpa [enuFSrc] using hw
    rw [hn] at el
    have so := sorted_r (r := r + 1) (fA kv (.lst (dds (rowsD r w))) []) (dds_nodup _) (fun d hd' => hrows d ((dds_mem _ d).mp hd'))
    rw [sub_dds] at so
    have tu : tupleD [.ref (A kv ++ [Ob.lst (dds (rowsD r w))]).length] (A kv ++ [.lst (dds (rowsD r w))] ++ [.lst (sub (uni (r + 1)) (rowsD r w))]) = some (kr (r + 1) w, A kv ++ [.lst (dds (rowsD r w))] ++ [.lst (sub (uni (r + 1)) (rowsD r w))]) := by
      simp only [tupleD, itemsD, get_end1, kr_succ]
    have gB : (A kv ++ [.lst (dds (rowsD r w))] ++ [.lst (sub (uni (r + 1)) (rowsD r w))])[h]? = some (.dN kv) := by rw [List.append_assoc]; exact gA _ _
    have st := set_dN (v := kr (r + 1) w) gB hk hd (by simp only [LINE]; omega)
    rw [List.append_assoc, sA] at st
    have hgp : getK (putD kv ky (kr (r + 1) w)) ky = some (kr (r + 1) w) := by rw [getK_put]; simp
    have ix := idx_dN (gA (putD kv ky (kr (r + 1) w)) ([.lst (dds (rowsD r w))] ++ [.lst (sub (uni (r + 1)) (rowsD r w))])) hk hd hgp
    have mp := mk.put (w := w) (r := r + 1) (by omega) (by rw [← hR]; exact hk)
    have lp := put_length kv ky (kr (r + 1) w)
    have hS' : S.length = (A kvs).length := (lA _).symm
    have hskvs : S = A kvs := (set_same e).symm
    have run : defD 8 (b_known_kind (F k)) [wD w, .int R, .ref h] S = some (kr (r + 1) w, A (putD kv ky (kr (r + 1) w)) ++ ([.lst (dds (rowsD r w))] ++ [.lst (sub (uni (r + 1)) (rowsD r w))])) := by
      simp only [defD_eq, b_known_kind]
      rw [show A kvs = S from set_same e] at el
      rw [List.length_append, lA] at so tu
      simp only [List.append_assoc, List.cons_append, List.nil_append, List.length_cons, List.length_nil, Nat.zero_add] at so tu st ix
      simp [eqI, h0, LINE, ninD_of ik, enuW, el, so, tu, st, ix]
    refine ⟨putD kv ky (kr (r + 1) w), ?_, mp, by omega⟩
    have kp : Keeps S (A (putD kv ky (kr (r + 1) w)) ++ ([.lst (dds (rowsD r w))] ++ [.lst (sub (uni (r + 1)) (rowsD r w))])) := by
      refine ⟨by rw [List.length_append, lA]; omega, fun j o hj ho => ?_⟩
      rw [List.getElem?_append_left (by rw [lA]; exact hj), hA] at ho
      by_cases q : h = j
      · subst q
        rw [List.getElem?_set_self hS] at ho
        cases ho
        refine .inr ?_
        simp only [rltO]
        exact List.all_eq_true.mpr fun p hp => rlt_free _ _ (mp.fr p hp)
      · rw [List.getElem?_set_ne q] at ho
        exact .inl ho
    rw [scopeD_of run (sd_free 5 _ (kr_sd (by omega) w)) kp]
    congr 2
    rw [List.take_left' (lA _)]
end K39

set_option Elab.async false
set_option linter.all false
set_option maxRecDepth 100000
set_option maxHeartbeats 4000000
/-! K39t: kind_of, lessened -/
namespace K39
open PySem PySem.Spec L2 DL
open PyProof.Rows hiding St
theorem known_ok : ∀ (r : Nat), r ≤ 2 → ∀ (k : Nat) (w : List Bool) (S : Sto) (h : Nat) (kvs : List (NestedKey × D)), w.length ≤ 12 → S[h]? = some (.dN kvs) → MemoK kvs → kvs.length + bnd r ≤ 1000 → ∃ kvs', F (k + r + 1) .known_kind [wD w, .int (r : Int), .ref h] S = some (kr r w, S.set h (.dN kvs')) ∧ MemoK kvs' ∧ kvs'.length ≤ kvs.length + bnd r
  | 0, _, k, w, S, h, kvs, _, e, m, _ => ⟨kvs, by rw [set_same e]; exact known0 k w S h, m, Nat.le_add_right _ _⟩
  | r + 1, hr, k, w, S, h, kvs, hw, e, m, hl => by
    have := known_step r (k + r + 1) (by omega) (fun w S h kvs a b c d => known_ok r (by omega) k w S h kvs a b c d) w S h kvs hw e m hl
    exact this
theorem check_rounds_ok (k : Nat) (r : Nat) (hr : r ≤ 2) (S : Sto) : F (k + 1) .check_rounds [.int (r : Int)] S = some (.non, S) := by
  rw [F_check_rounds]
  refine pureD_of (T := []) S ?_ rfl rfl
  have h4 : ¬ (4 : Int) < r := by omega
  simp [defD_eq, b_check_rounds, g_ROUNDS_MOST, ltD, h4]
theorem MemoK.nil : MemoK [] := ⟨(fun p hp => by cases hp), (fun w r k v _ _ h => by cases h)⟩
theorem kind_of_ok (k : Nat) (r : Nat) (hr : r ≤ 2) (w : List Bool) (hw : w.length ≤ 12) (S : Sto) : F (k + 4) .kind_of [wD w, .int (r : Int)] S = some (kr r w, S) := by
  obtain ⟨kvs', e, _, _⟩ := known_ok r hr (k + 2 - r) w [.dN []] 0 [] hw rfl MemoK.nil (by
    rcases r with _ | _ | r <;> simp [bnd])
  have e3 : k + 2 - r + r + 1 = k + 3 := by omega
  rw [e3] at e
  rw [F_kind_of]
  refine pureD_of (T := [.dN kvs']) S ?_ (by simp [frees, free, sd_free _ _ (wD_sd 1 w)]) (sd_free 5 _ (kr_sd hr w))
  simp only [defD_eq, b_kind_of]
  simp [check_word_ok (k + 1) w hw, check_rounds_ok (k + 2) r hr, e]
/-! ### rows as such -/
theorem k1D_inj {a b : Lt} (h : k1D a = k1D b) : a = b := by
  obtain ⟨a1, a2⟩ := a
  obtain ⟨b1, b2⟩ := b
  have hab : row1 false ≠ row1 true := fun e => by cases row1_inj e
  have hba : row1 true ≠ row1 false := fun e => by cases row1_inj e
  cases a1 <;> cases a2 <;> cases b1 <;> cases b2 <;> simp [k1D, hab, hba] at h ⊢
theorem rowD_inj {a b : Row} (h : rowD a = rowD b) : a = b := by
  obtain ⟨l, c, r⟩ := a
  obtain ⟨l', c', r'⟩ := b
  simp only [rowD, D.tup.injEq, List.cons.injEq] at h
  rw [k1D_inj h.1, cD_inj h.2.1, k1D_inj h.2.2.1]
def canon (l : List Row) : List Row := all32.filter fun r => decide (r ∈ l)
theorem sub_canon (l : List Row) : sub U2 (l.map rowD) = (canon l).map rowD := by
  unfold sub U2 canon
  rw [List.filter_map]
  congr 1
  apply List.filter_congr
  intro r _
  rw [Bool.eq_iff_iff]
  simp only [Function.comp, decide_eq_true_iff]
  rw [List.mem_map]
  exact ⟨fun ⟨x, h, e⟩ => rowD_inj e ▸ h, fun h => ⟨r, h, rfl⟩⟩
def rowsR (w : List Bool) : List Row := (List.range w.length).map fun i => (lt (w.take i), w.getD i false, lt (w.drop (i + 1)))
theorem rows2 (w : List Bool) : rowsD 1 w = (rowsR w).map rowD := by
  unfold rowsD rowsR
  rw [List.map_map]
  apply List.map_congr_left
  intro i _
  simp only [Function.comp, rowD, kr1]
theorem kr2 (w : List Bool) : kr 2 w = .tup ((canon (rowsR w)).map rowD) := by
  rw [kr_succ, rows2]
  exact congrArg D.tup (sub_canon _)
def k2D (P : List Row) : D := .tup (P.map rowD)
def ors (a b : Lt) : Lt := (a.1 || b.1, a.2 || b.2)
def let2 (P : List Row) : Lt := (P.any fun r => !r.2.1, P.any fun r => r.2.1)
def addM (P Q : List Row) : List Row := canon (P.map (fun r => (r.1, r.2.1, ors r.2.2 (let2 Q))) ++ Q.map (fun r => (ors (let2 P) r.1, r.2.1, r.2.2)))
theorem mem32 (r : Row) : r ∈ all32 := by
  obtain ⟨⟨l1, l2⟩, c, ⟨r1, r2⟩⟩ := r
  cases l1 <;> cases l2 <;> cases r1 <;> cases r2 <;> cases c <;> decide
theorem row_uni (r : Row) : rowD r ∈ U2 := List.mem_map_of_mem (mem32 r)
theorem row1_uni (c : Bool) : row1 c ∈ U1 := by cases c <;> simp [U1]
theorem sub_row1 (l : List Bool) : D.tup (sub U1 (l.map row1)) = k1D (lt l) := by
  have := kr1 l
  rw [kr_succ, rows1] at this
  exact this
/-! ### lessened -/
theorem F_lessened (k : Nat) : F (k + 1) .lessened = pureD (defD 7 (b_lessened (F k))) := rfl
theorem less1 (k : Nat) (d : D) (hd : free d = true) (S : Sto) : F (k + 1) .lessened [d, .int 1] S = some (.tup [], S) := by
  rw [F_lessened]
  refine pureD_of (T := []) S ?_ (by simp [frees, hd, free]) rfl
  simp [defD_eq, b_lessened, eqI, LINE]
theorem k1D_sd (a : Lt) : sd 3 (k1D a) = true := by
  obtain ⟨a1, a2⟩ := a
  cases a1 <;> cases a2 <;> decide +kernel
theorem k2D_sd (P : List Row) : sd 5 (k2D P) = true := sd_mk fun d hd => by
  obtain ⟨r, _, rfl⟩ := List.mem_map.mp hd
  exact sd2 _ (row_uni r)
theorem less2 (k : Nat) (P : List Row) (hP : P.length ≤ 1000) (S : Sto) : F (k + 2) .lessened [k2D P, .int 2] S = some (k1D (let2 P), S) := by
  have loop : ∃ ρ' S', forD (sqSrc (P.map rowD)) (gUn 3 (gsCons (gNm 3) (gsCons (gNm 4) (gsCons (gNm 5) gsNil))))
      (sSeq (sSet 6 (fCall tupD (aCons (fCall (chk 2 (F (k + 1) .lessened)) (aCons (fVar 3) (aCons (fBin subD (fVar 1) (fC (.int 1))) aNil))) (aCons (fVar 4) (aCons (fCall (chk 2 (F (k + 1) .lessened)) (aCons (fVar 5) (aCons (fBin subD (fVar 1) (fC (.int 1))) aNil))) aNil)))))
    (sIf (fBl (fBin ninD (fVar 6) (fVar 2))) (sDrop (fApp (fVar 2) (fVar 6))) sNx)) (sqSrc (P.map rowD)).n 0 [some (k2D P), some (.int 2), some (.ref 0), none, none, none, none] [.lst []] = some (.nx, ρ', S') ∧
      (∃ x3 x4 x5 x6, ρ' = [some (k2D P), some (.int 2), some (.ref 0), x3, x4, x5, x6] ∧ S' = [.lst (dds ((P.map fun r => row1 r.2.1).take (sqSrc (P.map rowD)).n))]) := by
    refine for_inv (fun i ρ S' => ∃ x3 x4 x5 x6, ρ = [some (k2D P), some (.int 2), some (.ref 0), x3, x4, x5, x6] ∧ S' = [.lst (dds ((P.map fun r => row1 r.2.1).take i))]) ?_ ?_ ⟨none, none, none, none, rfl, rfl⟩
    rotate_left
    · intro _ _ _; rfl
    intro i ρ S' hi hI
    obtain ⟨x3, x4, x5, x6, rfl, rfl⟩ := hI
    have hi' : i < P.length := by simpa [sqSrc] using hi
    have hc : (P.map rowD)[i]? = some (rowD P[i]) := by simp [hi']
    have htk : (P.map fun r => row1 r.2.1).take (i + 1) = (P.map fun r => row1 r.2.1).take i ++ [row1 P[i].2.1] := by
      rw [List.take_succ]; simp [hi']
    have hin := inB_lst (n := 4) (S := [.lst (dds ((P.map fun r => row1 r.2.1).take i))]) (h := 0) (d := row1 P[i].2.1) rfl (sd1 _ (row1_uni _)) (fun y hy => by
      have := List.mem_of_mem_take ((dds_mem _ y).mp hy)
      obtain ⟨r, _, rfl⟩ := List.mem_map.mp this
      exact sd1 _ (row1_uni _)) (by decide)
    refine ⟨rowD P[i], [(3, k1D P[i].1), (4, cD P[i].2.1), (5, k1D P[i].2.2)], [some (k2D P), some (.int 2), some (.ref 0), some (k1D P[i].1), some (cD P[i].2.1), some (k1D P[i].2.2), some (row1 P[i].2.1)], [.lst (dds ((P.map fun r => row1 r.2.1).take (i + 1)))], ?_, ?_, ?_, ⟨_, _, _, _, rfl, rfl⟩⟩
    · simp only [sqSrc, hc]
    · simp [rowD]
    · have l1 := less1 k (k1D P[i].1) (sd_free 3 _ (k1D_sd _))
      have l2 := less1 k (k1D P[i].2.2) (sd_free 3 _ (k1D_sd _))
      by_cases hmm : row1 P[i].2.1 ∈ dds ((P.map fun r => row1 r.2.1).take i)
      · simp only [hmm, decide_true] at hin
        have q : dds ((P.map fun r => row1 r.2.1).take (i + 1)) = dds ((P.map fun r => row1 r.2.1).take i) := by
          rw [htk, dds_snoc]; unfold dd; rw [if_pos hmm]
        rw [q]
        have n1 := ninD_of hin
        simp only [row1] at n1
        simp [subI, l1, l2, LINE, n1, row1]
      · simp only [hmm, decide_false] at hin
        have q : dds ((P.map fun r => row1 r.2.1).take (i + 1)) = dds ((P.map fun r => row1 r.2.1).take i) ++ [row1 P[i].2.1] := by
          rw [htk, dds_snoc]; unfold dd; rw [if_neg hmm]
        rw [q]
        have n1 := ninD_of hin
        have l3 : (dds ((P.map fun r => row1 r.2.1).take i)).length < LINE := by
          have := dds_length ((P.map fun r => row1 r.2.1).take i)
          have h2 : ((P.map fun r => row1 r.2.1).take i).length ≤ i := by simp; omega
          simp only [LINE]; omega
        have il := isLst_at (S := [.lst (dds ((P.map fun r => row1 r.2.1).take i))]) (h := 0) rfl
        have ap := app_at (S := [.lst (dds ((P.map fun r => row1 r.2.1).take i))]) (h := 0) (row1 P[i].2.1) rfl l3
        simp only [row1] at n1 ap il
        simp [subI, l1, l2, LINE, n1, il, ap, row1]
  obtain ⟨ρ', S', el, x3, x4, x5, x6, rfl, rfl⟩ := loop
  have hn : (P.map fun r => row1 r.2.1).take (sqSrc (P.map rowD)).n = P.map fun r => row1 r.2.1 := List.take_of_length_le (by simp [sqSrc])
  rw [hn] at el
  have so := sorted_r (r := 1) (S := [.lst (dds (P.map fun r => row1 r.2.1))]) (h := 0) rfl (dds_nodup _) (fun d hd => by
    obtain ⟨r, _, rfl⟩ := List.mem_map.mp ((dds_mem _ d).mp hd)
    exact row1_uni _)
  rw [sub_dds] at so
  have e2 : D.tup (sub (uni 1) (P.map fun r => row1 r.2.1)) = k1D (let2 P) := by
    have := sub_row1 (P.map fun r => r.2.1)
    rw [List.map_map] at this
    refine this.trans ?_
    congr 1
    unfold lt let2
    congr 1
    · rw [Bool.eq_iff_iff]; simp [List.contains_iff_mem]
    · rw [Bool.eq_iff_iff]; simp [List.contains_iff_mem]
  rw [F_lessened]
  refine pureD_of (T := [.lst (dds (P.map fun r => row1 r.2.1)), .lst (sub (uni 1) (P.map fun r => row1 r.2.1))]) S ?_ (by simp [frees, free, sd_free _ _ (k2D_sd P)]) (sd_free 3 _ (k1D_sd _))
  have sq : ∀ S, seqS (k2D P) S = some (sqSrc (P.map rowD), S) := fun _ => rfl
  simp only [defD_eq, b_lessened]
  simp [eqI, LINE, sq, el, so, tupleD, itemsD, e2]
end K39

set_option Elab.async false
set_option linter.all false
set_option maxRecDepth 100000
set_option maxHeartbeats 4000000
/-! K39u: added -/
namespace K39
open PySem PySem.Spec L2 DL
open PyProof.Rows hiding St
theorem F_added (k : Nat) : F (k + 1) .Adder_added = scopeD (defD 13 (b_Adder_added (F k))) := rfl
def adder (h : Nat) : Ob := .ins ks_10 [(ks_11, .ref h)]
theorem is_added {S : Sto} {a h : Nat} (e : S[a]? = some (adder h)) : isMeth ks_10 ks_12 (.ref a) S = some ((), S) := by
  have hl : [(ks_11, D.ref h)].lookup ks_12 = none := by
    have : (ks_12 == ks_11) = false := by decide +kernel
    simp [List.lookup, this]
  simp [isMeth, e, adder, hl]
theorem fld_known {S : Sto} {a h : Nat} (e : S[a]? = some (adder h)) : fldD ks_10 ks_11 (.ref a) S = some (.ref h, S) := by
  simp [fldD, e, adder, List.lookup]
theorem added0 (k : Nat) (a : Nat) (x y : D) (S : Sto) : F (k + 1) .Adder_added [.ref a, x, y, .int 0] S = some (.tup [], S) := by
  rw [F_added]
  refine scopeD_app (T := []) ?_ rfl
  simp [defD_eq, b_Adder_added, eqI, LINE]
section
variable (a h : Nat) (A : List (NestedKey × D) → Sto) (n : Nat)
/-- the store by what is remembered -/
structure Ad : Prop where
  len : ∀ kv, (A kv).length = n
  ga : ∀ kv, (A kv)[a]? = some (adder h)
  gh : ∀ kv, (A kv)[h]? = some (.dN kv)
  st : ∀ kv kv', (A kv).set h (.dN kv') = A kv'
end
theorem Ad.lt {a h n : Nat} {A : List (NestedKey × D) → Sto} (W : Ad a h A n) : a < n ∧ h < n := by
  have h1 := (List.getElem?_eq_some_iff.mp (W.ga [])).1
  have h2 := (List.getElem?_eq_some_iff.mp (W.gh [])).1
  rw [W.len] at h1 h2
  exact ⟨h1, h2⟩
theorem Ad.app {a h n : Nat} {A : List (NestedKey × D) → Sto} (W : Ad a h A n) (T : Sto) : Ad a h (fun kv => A kv ++ T) (n + T.length) := by
  obtain ⟨h1, h2⟩ := W.lt
  refine ⟨fun kv => by rw [List.length_append, W.len], fun kv => by rw [List.getElem?_append_left (by rw [W.len]; exact h1)]; exact W.ga kv, fun kv => by rw [List.getElem?_append_left (by rw [W.len]; exact h2)]; exact W.gh kv, fun kv kv' => ?_⟩
  rw [set_app (by rw [W.len]; exact h2), W.st]
theorem Ad.fo {a h n : Nat} {A : List (NestedKey × D) → Sto} (W : Ad a h A n) (kv : List (NestedKey × D)) (o : Ob) (T : Sto) : (A kv ++ o :: T)[n]? = some o := by
  rw [List.getElem?_append_right (by rw [W.len]; exact Nat.le_refl _), W.len]; simp
theorem Ad.uo {a h n : Nat} {A : List (NestedKey × D) → Sto} (W : Ad a h A n) (kv : List (NestedKey × D)) (o o' : Ob) (T : Sto) : (A kv ++ o :: T).set n o' = A kv ++ o' :: T := by
  rw [List.set_append_right _ _ (by rw [W.len]; exact Nat.le_refl _), W.len]; simp
/-- what an inner call does -/
def Inner (k a h : Nat) (M : List (NestedKey × D) → Prop) (β : Nat) (x y : D) (r : Int) (z : D) : Prop := ∀ (n : Nat) (A : List (NestedKey × D) → Sto) (kv : List (NestedKey × D)), Ad a h A n → M kv → kv.length + β ≤ 20000 →
  ∃ kv', F k .Adder_added [.ref a, x, y, .int r] (A kv) = some (z, A kv') ∧ M kv' ∧ kv'.length ≤ kv.length + β
theorem loop1 {k a h n β : Nat} {A : List (NestedKey × D) → Sto} (W : Ad a h A n) {M : List (NestedKey × D) → Prop} {one other key lo lt : D} {R : Int} {g : D → D} (os : List D)
    (H : ∀ row ∈ os, ∃ l c rt x, row = .tup [l, c, rt] ∧ g row = .tup [l, c, x] ∧ Inner k a h M β rt lt (R - 1) x) (kv0 : List (NestedKey × D)) (m0 : M kv0) (fl0 : List D) (hl : kv0.length + os.length * β ≤ 20000) (hf : fl0.length + os.length ≤ 1000) (x8 x9 x10 : Option D) :
    ∃ ρ' S', forD (sqSrc os) (gUn 3 (gsCons (gNm 8) (gsCons (gNm 9) (gsCons (gNm 10) gsNil))))
      (sDrop (fApp (fVar 7) (fCall tupD (aCons (fVar 8) (aCons (fVar 9) (aCons (fMeth ks_10 ks_12 4 (F k .Adder_added) (fVar 0) (aCons (fVar 10) (aCons (fVar 6) (aCons (fBin subD (fVar 3) (fC (.int 1))) aNil)))) aNil)))))) (sqSrc os).n 0
      [some (.ref a), some one, some other, some (.int R), some key, some lo, some lt, some (.ref n), x8, x9, x10, none, none] (A kv0 ++ [.lst fl0]) = some (.nx, ρ', S') ∧
      ∃ y8 y9 y10 kv, ρ' = [some (.ref a), some one, some other, some (.int R), some key, some lo, some lt, some (.ref n), y8, y9, y10, none, none] ∧ S' = A kv ++ [.lst (fl0 ++ (os.map g).take (sqSrc os).n)] ∧ M kv ∧ kv.length ≤ kv0.length + (sqSrc os).n * β := by
  refine for_inv (fun i ρ S' => ∃ y8 y9 y10 kv, ρ = [some (.ref a), some one, some other, some (.int R), some key, some lo, some lt, some (.ref n), y8, y9, y10, none, none] ∧ S' = A kv ++ [.lst (fl0 ++ (os.map g).take i)] ∧ M kv ∧ kv.length ≤ kv0.length + i * β) ?_ ?_ ⟨x8, x9, x10, kv0, rfl, (by rw [List.take_zero, List.append_nil]), m0, by omega⟩
  rotate_left
  · intro _ _ _; rfl
  intro i ρ S' hi hI
  obtain ⟨y8, y9, y10, kv, rfl, rfl, mk, lk⟩ := hI
  have hi' : i < os.length := hi
  obtain ⟨l, c, rt, x, hr, hg, hin⟩ := H os[i] (List.getElem_mem hi')
  have i1 : (i + 1) * β = i * β + β := by rw [Nat.add_mul, Nat.one_mul]
  have i2 : (i + 1) * β ≤ os.length * β := Nat.mul_le_mul hi' (Nat.le_refl _)
  obtain ⟨kv1, e1, m1, l1⟩ := hin (n + 1) (fun kv => A kv ++ [.lst (fl0 ++ (os.map g).take i)]) kv (W.app _) mk (by omega)
  refine ⟨os[i], [(8, l), (9, c), (10, rt)], [some (.ref a), some one, some other, some (.int R), some key, some lo, some lt, some (.ref n), some l, some c, some rt, none, none], A kv1 ++ [.lst (fl0 ++ (os.map g).take (i + 1))], ?_, ?_, ?_, ⟨_, _, _, kv1, rfl, rfl, m1, by omega⟩⟩
  · simp only [sqSrc, List.getElem?_eq_getElem hi']
  · rw [hr]; simp
  · have il := isLst_at (W.fo kv (.lst (fl0 ++ (os.map g).take i)) [])
    have im := is_added ((W.app [.lst (fl0 ++ (os.map g).take i)]).ga kv)
    have l3 : (fl0 ++ (os.map g).take i).length < LINE := by
      simp only [List.length_append, List.length_map, List.length_take, LINE]; omega
    have ap := app_at (.tup [l, c, x]) (W.fo kv1 (.lst (fl0 ++ (os.map g).take i)) []) l3
    rw [W.uo] at ap
    have htk : (os.map g).take (i + 1) = (os.map g).take i ++ [.tup [l, c, x]] := by
      rw [List.take_succ, List.getElem?_map, List.getElem?_eq_getElem hi']; simp [hg]
    rw [htk]
    rw [List.append_assoc] at ap
    simp [il, im, subI, e1, LINE, ap]
theorem loop2 {k a h n β : Nat} {A : List (NestedKey × D) → Sto} (W : Ad a h A n) {M : List (NestedKey × D) → Prop} {one other key lo lt : D} {R : Int} {g : D → D} (os : List D)
    (H : ∀ row ∈ os, ∃ l c rt x, row = .tup [l, c, rt] ∧ g row = .tup [x, c, rt] ∧ Inner k a h M β lo l (R - 1) x) (kv0 : List (NestedKey × D)) (m0 : M kv0) (fl0 : List D) (hl : kv0.length + os.length * β ≤ 20000) (hf : fl0.length + os.length ≤ 1000) (x8 x9 x10 : Option D) :
    ∃ ρ' S', forD (sqSrc os) (gUn 3 (gsCons (gNm 8) (gsCons (gNm 9) (gsCons (gNm 10) gsNil))))
      (sDrop (fApp (fVar 7) (fCall tupD (aCons (fMeth ks_10 ks_12 4 (F k .Adder_added) (fVar 0) (aCons (fVar 5) (aCons (fVar 8) (aCons (fBin subD (fVar 3) (fC (.int 1))) aNil)))) (aCons (fVar 9) (aCons (fVar 10) aNil)))))) (sqSrc os).n 0
      [some (.ref a), some one, some other, some (.int R), some key, some lo, some lt, some (.ref n), x8, x9, x10, none, none] (A kv0 ++ [.lst fl0]) = some (.nx, ρ', S') ∧
      ∃ y8 y9 y10 kv, ρ' = [some (.ref a), some one, some other, some (.int R), some key, some lo, some lt, some (.ref n), y8, y9, y10, none, none] ∧ S' = A kv ++ [.lst (fl0 ++ (os.map g).take (sqSrc os).n)] ∧ M kv ∧ kv.length ≤ kv0.length + (sqSrc os).n * β := by
  refine for_inv (fun i ρ S' => ∃ y8 y9 y10 kv, ρ = [some (.ref a), some one, some other, some (.int R), some key, some lo, some lt, some (.ref n), y8, y9, y10, none, none] ∧ S' = A kv ++ [.lst (fl0 ++ (os.map g).take i)] ∧ M kv ∧ kv.length ≤ kv0.length + i * β) ?_ ?_ ⟨x8, x9, x10, kv0, rfl, (by rw [List.take_zero, List.append_nil]), m0, by omega⟩
  rotate_left
  · intro _ _ _; rfl
  intro i ρ S' hi hI
  obtain ⟨y8, y9, y10, kv, rfl, rfl, mk, lk⟩ := hI
  have hi' : i < os.length := hi
  obtain ⟨l, c, rt, x, hr, hg, hin⟩ := H os[i] (List.getElem_mem hi')
  have i1 : (i + 1) * β = i * β + β := by rw [Nat.add_mul, Nat.one_mul]
  have i2 : (i + 1) * β ≤ os.length * β := Nat.mul_le_mul hi' (Nat.le_refl _)
  obtain ⟨kv1, e1, m1, l1⟩ := hin (n + 1) (fun kv => A kv ++ [.lst (fl0 ++ (os.map g).take i)]) kv (W.app _) mk (by omega)
  refine ⟨os[i], [(8, l), (9, c), (10, rt)], [some (.ref a), some one, some other, some (.int R), some key, some lo, some lt, some (.ref n), some l, some c, some rt, none, none], A kv1 ++ [.lst (fl0 ++ (os.map g).take (i + 1))], ?_, ?_, ?_, ⟨_, _, _, kv1, rfl, rfl, m1, by omega⟩⟩
  · simp only [sqSrc, List.getElem?_eq_getElem hi']
  · rw [hr]; simp
  · have il := isLst_at (W.fo kv (.lst (fl0 ++ (os.map g).take i)) [])
    have im := is_added ((W.app [.lst (fl0 ++ (os.map g).take i)]).ga kv)
    have l3 : (fl0 ++ (os.map g).take i).length < LINE := by
      simp only [List.length_append, List.length_map, List.length_take, LINE]; omega
    have ap := app_at (.tup [x, c, rt]) (W.fo kv1 (.lst (fl0 ++ (os.map g).take i)) []) l3
    rw [W.uo] at ap
    have htk : (os.map g).take (i + 1) = (os.map g).take i ++ [.tup [x, c, rt]] := by
      rw [List.take_succ, List.getElem?_map, List.getElem?_eq_getElem hi']; simp [hg]
    rw [htk]
    rw [List.append_assoc] at ap
    simp [il, im, subI, e1, LINE, ap]
end K39

set_option Elab.async false
set_option linter.all false
set_option maxRecDepth 100000
set_option maxHeartbeats 4000000
/-! K39v: added, all of it -/
namespace K39
open PySem PySem.Spec L2 DL
open PyProof.Rows hiding St
theorem enu_ref {S : Sto} {h : Nat} {xs : List D} (e : S[h]? = some (.lst xs)) : enuS2 [.ref h] S = some (enuSrc h xs.length, S) := by
  simp [enuS2, enuS, e]
theorem len_dN {S : Sto} {h : Nat} {kvs : List (NestedKey × D)} (e : S[h]? = some (.dN kvs)) (hl : kvs.length < LINE) : lenD2 [.ref h] S = some (.int kvs.length, S) := by
  simp only [lenD2, e, if_pos hl]
/-- [row for at, row in enumerate(found) if row not in found[:at]] -/
theorem dedup {S : Sto} {n : Nat} {fl : List D} {ρ : DL.Env} (e : S[n]? = some (.lst fl)) (hl : fl.length ≤ 1000) (hs : ∀ d ∈ fl, sd 4 d = true) (h7 : ρ[7]? = some (some (.ref n))) (hρ : ρ.length = 13) :
    ∃ T, lcD (enuSrc n fl.length) (gUn 2 (gsCons (gNm 11) (gsCons (gNm 12) gsNil))) (fBl (fBin ninD (fVar 12) (fSl (fVar 7) oNone (oSome (fVar 11))))) (fVar 12) [11, 12] (wipeD ρ [11, 12]) (enuSrc n fl.length).n 0 [] S = some (dds fl, S ++ T) := by
  have W := walks_enu e
  have main : ∃ acc S', lcD (enuSrc n fl.length) (gUn 2 (gsCons (gNm 11) (gsCons (gNm 12) gsNil))) (fBl (fBin ninD (fVar 12) (fSl (fVar 7) oNone (oSome (fVar 11))))) (fVar 12) [11, 12] (wipeD ρ [11, 12]) (enuSrc n fl.length).n 0 [] S = some (acc, S') ∧ (acc = dds (fl.take (enuSrc n fl.length).n) ∧ ∃ T, S' = S ++ T) := by
    refine lc_inv (fun i acc S' => acc = dds (fl.take i) ∧ ∃ T, S' = S ++ T) ?_ ?_ ⟨rfl, [], by simp⟩
    · rintro i acc S' hi ⟨rfl, T, rfl⟩
      have hi' : i < fl.length := hi
      have hlt : n < S.length := (List.getElem?_eq_some_iff.mp e).1
      have en : (S ++ T)[n]? = some (.lst fl) := by rw [List.getElem?_append_left hlt]; exact e
      have v7 : ((((wipeD ρ [11, 12]).set 11 (some (.int (i : Int)))).set 12 (some fl[i])))[7]? = some (some (.ref n)) := by
        simp [wipeD, h7]
      have v11 : ((((wipeD ρ [11, 12]).set 11 (some (.int (i : Int)))).set 12 (some fl[i])))[11]? = some (some (.int (i : Int))) := by
        simp [wipeD, hρ]
      have v12 : ((((wipeD ρ [11, 12]).set 11 (some (.int (i : Int)))).set 12 (some fl[i])))[12]? = some (some fl[i]) := by
        simp [wipeD, hρ]
      generalize hρ2 : (((wipeD ρ [11, 12]).set 11 (some (.int (i : Int)))).set 12 (some fl[i])) = ρ2 at v7 v11 v12
      have o1 : oSome (fVar 11) ρ2 (S ++ T) = some (some (i : Int), S ++ T) := r_oSome (by simp [v11])
      have sl : slD (.ref n) none (some (i : Int)) (S ++ T) = some (.ref (S ++ T).length, S ++ T ++ [.lst (fl.take i)]) := by
        simp only [slD, en, cut_to (Nat.le_of_lt hi')]
      have tt : ∀ b : Bool, (b = true ↔ fl[i] ∈ fl.take i) → fBl (fBin ninD (fVar 12) (fSl (fVar 7) oNone (oSome (fVar 11)))) ρ2 (S ++ T) = some (!b, S ++ T ++ [.lst (fl.take i)]) := fun b hb => by
        have hin' : inB (S ++ T ++ [.lst (fl.take i)]) fl[i] (.ref (S ++ T).length) = some b := inB_lstb (n := 4) (get_end1 (S ++ T) (.lst (fl.take i))) (hs _ (List.getElem_mem hi')) (fun y hy => hs y (List.mem_of_mem_take hy)) (by decide) hb
        have n1 := ninD_of hin'
        simp only [r_bl, r_bin, r_var, r_sl, r_oNone, v7, v12, o1, sl, Option.bind_some, Option.map_some, id, n1, r_blD]
      have htk : fl.take (i + 1) = fl.take i ++ [fl[i]] := by rw [List.take_succ, List.getElem?_eq_getElem hi']; rfl
      refine ⟨.tup [.int i, fl[i]], [(11, .int i), (12, fl[i])], ?_, by simp, by simp, ?_⟩
      · rw [W.it, enumD_get, List.getElem?_eq_getElem hi']
      · have eu : upsD (wipeD ρ [11, 12]) [(11, D.int (i : Int)), (12, fl[i])] = ρ2 := hρ2
        rw [eu]
        by_cases hm : fl[i] ∈ fl.take i
        · refine .inl ⟨_, tt true (by simp [hm]), ?_, T ++ [.lst (fl.take i)], by simp⟩
          rw [htk, dds_snoc]; unfold dd; rw [if_pos ((dds_mem _ _).mpr hm)]
        · refine .inr ⟨_, fl[i], S ++ T ++ [.lst (fl.take i)], tt false (by simp [hm]), by simp [v12], ?_, ?_, T ++ [.lst (fl.take i)], by simp⟩
          · have := dds_length (fl.take i)
            have h2 : (fl.take i).length ≤ i := by simp; omega
            simp only [LINE]; omega
          · rw [htk, dds_snoc]; unfold dd; rw [if_neg fun z => hm ((dds_mem _ _).mp z)]
    · rintro acc S' ⟨_, T, rfl⟩
      exact W.ok T
  obtain ⟨acc, S', e1, rfl, T, rfl⟩ := main
  refine ⟨T, ?_⟩
  rw [e1]
  have : fl.take (enuSrc n fl.length).n = fl := List.take_of_length_le (by simp [enuSrc])
  rw [this]
theorem added_main {k a h n β : Nat} {A : List (NestedKey × D) → Sto} (W : Ad a h A n) {M : List (NestedKey × D) → Prop} {lo lt : D} {r : Nat} (hr : 1 ≤ r) {os ts : List D} {ky : NestedKey}
    (hk : (D.tup [.tup os, .tup ts, .int (r : Int)]).key = some ky) (hd : ky.depth ≤ 8) (g1 g2 : D → D)
    (H1 : ∀ row ∈ os, ∃ l c rt x, row = .tup [l, c, rt] ∧ g1 row = .tup [l, c, x] ∧ Inner k a h M β rt lt ((r : Int) - 1) x)
    (H2 : ∀ row ∈ ts, ∃ l c rt x, row = .tup [l, c, rt] ∧ g2 row = .tup [x, c, rt] ∧ Inner k a h M β lo l ((r : Int) - 1) x)
    (L1 : ∀ S, F k .lessened [.tup os, .int (r : Int)] S = some (lo, S)) (L2 : ∀ S, F k .lessened [.tup ts, .int (r : Int)] S = some (lt, S))
    (hU : ∀ d ∈ os.map g1 ++ ts.map g2, d ∈ uni r) (kv0 : List (NestedKey × D)) (m0 : M kv0) (hit : ∀ v, getK kv0 ky = some v → v = .tup (sub (uni r) (os.map g1 ++ ts.map g2)))
    (Mput : ∀ kv, M kv → M (putD kv ky (.tup (sub (uni r) (os.map g1 ++ ts.map g2))))) (Mfree : ∀ kv, M kv → ∀ p ∈ kv, free p.2 = true)
    (hl : kv0.length + 1 + (os.length + ts.length) * β ≤ 20000) (hf : os.length + ts.length ≤ 1000) :
    ∃ kv', F (k + 1) .Adder_added [.ref a, .tup os, .tup ts, .int (r : Int)] (A kv0) = some (.tup (sub (uni r) (os.map g1 ++ ts.map g2)), A kv') ∧ M kv' ∧ kv'.length ≤ kv0.length + 1 + (os.length + ts.length) * β := by
  have hfree : free (.tup (sub (uni r) (os.map g1 ++ ts.map g2))) = true := sd_free 5 _ (sd_mk fun d hd' => by
    unfold sub at hd'
    exact uni_sd d (List.mem_filter.mp hd').1)
  generalize hres : D.tup (sub (uni r) (os.map g1 ++ ts.map g2)) = res at hit Mput hfree ⊢
  obtain ⟨R, hR⟩ : ∃ R : Int, R = (r : Int) := ⟨_, rfl⟩
  have h0 : ¬ R = 0 := by omega
  rw [← hR] at hk H1 H2 L1 L2 ⊢
  have fk := fun kv T => fld_known ((W.app T).ga kv)
  have fk0 := fun kv => fld_known (W.ga kv)
  have ik := inB_dN (W.gh kv0) hk hd
  obtain ⟨hA, hH⟩ := W.lt
  rw [F_added]
  cases hg : getK kv0 ky with
  | some v =>
    have hv := hit v hg
    subst hv
    refine ⟨kv0, ?_, m0, by omega⟩
    refine scopeD_app (T := []) ?_ hfree
    rw [hg] at ik
    have ix := idx_dN (W.gh kv0) hk hd hg
    simp only [defD_eq, b_Adder_added]
    simp [eqI, h0, LINE, fk0, ninD_of ik, ix]
  | none =>
    rw [hg] at ik
    have hfl0 : ([] : List D).length + os.length ≤ 1000 := by simp; omega
    have e0 : (os.length + ts.length) * β = os.length * β + ts.length * β := Nat.add_mul _ _ _
    obtain ⟨ρ1, S1, l1, y8, y9, y10, kv1, rfl, rfl, m1, q1⟩ := loop1 (k := k) (one := .tup os) (other := .tup ts) (key := .tup [.tup os, .tup ts, .int R]) (lo := lo) W os H1 kv0 m0 [] (by omega) hfl0 none none none
    have n1 : (os.map g1).take (sqSrc os).n = os.map g1 := List.take_of_length_le (by simp [sqSrc])
    rw [n1, List.nil_append] at l1
    have q1' : kv1.length ≤ kv0.length + os.length * β := q1
    obtain ⟨ρ2, S2, l2, z8, z9, z10, kv2, rfl, rfl, m2, q2⟩ := loop2 (k := k) (one := .tup os) (other := .tup ts) (key := .tup [.tup os, .tup ts, .int R]) (lt := lt) W ts H2 kv1 m1 (os.map g1) (by omega) (by simpa using hf) y8 y9 y10
    have n2 : (ts.map g2).take (sqSrc ts).n = ts.map g2 := List.take_of_length_le (by simp [sqSrc])
    rw [n2] at l2
    have q2' : kv2.length ≤ kv1.length + ts.length * β := q2
    obtain ⟨T, ld⟩ := dedup (S := A kv2 ++ [.lst (os.map g1 ++ ts.map g2)]) (n := n) (fl := os.map g1 ++ ts.map g2) (ρ := [some (.ref a), some (.tup os), some (.tup ts), some (.int R), some (.tup [.tup os, .tup ts, .int R]), some lo, some lt, some (.ref n), z8, z9, z10, none, none]) (W.fo _ _ _) (by simpa using hf) (fun d hd' => uni_sd d (hU d hd')) rfl rfl
    have so := sorted_r (r := r) (get_end1 (A kv2 ++ [.lst (os.map g1 ++ ts.map g2)] ++ T) (.lst (dds (os.map g1 ++ ts.map g2)))) (dds_nodup _) (fun d hd' => hU d ((dds_mem _ d).mp hd'))
    rw [sub_dds] at so
    generalize hT : A kv2 ++ [.lst (os.map g1 ++ ts.map g2)] ++ T ++ [.lst (dds (os.map g1 ++ ts.map g2))] = S3 at so
    have hS3 : S3 = A kv2 ++ ([.lst (os.map g1 ++ ts.map g2)] ++ T ++ [.lst (dds (os.map g1 ++ ts.map g2))]) := by rw [← hT]; simp
    have tu : tupleD [.ref S3.length] (S3 ++ [.lst (sub (uni r) (os.map g1 ++ ts.map g2))]) = some (res, S3 ++ [.lst (sub (uni r) (os.map g1 ++ ts.map g2))]) := by
      simp only [tupleD, itemsD, get_end1, hres]
    generalize hT2 : [Ob.lst (os.map g1 ++ ts.map g2)] ++ T ++ [.lst (dds (os.map g1 ++ ts.map g2))] ++ [.lst (sub (uni r) (os.map g1 ++ ts.map g2))] = T2
    have hS4 : S3 ++ [.lst (sub (uni r) (os.map g1 ++ ts.map g2))] = A kv2 ++ T2 := by rw [hS3, ← hT2]; simp
    rw [hS4] at so tu
    have st := set_dN (v := res) ((W.app T2).gh kv2) hk hd (by simp only [LINE]; omega)
    rw [(W.app T2).st] at st
    have hgp : getK (putD kv2 ky res) ky = some res := by rw [getK_put]; simp
    have ix := idx_dN ((W.app T2).gh (putD kv2 ky res)) hk hd hgp
    have le := len_dN (W.gh kv0) (by simp only [LINE]; omega)
    have hmost : ¬ (20000 : Int) < kv0.length := by omega
    have lp := put_length kv2 ky res
    have sq1 : ∀ S, seqS (.tup os) S = some (sqSrc os, S) := fun _ => rfl
    have run : defD 13 (b_Adder_added (F k)) [.ref a, .tup os, .tup ts, .int R] (A kv0) = some (res, A (putD kv2 ky res) ++ T2) := by
      simp only [defD_eq, b_Adder_added]
      have en := enu_ref (W.fo kv2 (.lst (os.map g1 ++ ts.map g2)) [])
      have f2 := fk kv2 T2
      have f3 := fk (putD kv2 ky res) T2
      have sq2 : ∀ S, seqS (.tup ts) S = some (sqSrc ts, S) := fun _ => rfl
      have ld' : (lcD (enuSrc n (os.map g1 ++ ts.map g2).length) (gUn 2 (gsCons (gNm 11) (gsCons (gNm 12) gsNil))) (fBl (fBin ninD (fVar 12) (fSl (fVar 7) oNone (oSome (fVar 11))))) (fVar 12) [11, 12] (wipeD [some (.ref a), some (.tup os), some (.tup ts), some (.int R), some (.tup [.tup os, .tup ts, .int R]), some lo, some lt, some (.ref n), z8, z9, z10, none, none] [11, 12]) (enuSrc n (os.map g1 ++ ts.map g2).length).n 0 [] (A kv2 ++ [.lst (os.map g1 ++ ts.map g2)])).map (fun q => (D.ref q.2.length, q.2 ++ [Ob.lst q.1])) = some (D.ref (A kv2 ++ [Ob.lst (os.map g1 ++ ts.map g2)] ++ T).length, S3) := by
        rw [ld, ← hT]; rfl
      simp [eqI, h0, LINE, fk0, ninD_of ik, le, g_KINDS_MOST, ltD, hmost, L1, L2, W.len, sq1, l1, sq2, l2, en]
      simp only [r_wipe0, r_wipe1, List.set_cons_succ, List.set_cons_zero, List.length_append, List.length_map] at ld'
      rw [ld']
      have so' := so
      simp only [List.length_append, List.length_cons, List.length_nil, List.length_map, Nat.zero_add, W.len] at so'
      simp only [Option.bind_some, List.length_append, List.length_cons, List.length_nil, List.length_map, Nat.zero_add, W.len, so', tu]
      simp [f2, st, f3, ix]
    refine ⟨putD kv2 ky res, ?_, Mput _ m2, by omega⟩
    have kp : Keeps (A kv0) (A (putD kv2 ky res) ++ T2) := by
      refine ⟨by rw [List.length_append, W.len, W.len]; omega, fun j o hj ho => ?_⟩
      rw [W.len] at hj
      rw [List.getElem?_append_left (by rw [W.len]; exact hj)] at ho
      rw [← W.st kv0] at ho
      by_cases q : h = j
      · subst q
        rw [List.getElem?_set_self (by rw [W.len]; exact hj)] at ho
        cases ho
        refine .inr ?_
        simp only [rltO]
        exact List.all_eq_true.mpr fun p hp => rlt_free _ _ (Mfree _ (Mput _ m2) p hp)
      · rw [List.getElem?_set_ne q] at ho
        exact .inl ho
    rw [scopeD_of run hfree kp]
    congr 2
    rw [List.take_left' (by rw [W.len, W.len])]
end K39

set_option Elab.async false
set_option linter.all false
set_option maxRecDepth 100000
set_option maxHeartbeats 4000000
/-! K39w: sums and powers of kinds -/
namespace K39
open PySem PySem.Spec L2 DL
open PyProof.Rows hiding St
def l1 : Lt → List Bool
  | (false, false) => []
  | (true, false) => [false]
  | (true, true) => [false, true]
  | (false, true) => [true]
theorem k1D_l1 (a : Lt) : k1D a = .tup ((l1 a).map row1) := by
  obtain ⟨a1, a2⟩ := a
  cases a1 <;> cases a2 <;> rfl
theorem lt_l1 (a b : Lt) : lt (l1 a ++ l1 b) = ors a b := by
  obtain ⟨a1, a2⟩ := a
  obtain ⟨b1, b2⟩ := b
  cases a1 <;> cases a2 <;> cases b1 <;> cases b2 <;> rfl
theorem k2D_inj {P Q : List Row} (h : k2D P = k2D Q) : P = Q := by
  simp only [k2D, D.tup.injEq] at h
  exact (List.map_inj_right fun a b e => rowD_inj e).mp h
theorem key1_sd (a b : Lt) : sd 6 (.tup [k1D a, k1D b, .int 1]) = true := sd_mk fun d hd => by
  simp only [List.mem_cons, List.not_mem_nil, or_false] at hd
  rcases hd with rfl | rfl | rfl
  · exact sd_up (sd_up (k1D_sd a))
  · exact sd_up (sd_up (k1D_sd b))
  · rfl
theorem key2_sd (P Q : List Row) : sd 6 (.tup [k2D P, k2D Q, .int 2]) = true := sd_mk fun d hd => by
  simp only [List.mem_cons, List.not_mem_nil, or_false] at hd
  rcases hd with rfl | rfl | rfl
  · exact k2D_sd P
  · exact k2D_sd Q
  · rfl
structure MemoA (kvs : List (NestedKey × D)) : Prop where
  fr : ∀ p ∈ kvs, free p.2 = true
  ok1 : ∀ (a b : Lt) (k : NestedKey) (v : D), (D.tup [k1D a, k1D b, .int 1]).key = some k → getK kvs k = some v → v = k1D (ors a b)
  ok2 : ∀ (P Q : List Row) (k : NestedKey) (v : D), (D.tup [k2D P, k2D Q, .int 2]).key = some k → getK kvs k = some v → v = k2D (addM P Q)
theorem MemoA.nil : MemoA [] := ⟨(fun p hp => by cases hp), (fun a b k v _ h => by cases h), (fun P Q k v _ h => by cases h)⟩
theorem MemoA.put1 {kvs : List (NestedKey × D)} (m : MemoA kvs) {a b : Lt} {k : NestedKey} (e : (D.tup [k1D a, k1D b, .int 1]).key = some k) : MemoA (putD kvs k (k1D (ors a b))) := by
  refine ⟨fun p hp => ?_, fun a' b' k' v e' hv => ?_, fun P Q k' v e' hv => ?_⟩
  · rcases put_mem hp with h | h
    · exact m.fr p h
    · rw [h]; exact sd_free 3 _ (k1D_sd _)
  · rw [getK_put] at hv
    split at hv
    · rename_i q
      subst q
      cases hv
      have := sd_key_inj 6 _ _ _ (key1_sd a b) (key1_sd a' b') e e'
      simp only [D.tup.injEq, List.cons.injEq] at this
      rw [k1D_inj this.1, k1D_inj this.2.1]
    · exact m.ok1 a' b' k' v e' hv
  · rw [getK_put] at hv
    split at hv
    · rename_i q
      subst q
      have := sd_key_inj 6 _ _ _ (key1_sd a b) (key2_sd P Q) e e'
      simp at this
    · exact m.ok2 P Q k' v e' hv
theorem MemoA.put2 {kvs : List (NestedKey × D)} (m : MemoA kvs) {P Q : List Row} {k : NestedKey} (e : (D.tup [k2D P, k2D Q, .int 2]).key = some k) : MemoA (putD kvs k (k2D (addM P Q))) := by
  refine ⟨fun p hp => ?_, fun a' b' k' v e' hv => ?_, fun P' Q' k' v e' hv => ?_⟩
  · rcases put_mem hp with h | h
    · exact m.fr p h
    · rw [h]; exact sd_free 5 _ (k2D_sd _)
  · rw [getK_put] at hv
    split at hv
    · rename_i q
      subst q
      have := sd_key_inj 6 _ _ _ (key2_sd P Q) (key1_sd a' b') e e'
      simp at this
    · exact m.ok1 a' b' k' v e' hv
  · rw [getK_put] at hv
    split at hv
    · rename_i q
      subst q
      cases hv
      have := sd_key_inj 6 _ _ _ (key2_sd P Q) (key2_sd P' Q') e e'
      simp only [D.tup.injEq, List.cons.injEq] at this
      rw [k2D_inj this.1, k2D_inj this.2.1]
    · exact m.ok2 P' Q' k' v e' hv
theorem key_le {d : D} (h : sd 6 d = true) : ∃ k, d.key = some k ∧ k.depth ≤ 8 := by
  obtain ⟨k, e⟩ := sd_key 6 d h
  exact ⟨k, e, Nat.le_trans (sd_kdep 6 d k h e) (by decide)⟩
theorem added1 {k a h n : Nat} {A : List (NestedKey × D) → Sto} (W : Ad a h A n) (x y : Lt) (kv0 : List (NestedKey × D)) (m0 : MemoA kv0) (hl : kv0.length + 1 ≤ 20000) :
    ∃ kv', F (k + 2) .Adder_added [.ref a, k1D x, k1D y, .int 1] (A kv0) = some (k1D (ors x y), A kv') ∧ MemoA kv' ∧ kv'.length ≤ kv0.length + 1 := by
  obtain ⟨ky, hk, hd⟩ := key_le (key1_sd x y)
  have e : (D.tup (sub (uni 1) (((l1 x).map row1).map id ++ ((l1 y).map row1).map id))) = k1D (ors x y) := by
    rw [List.map_id, List.map_id, ← List.map_append]
    rw [← lt_l1]
    exact sub_row1 _
  have inn : ∀ (u v : D), Inner (k + 1) a h MemoA 0 u v (((1 : Nat) : Int) - 1) (.tup []) := fun u v n A kv _ m _ => ⟨kv, added0 k a u v (A kv), m, Nat.le_refl _⟩
  have row : ∀ d ∈ ((l1 x).map row1) ++ ((l1 y).map row1), ∃ c, d = row1 c := fun d hd' => by
    rw [← List.map_append] at hd'
    obtain ⟨c, _, rfl⟩ := List.mem_map.mp hd'
    exact ⟨c, rfl⟩
  have sz : ∀ z : Lt, (l1 z).length ≤ 2 := fun z => by
    obtain ⟨z1, z2⟩ := z
    cases z1 <;> cases z2 <;> simp [l1]
  have := added_main (k := k + 1) (β := 0) W (M := MemoA) (lo := .tup []) (lt := .tup []) (r := 1) (Nat.le_refl 1) (os := (l1 x).map row1) (ts := (l1 y).map row1) (ky := ky) (by rw [← k1D_l1, ← k1D_l1]; exact hk) hd id id
    (fun d hd' => by
      obtain ⟨c, rfl⟩ := row d (List.mem_append_left _ hd')
      exact ⟨_, _, _, _, rfl, rfl, inn _ _⟩)
    (fun d hd' => by
      obtain ⟨c, rfl⟩ := row d (List.mem_append_right _ hd')
      exact ⟨_, _, _, _, rfl, rfl, inn _ _⟩)
    (fun S => by rw [← k1D_l1]; exact less1 k _ (sd_free 3 _ (k1D_sd x)) S) (fun S => by rw [← k1D_l1]; exact less1 k _ (sd_free 3 _ (k1D_sd y)) S)
    (fun d hd' => by
      rw [List.map_id, List.map_id] at hd'
      obtain ⟨c, rfl⟩ := row d hd'
      exact row1_uni c) kv0 m0 (fun v hv => by rw [e]; exact m0.ok1 x y ky v hk hv) (fun kv m => by rw [e]; exact m.put1 hk) (fun kv m => m.fr) (by simpa using hl) (by
        have h1 := sz x
        have h2 := sz y
        simp only [List.length_map]; omega)
  rw [e, ← k1D_l1, ← k1D_l1] at this
  simpa using this
open Classical in
noncomputable def lift (f : Row → Row) (d : D) : D := if h : ∃ r, d = rowD r then rowD (f (choose h)) else d
theorem lift_row (f : Row → Row) (r : Row) : lift f (rowD r) = rowD (f r) := by
  have h : ∃ r', rowD r = rowD r' := ⟨r, rfl⟩
  unfold lift
  rw [dif_pos h]
  have := rowD_inj (Classical.choose_spec h)
  rw [← this]
theorem map_lift (f : Row → Row) (P : List Row) : (P.map rowD).map (lift f) = (P.map f).map rowD := by
  rw [List.map_map, List.map_map]
  apply List.map_congr_left
  intro r _
  exact lift_row f r
theorem added2 {k a h n : Nat} {A : List (NestedKey × D) → Sto} (W : Ad a h A n) (P Q : List Row) (hP : P.length ≤ 32) (hQ : Q.length ≤ 32) (kv0 : List (NestedKey × D)) (m0 : MemoA kv0) (hl : kv0.length + 65 ≤ 20000) :
    ∃ kv', F (k + 3) .Adder_added [.ref a, k2D P, k2D Q, .int 2] (A kv0) = some (k2D (addM P Q), A kv') ∧ MemoA kv' ∧ kv'.length ≤ kv0.length + 65 := by
  obtain ⟨ky, hk, hd⟩ := key_le (key2_sd P Q)
  let f1 : Row → Row := fun r => (r.1, r.2.1, ors r.2.2 (let2 Q))
  let f2 : Row → Row := fun r => (ors (let2 P) r.1, r.2.1, r.2.2)
  have e : (D.tup (sub (uni 2) ((P.map rowD).map (lift f1) ++ (Q.map rowD).map (lift f2)))) = k2D (addM P Q) := by
    rw [map_lift, map_lift, ← List.map_append]
    exact congrArg D.tup (sub_canon _)
  have inn : ∀ (u v : Lt), Inner (k + 2) a h MemoA 1 (k1D u) (k1D v) (((2 : Nat) : Int) - 1) (k1D (ors u v)) := fun u v n A kv W m hl => added1 W u v kv m hl
  obtain ⟨kv', r1, r2, r3⟩ := added_main (k := k + 2) (β := 1) W (M := MemoA) (lo := k1D (let2 P)) (lt := k1D (let2 Q)) (r := 2) (by decide) (os := P.map rowD) (ts := Q.map rowD) (ky := ky) hk hd (lift f1) (lift f2)
    (fun d hd' => by
      obtain ⟨r, _, rfl⟩ := List.mem_map.mp hd'
      exact ⟨_, _, _, _, rfl, lift_row f1 r, inn _ _⟩)
    (fun d hd' => by
      obtain ⟨r, _, rfl⟩ := List.mem_map.mp hd'
      exact ⟨_, _, _, _, rfl, lift_row f2 r, inn _ _⟩)
    (fun S => less2 k P (by omega) S) (fun S => less2 k Q (by omega) S)
    (fun d hd' => by
      rw [map_lift, map_lift, ← List.map_append] at hd'
      obtain ⟨r, _, rfl⟩ := List.mem_map.mp hd'
      exact row_uni r) kv0 m0 (fun v hv => by rw [e]; exact m0.ok2 P Q ky v hk hv) (fun kv m => by rw [e]; exact m.put2 hk) (fun kv m => m.fr) (by simp only [List.length_map]; omega) (by simp only [List.length_map]; omega)
  rw [e] at r1
  refine ⟨kv', r1, r2, ?_⟩
  simp only [List.length_map] at r3
  omega
/-! ### words one behind the other -/
theorem lt_app (u v : List Bool) : lt (u ++ v) = ors (lt u) (lt v) := by
  simp [lt, ors, List.contains_eq_any_beq]
theorem canon_congr {l m : List Row} (h : ∀ r, r ∈ l ↔ r ∈ m) : canon l = canon m := by
  unfold canon
  congr 1
  funext r
  simp [h r]
theorem canon_mem (l : List Row) (r : Row) : r ∈ canon l ↔ r ∈ l := by
  unfold canon
  simp [List.mem_filter, mem32]
theorem canon_length (l : List Row) : (canon l).length ≤ 32 := by
  have h : all32.length = 32 := by decide
  rw [← h]
  exact List.length_filter_le _ _
theorem rowsR_mem (w : List Bool) (r : Row) : r ∈ rowsR w ↔ ∃ u c v, w = u ++ c :: v ∧ r = (lt u, c, lt v) := by
  unfold rowsR
  rw [List.mem_map]
  constructor
  · rintro ⟨i, hi, rfl⟩
    have hi' : i < w.length := List.mem_range.mp hi
    refine ⟨w.take i, w[i], w.drop (i + 1), ?_, ?_⟩
    · rw [← List.drop_eq_getElem_cons hi', List.take_append_drop]
    · simp [List.getD_eq_getElem?_getD, hi']
  · rintro ⟨u, c, v, rfl, rfl⟩
    refine ⟨u.length, List.mem_range.mpr (by simp), ?_⟩
    simp [List.getD_eq_getElem?_getD]
theorem let2_rows (w : List Bool) : let2 (canon (rowsR w)) = lt w := by
  have key : ∀ c : Bool, (∃ r ∈ canon (rowsR w), r.2.1 = c) ↔ c ∈ w := fun c => by
    constructor
    · rintro ⟨r, hr, rfl⟩
      obtain ⟨u, c, v, rfl, rfl⟩ := (rowsR_mem w r).mp ((canon_mem _ r).mp hr)
      simp
    · intro hc
      obtain ⟨u, v, rfl⟩ := List.append_of_mem hc
      exact ⟨(lt u, c, lt v), (canon_mem _ _).mpr ((rowsR_mem _ _).mpr ⟨u, c, v, rfl, rfl⟩), rfl⟩
  unfold let2 lt
  congr 1
  · rw [Bool.eq_iff_iff, List.any_eq_true, List.contains_iff_mem, ← key false]
    simp
  · rw [Bool.eq_iff_iff, List.any_eq_true, List.contains_iff_mem, ← key true]
theorem addM_rows (u v : List Bool) : addM (canon (rowsR u)) (canon (rowsR v)) = canon (rowsR (u ++ v)) := by
  unfold addM
  rw [let2_rows, let2_rows]
  apply canon_congr
  intro r
  rw [List.mem_append, List.mem_map, List.mem_map, rowsR_mem]
  constructor
  · rintro (⟨q, hq, rfl⟩ | ⟨q, hq, rfl⟩)
    · obtain ⟨x, c, y, rfl, rfl⟩ := (rowsR_mem u q).mp ((canon_mem _ q).mp hq)
      exact ⟨x, c, y ++ v, by simp, by rw [lt_app]⟩
    · obtain ⟨x, c, y, rfl, rfl⟩ := (rowsR_mem v q).mp ((canon_mem _ q).mp hq)
      exact ⟨u ++ x, c, y, by simp, by rw [lt_app]⟩
  · rintro ⟨x, c, y, e, rfl⟩
    rcases List.append_eq_append_iff.mp e with ⟨z, h1, h2⟩ | ⟨z, h1, h2⟩
    · refine .inr ⟨(lt z, c, lt y), (canon_mem _ _).mpr ((rowsR_mem v _).mpr ⟨z, c, y, h2, rfl⟩), ?_⟩
      rw [h1, lt_app]
    · cases z with
      | nil =>
        simp only [List.nil_append] at h2
        refine .inr ⟨(lt [], c, lt y), (canon_mem _ _).mpr ((rowsR_mem v _).mpr ⟨[], c, y, h2.symm, rfl⟩), ?_⟩
        rw [List.append_nil] at h1
        rw [h1]
        simp [ors, lt]
      | cons c' z =>
        simp only [List.cons_append, List.cons.injEq] at h2
        obtain ⟨rfl, h2⟩ := h2
        refine .inl ⟨(lt x, c, lt z), (canon_mem _ _).mpr ((rowsR_mem u _).mpr ⟨x, c, z, h1, rfl⟩), ?_⟩
        rw [h2, lt_app]
theorem add_kr {r : Nat} (h1 : 1 ≤ r) (h2 : r ≤ 2) {k a h n : Nat} {A : List (NestedKey × D) → Sto} (W : Ad a h A n) (u v : List Bool) (kv0 : List (NestedKey × D)) (m0 : MemoA kv0) (hl : kv0.length + 65 ≤ 20000) :
    ∃ kv', F (k + 3) .Adder_added [.ref a, kr r u, kr r v, .int (r : Int)] (A kv0) = some (kr r (u ++ v), A kv') ∧ MemoA kv' ∧ kv'.length ≤ kv0.length + 65 := by
  have : r = 1 ∨ r = 2 := by omega
  rcases this with rfl | rfl
  · obtain ⟨kv', e, m, l⟩ := added1 (k := k + 1) W (lt u) (lt v) kv0 m0 (by omega)
    refine ⟨kv', ?_, m, by omega⟩
    rw [kr1, kr1, kr1, lt_app]
    exact e
  · obtain ⟨kv', e, m, l⟩ := added2 (k := k) W (canon (rowsR u)) (canon (rowsR v)) (canon_length _) (canon_length _) kv0 m0 hl
    refine ⟨kv', ?_, m, l⟩
    rw [kr2, kr2, kr2, ← addM_rows]
    exact e
end K39

set_option Elab.async false
set_option linter.all false
set_option maxRecDepth 100000
set_option maxHeartbeats 4000000
/-! K39x: kind_sum, kind_power -/
namespace K39
open PySem PySem.Spec L2 DL
open PyProof.Rows hiding St
theorem F_kind_sum (k : Nat) : F (k + 1) .kind_sum = pureD (defD 3 (b_kind_sum (F k))) := rfl
theorem F_kind_power (k : Nat) : F (k + 1) .kind_power = pureD (defD 5 (b_kind_power (F k))) := rfl
def A0 (kv : List (NestedKey × D)) : Sto := [adder 1, .dN kv]
theorem W0 : Ad 0 1 A0 2 := ⟨fun _ => rfl, fun _ => rfl, fun _ => rfl, fun _ _ => rfl⟩
theorem make0 : makeD ks_10 1 i_Adder [] [] = some (.ref 0, A0 []) := by
  simp [makeD, i_Adder, defD_eq, bi_Adder, setFD, putFD, A0, adder]
theorem meth0 (kv : List (NestedKey × D)) : isMeth ks_10 ks_12 (.ref 0) (A0 kv) = some ((), A0 kv) := is_added (W0.ga kv)
theorem kr_free {r : Nat} (hr : r ≤ 2) (w : List Bool) : free (kr r w) = true := sd_free 5 _ (kr_sd hr w)
theorem kind_sum_ok (k : Nat) {r : Nat} (h1 : 1 ≤ r) (h2 : r ≤ 2) (u v : List Bool) (S : Sto) : F (k + 4) .kind_sum [kr r u, kr r v, .int (r : Int)] S = some (kr r (u ++ v), S) := by
  obtain ⟨kv', e, _, _⟩ := add_kr h1 h2 (k := k) W0 u v [] MemoA.nil (by simp)
  rw [F_kind_sum]
  refine pureD_of (T := A0 kv') S ?_ (by simp [frees, free, kr_free h2]) (kr_free h2 _)
  simp only [defD_eq, b_kind_sum]
  simp [check_rounds_ok (k + 2) r h2, make0, meth0, e]
def pow (w : List Bool) (n : Nat) : List Bool := (List.replicate n w).flatten
theorem pow_zero (w : List Bool) : pow w 0 = [] := rfl
theorem pow_add (w : List Bool) (n m : Nat) : pow w (n + m) = pow w n ++ pow w m := by
  simp only [pow, ← List.replicate_append_replicate, List.flatten_append]
theorem pow_one (w : List Bool) : pow w 1 = w := by simp [pow]
theorem pow_two (w : List Bool) (n : Nat) : pow (w ++ w) n = pow w (2 * n) := by
  induction n with
  | zero => rfl
  | succ n ih =>
    have h1 : pow (w ++ w) (n + 1) = pow (w ++ w) n ++ (w ++ w) := by rw [pow_add, pow_one]
    have h2 : pow w (2 * (n + 1)) = pow w (2 * n) ++ (w ++ w) := by
      have : 2 * (n + 1) = 2 * n + 1 + 1 := by omega
      rw [this, pow_add, pow_add, pow_one, List.append_assoc]
    rw [h1, h2, ih]
theorem pow_mul (w : List Bool) (m n : Nat) : pow (pow w m) n = pow w (m * n) := by
  induction n with
  | zero => rfl
  | succ n ih => rw [pow_add, pow_one, ih, Nat.mul_add, Nat.mul_one, pow_add]
theorem while_step {t : DL.Env → M Bool} {b : FS} {n : Nat} {ρ ρ' : DL.Env} {S S1 S' : Sto} {r : Out × DL.Env × Sto} (h1 : t ρ S = some (true, S1)) (h2 : b ρ S1 = some (.nx, ρ', S')) (h3 : whileD t b n ρ' S' = some r) : whileD t b (n + 1) ρ S = some r := by
  simp only [whileD, h1, h2, h3]
theorem power_loop {r : Nat} (h1 : 1 ≤ r) (h2 : r ≤ 2) (k : Nat) : ∀ (m fuel t : Nat) (f q : List Bool) (kv : List (NestedKey × D)), t < 2 ^ m → m + 1 ≤ fuel → MemoA kv → kv.length + 130 * m ≤ 20000 →
    ∃ ρ' kv', whileD (fBl (fBin (ltD fun i j => decide (j < i)) (fVar 2) (fC (.int 0)))) (sSeq (sIf (fTru (fBin modD (fVar 2) (fC (.int 2)))) (sSet 4 (fMeth ks_10 ks_12 4 (F (k + 3) .Adder_added) (fVar 3) (aCons (fVar 4) (aCons (fVar 0) (aCons (fVar 1) aNil))))) sNx)
    (sSeq (sSet 0 (fMeth ks_10 ks_12 4 (F (k + 3) .Adder_added) (fVar 3) (aCons (fVar 0) (aCons (fVar 0) (aCons (fVar 1) aNil)))))
    (sAug 2 fdivD (fC (.int 2))))) fuel [some (kr r q), some (.int (r : Int)), some (.int (t : Int)), some (.ref 0), some (kr r f)] (A0 kv) = some (.nx, ρ', A0 kv') ∧ ρ'[4]? = some (some (kr r (f ++ pow q t)))
  | m, 0, t, f, q, kv, ht, hf, mk, hl => by omega
  | 0, fuel + 1, t, f, q, kv, ht, hf, mk, hl => by
    have : t = 0 := by omega
    subst this
    refine ⟨[some (kr r q), some (.int (r : Int)), some (.int ((0 : Nat) : Int)), some (.ref 0), some (kr r f)], kv, ?_, ?_⟩
    · simp only [whileD]
      simp [ltD]
    · simp [pow_zero]
  | m + 1, fuel + 1, t, f, q, kv, ht, hf, mk, hl => by
    by_cases h0 : t = 0
    · subst h0
      refine ⟨[some (kr r q), some (.int (r : Int)), some (.int ((0 : Nat) : Int)), some (.ref 0), some (kr r f)], kv, ?_, ?_⟩
      · simp only [whileD]
        simp [ltD]
      · simp [pow_zero]
    have hp : (0 : Int) < (t : Int) := by omega
    have hd : ((t : Int) / 2) = ((t / 2 : Nat) : Int) := by omega
    have ht2 : t / 2 < 2 ^ m := by
      rw [Nat.pow_succ] at ht
      omega
    by_cases ho : t % 2 = 1
    · obtain ⟨kv1, e1, m1, l1⟩ := add_kr h1 h2 (k := k) W0 f q kv mk (by omega)
      obtain ⟨kv2, e2, m2, l2⟩ := add_kr h1 h2 (k := k) W0 q q kv1 m1 (by omega)
      obtain ⟨ρ', kv', e3, e4⟩ := power_loop h1 h2 k m fuel (t / 2) (f ++ q) (q ++ q) kv2 ht2 (by omega) m2 (by omega)
      refine ⟨ρ', kv', ?_, ?_⟩
      · have hm : ((t : Int) % 2) = 1 := by omega
        have hp' : 0 < t := by omega
        refine while_step (S1 := A0 kv) (by simp [ltD, hp']) ?_ e3
        simp [modD, hm, truD, meth0, e1, e2, fdivD]
      · rw [e4]
        have : f ++ q ++ pow (q ++ q) (t / 2) = f ++ pow q t := by
          rw [pow_two, List.append_assoc]
          congr 1
          have e : t = 1 + 2 * (t / 2) := by omega
          conv => rhs; rw [e, pow_add, pow_one]
        rw [this]
    · obtain ⟨kv2, e2, m2, l2⟩ := add_kr h1 h2 (k := k) W0 q q kv mk (by omega)
      obtain ⟨ρ', kv', e3, e4⟩ := power_loop h1 h2 k m fuel (t / 2) f (q ++ q) kv2 ht2 (by omega) m2 (by omega)
      refine ⟨ρ', kv', ?_, ?_⟩
      · have hm : ((t : Int) % 2) = 0 := by omega
        have hp' : 0 < t := by omega
        refine while_step (S1 := A0 kv) (by simp [ltD, hp']) ?_ e3
        simp [modD, hm, truD, meth0, e2, fdivD]
      · rw [e4]
        have : f ++ pow (q ++ q) (t / 2) = f ++ pow q t := by
          rw [pow_two]
          have e : t = 2 * (t / 2) := by omega
          conv => rhs; rw [e]
        rw [this]
theorem kind_power_ok (k : Nat) {r : Nat} (h1 : 1 ≤ r) (h2 : r ≤ 2) (w : List Bool) (n : Nat) (hn : n < 2 ^ 127) (S : Sto) : F (k + 4) .kind_power [kr r w, .int (r : Int), .int (n : Int)] S = some (kr r (pow w n), S) := by
  have e0 : kr r [] = .tup [] := by
    have : r = 1 ∨ r = 2 := by omega
    rcases this with rfl | rfl
    · rw [kr1]; rfl
    · rw [kr2]; rfl
  obtain ⟨ρ', kv', e, e4⟩ := power_loop h1 h2 k 127 128 n [] w [] hn (by decide) MemoA.nil (by simp)
  rw [F_kind_power]
  refine pureD_of (T := A0 kv') S ?_ (by simp [frees, free, kr_free h2]) (kr_free h2 _)
  rw [e0] at e
  rw [List.nil_append] at e4
  simp only [defD_eq, b_kind_power]
  simp [check_rounds_ok (k + 2) r h2, make0, LINE, e, e4]
end K39

set_option Elab.async false
set_option linter.all false
set_option maxRecDepth 100000
set_option maxHeartbeats 4000000
/-! K39y: sentences, their truth in words -/
namespace K39
open PySem PySem.Spec L2 DL
open PyProof.Rows hiding St
inductive Fm where
  | tt | ff | before (x y : Str) | same (x y : Str) | colour (c : Bool) (x : Str) | not (f : Fm) | and (f g : Fm) | or (f g : Fm) | imp (f g : Fm) | some (x : Str) (f : Fm) | every (x : Str) (f : Fm)
def enc : Fm → D
  | .tt => .tup [.str ks_8]
  | .ff => .tup [.str ks_7]
  | .before x y => .tup [.str ks_1, .str x, .str y]
  | .same x y => .tup [.str ks_0, .str x, .str y]
  | .colour c x => .tup [.str ks_2, cD c, .str x]
  | .not f => .tup [.str ks_6, enc f]
  | .and f g => .tup [.str ks_5, enc f, enc g]
  | .or f g => .tup [.str ks_4, enc f, enc g]
  | .imp f g => .tup [.str ks_3, enc f, enc g]
  | .some x f => .tup [.str ks_9, .str x, enc f]
  | .every x f => .tup [.str ks_13, .str x, enc f]
abbrev As := Str → Option Nat
def upA (a : As) (x : Str) (p : Nat) : As := fun y => if y = x then Option.some p else a y
def wt (W : List Bool) : Fm → As → Bool
  | .tt, _ => true
  | .ff, _ => false
  | .before x y, a => match a x, a y with
    | Option.some p, Option.some q => decide (p < q)
    | _, _ => false
  | .same x y, a => match a x, a y with
    | Option.some p, Option.some q => decide (p = q)
    | _, _ => false
  | .colour c x, a => match a x with
    | Option.some p => W[p]? == Option.some c
    | none => false
  | .not f, a => !wt W f a
  | .and f g, a => wt W f a && wt W g a
  | .or f g, a => wt W f a || wt W g a
  | .imp f g, a => !wt W f a || wt W g a
  | .some x f, a => (List.range W.length).any fun p => wt W f (upA a x p)
  | .every x f, a => (List.range W.length).all fun p => wt W f (upA a x p)
/-- the names are bound, their texts plain -/
def wf : Fm → List Str → Bool
  | .tt, _ => true
  | .ff, _ => true
  | .before x y, v => v.contains x && v.contains y
  | .same x y, v => v.contains x && v.contains y
  | .colour _ x, v => v.contains x
  | .not f, v => wf f v
  | .and f g, v => wf f v && wf g v
  | .or f g, v => wf f v && wf g v
  | .imp f g, v => wf f v && wf g v
  | .some x f, v => PyData.strOk x && wf f (x :: v)
  | .every x f, v => PyData.strOk x && wf f (x :: v)
def dep : Fm → Nat
  | .not f => dep f + 1
  | .and f g => max (dep f) (dep g) + 1
  | .or f g => max (dep f) (dep g) + 1
  | .imp f g => max (dep f) (dep g) + 1
  | .some _ f => dep f + 1
  | .every _ f => dep f + 1
  | _ => 0
theorem F_word_truth (k : Nat) : F (k + 1) .word_truth = scopeD (defD 7 (b_word_truth (F k))) := rfl
theorem F_joined (k : Nat) : F (k + 1) .joined_truth = scopeD (defD 2 (b_joined_truth (F k))) := rfl
theorem F_with_place (k : Nat) : F (k + 1) .with_place = defD 4 (b_with_place (F k)) := rfl
theorem eqS (S : Sto) (x y : Str) : eqD (.str x) (.str y) S = some (.bl (decide (x = y)), S) := rfl
/-- the texts that the code compares -/
theorem inS2 (S : Sto) (x a b : Str) (hx : PyData.strOk x = true) (ha : PyData.strOk a = true) (hb : PyData.strOk b = true) : inD (.str x) (.tup [.str a, .str b]) S = some (.bl (decide (x = a) || decide (x = b)), S) :=
  inD_of (inB_tupb (n := 0) (d := .str x) (ys := [.str a, .str b]) (by exact hx) (fun y hy => by
    simp only [List.mem_cons, List.not_mem_nil, or_false] at hy
    rcases hy with rfl | rfl
    · exact ha
    · exact hb) (by decide) (by simp))
/-- the dict of an assignment -/
def AsD (kvs : List (Key × D)) (a : As) : Prop := ∀ x p, a x = some p → getK kvs (.inr x) = some (.int (p : Int))
theorem AsD.up {kvs : List (Key × D)} {a : As} (h : AsD kvs a) (x : Str) (p : Nat) : AsD (putD kvs (.inr x) (.int (p : Int))) (upA a x p) := by
  intro y q hy
  rw [getK_put]
  unfold upA at hy
  by_cases e : y = x
  · subst e; simp at hy ⊢; rw [hy]
  · have : ¬ (Sum.inr y : Key) = .inr x := fun z => e (by cases z; rfl)
    rw [if_neg this]
    rw [if_neg e] at hy
    exact h y q hy
theorem idx_dK {S : Sto} {h : Nat} {kvs : List (Key × D)} {x : Str} {d : D} (e : S[h]? = some (.dK kvs)) (hv : getK kvs (.inr x) = some d) : idxD (.ref h) (.str x) S = some (d, S) := by
  simp only [idxD, e, hv]
theorem with_place_ok (k : Nat) {S : Sto} {h : Nat} {kvs : List (Key × D)} {x : Str} {d : D} (e : S[h]? = some (.dK kvs)) (hl : kvs.length < LINE) : F (k + 1) .with_place [.ref h, .str x, d] S = some (.ref S.length, S ++ [.dK (putD kvs (.inr x) d)]) := by
  rw [F_with_place]
  have h1 : dictD [.ref h] S = some (.ref S.length, S ++ [.dK kvs]) := by simp only [dictD, e]
  have h2 : setD (.ref S.length) (.str x) d (S ++ [.dK kvs]) = some ((), S ++ [.dK (putD kvs (.inr x) d)]) := by
    simp only [setD, get_end1, keyF, if_pos hl]
    congr 2
    simp
  simp only [defD_eq, b_with_place]
  simp [h1, h2]
theorem idxT {ds : List D} {i : Nat} {d : D} (h : ds[i]? = Option.some d) (S : Sto) : idxD (.tup ds) (.int (i : Int)) S = Option.some (d, S) := by
  simp only [idxD, L2.atI_nat h]
theorem idxL {S : Sto} {h i : Nat} {ds : List D} {d : D} (e : S[h]? = Option.some (.lst ds)) (hd : ds[i]? = Option.some d) : idxD (.ref h) (.int (i : Int)) S = Option.some (d, S) := by
  simp only [idxD, e, L2.atI_nat hd]
theorem idx0 (x : D) (r : List D) (S : Sto) : idxD (.tup (x :: r)) (.int 0) S = Option.some (x, S) := idxT (i := 0) rfl S
theorem idx1 (x y : D) (r : List D) (S : Sto) : idxD (.tup (x :: y :: r)) (.int 1) S = Option.some (y, S) := idxT (i := 1) rfl S
theorem idx2 (x y z : D) (r : List D) (S : Sto) : idxD (.tup (x :: y :: z :: r)) (.int 2) S = Option.some (z, S) := idxT (i := 2) rfl S
theorem idxL0 {S : Sto} {h : Nat} {x : D} {r : List D} (e : S[h]? = Option.some (.lst (x :: r))) : idxD (.ref h) (.int 0) S = Option.some (x, S) := idxL (i := 0) e rfl
theorem idxL1 {S : Sto} {h : Nat} {x y : D} {r : List D} (e : S[h]? = Option.some (.lst (x :: y :: r))) : idxD (.ref h) (.int 1) S = Option.some (y, S) := idxL (i := 1) e rfl
theorem kne : ks_0 ≠ ks_1 ∧ ks_0 ≠ ks_2 := by decide +kernel
theorem joined_not (k : Nat) {S : Sto} {h : Nat} {a : Bool} (e : S[h]? = some (.lst [.bl a])) : F (k + 1) .joined_truth [.str ks_6, .ref h] S = some (.bl (!a), S) := by
  rw [F_joined]
  refine scopeD_app (T := []) ?_ rfl
  simp only [defD_eq, b_joined_truth]
  simp [eqS, idxL0 e]
theorem joined2 (k : Nat) {S : Sto} {h : Nat} {a b : Bool} (w : Str) (hw : w = ks_5 ∨ w = ks_4 ∨ w = ks_3) (e : S[h]? = some (.lst [.bl a, .bl b])) : F (k + 1) .joined_truth [.str w, .ref h] S = some (.bl (if w = ks_5 then a && b else if w = ks_4 then a || b else !a || b), S) := by
  have n65 : ks_5 ≠ ks_6 := by decide +kernel
  have n64 : ks_4 ≠ ks_6 := by decide +kernel
  have n63 : ks_3 ≠ ks_6 := by decide +kernel
  have n54 : ks_4 ≠ ks_5 := by decide +kernel
  have n53 : ks_3 ≠ ks_5 := by decide +kernel
  have n43 : ks_3 ≠ ks_4 := by decide +kernel
  rw [F_joined]
  refine scopeD_app (T := []) ?_ rfl
  simp only [defD_eq, b_joined_truth]
  rcases hw with rfl | rfl | rfl
  · simp [eqS, n65, idxL0 e, idxL1 e]
    cases a <;> simp
  · simp [eqS, n64, n54, idxL0 e, idxL1 e]
    cases a <;> simp
  · simp [eqS, n63, n53, n43, idxL0 e, idxL1 e]
    cases a <;> simp
/-! truth in a word -/
theorem rngW (n : Nat) (hn : n ≤ 1000) (S : Sto) : rng1S [.int (n : Int)] S = Option.some (rngSrc 0 n, S) := by
  have hb : natB (n : Int) = Option.some n := by
    show (if Nat.ble n 2305843009213693952 = true then Option.some n else none) = Option.some n
    rw [if_pos (Nat.ble_eq_true_of_le (by omega))]
  simp only [rng1S, hb]
theorem walks_rng0 (n : Nat) (S : Sto) : Walks (rngSrc 0 n) ((List.range n).map fun i : Nat => D.int (i : Int)) S → True := fun _ => trivial
/-- a loop over places that makes things on its way -/
theorem lc_rng {n : Nat} {S0 : Sto} {g : D → Sto → Option Ups} {f : DL.Env → M D} {vs : List Nat} {ρ : DL.Env} {y : Nat → D} (hl : n ≤ LINE)
    (h : ∀ i, i < n → ∀ T, ∃ us T', g (.int (i : Int)) (S0 ++ T) = Option.some us ∧ (us.all fun p => decide (p.1 ∈ vs)) = true ∧ f (upsD ρ us) (S0 ++ T) = Option.some (y i, S0 ++ T ++ T')) :
    ∃ T', lcD (rngSrc 0 n) g tYesD f vs ρ (rngSrc 0 n).n 0 [] S0 = Option.some ((List.range n).map y, S0 ++ T') := by
  have main := lc_inv (src := rngSrc 0 n) (g := g) (t := tYesD) (f := f) (vs := vs) (ρ := ρ) (fun i acc S => acc = (List.range i).map y ∧ ∃ T, S = S0 ++ T) (fun i acc S hi ⟨ha, T, hT⟩ => by
    subst ha
    subst hT
    have hi' : i < n := hi
    obtain ⟨us, T', h1, h2, h3⟩ := h i hi' T
    refine ⟨.int (i : Int), us, by simp [rngSrc], h1, h2, .inr ⟨S0 ++ T, y i, S0 ++ T ++ T', rfl, h3, by simp; omega, by rw [List.range_succ, List.map_append]; rfl, T ++ T', by simp⟩⟩) (fun _ _ _ => rfl) (S := S0) ⟨rfl, [], by simp⟩
  obtain ⟨acc, S', e, rfl, T, rfl⟩ := main
  exact ⟨T, e⟩
theorem strs_ok : PyData.strOk ks_0 = true ∧ PyData.strOk ks_1 = true ∧ PyData.strOk ks_2 = true ∧ PyData.strOk ks_3 = true ∧ PyData.strOk ks_4 = true ∧ PyData.strOk ks_5 = true ∧ PyData.strOk ks_6 = true ∧ PyData.strOk ks_7 = true ∧ PyData.strOk ks_8 = true ∧ PyData.strOk ks_9 = true ∧ PyData.strOk ks_13 = true := by decide +kernel
theorem turnsD : g_TURNS = .tup [.str ks_13, .str ks_9] := rfl
def heads : List Str := [ks_0, ks_1, ks_2, ks_3, ks_4, ks_5, ks_6, ks_7, ks_8, ks_9, ks_13]
theorem heads_nodup : heads.Nodup := by decide +kernel
theorem encT (φ : Fm) : ∃ h r, enc φ = .tup (.str h :: r) ∧ h ∈ heads := by
  cases φ <;> exact ⟨_, _, rfl, by simp [heads]⟩
def Bnd (a : As) (v : List Str) : Prop := ∀ x ∈ v, ∃ p, a x = Option.some p
theorem Bnd.up {a : As} {v : List Str} (h : Bnd a v) (x : Str) (p : Nat) : Bnd (upA a x p) (x :: v) := by
  intro y hy
  unfold upA
  by_cases e : y = x
  · exact ⟨p, if_pos e⟩
  · rw [if_neg e]
    exact h y ((List.mem_cons.mp hy).resolve_left e)
/-- all places lie in the word -/
def InW (W : List Bool) (a : As) : Prop := ∀ x p, a x = Option.some p → p < W.length
theorem InW.up {W : List Bool} {a : As} (h : InW W a) (x : Str) {p : Nat} (hp : p < W.length) : InW W (upA a x p) := by
  intro y q hy
  unfold upA at hy
  by_cases e : y = x
  · rw [if_pos e] at hy; cases hy; exact hp
  · rw [if_neg e] at hy; exact h y q hy
end K39

set_option Elab.async false
set_option linter.all false
set_option maxRecDepth 100000
set_option maxHeartbeats 4000000
/-! K39z: truth of sentences in words, as the code finds it -/
namespace K39
open PySem PySem.Spec L2 DL
open PyProof.Rows hiding St
@[simp] theorem nk_0_1 : (ks_0 = ks_1) = False := eq_false (by decide +kernel)
@[simp] theorem nk_0_2 : (ks_0 = ks_2) = False := eq_false (by decide +kernel)
@[simp] theorem nk_0_3 : (ks_0 = ks_3) = False := eq_false (by decide +kernel)
@[simp] theorem nk_0_4 : (ks_0 = ks_4) = False := eq_false (by decide +kernel)
@[simp] theorem nk_0_5 : (ks_0 = ks_5) = False := eq_false (by decide +kernel)
@[simp] theorem nk_0_6 : (ks_0 = ks_6) = False := eq_false (by decide +kernel)
@[simp] theorem nk_0_7 : (ks_0 = ks_7) = False := eq_false (by decide +kernel)
@[simp] theorem nk_0_8 : (ks_0 = ks_8) = False := eq_false (by decide +kernel)
@[simp] theorem nk_0_9 : (ks_0 = ks_9) = False := eq_false (by decide +kernel)
@[simp] theorem nk_0_13 : (ks_0 = ks_13) = False := eq_false (by decide +kernel)
@[simp] theorem nk_1_0 : (ks_1 = ks_0) = False := eq_false (by decide +kernel)
@[simp] theorem nk_1_2 : (ks_1 = ks_2) = False := eq_false (by decide +kernel)
@[simp] theorem nk_1_3 : (ks_1 = ks_3) = False := eq_false (by decide +kernel)
@[simp] theorem nk_1_4 : (ks_1 = ks_4) = False := eq_false (by decide +kernel)
@[simp] theorem nk_1_5 : (ks_1 = ks_5) = False := eq_false (by decide +kernel)
@[simp] theorem nk_1_6 : (ks_1 = ks_6) = False := eq_false (by decide +kernel)
@[simp] theorem nk_1_7 : (ks_1 = ks_7) = False := eq_false (by decide +kernel)
@[simp] theorem nk_1_8 : (ks_1 = ks_8) = False := eq_false (by decide +kernel)
@[simp] theorem nk_1_9 : (ks_1 = ks_9) = False := eq_false (by decide +kernel)
@[simp] theorem nk_1_13 : (ks_1 = ks_13) = False := eq_false (by decide +kernel)
@[simp] theorem nk_2_0 : (ks_2 = ks_0) = False := eq_false (by decide +kernel)
@[simp] theorem nk_2_1 : (ks_2 = ks_1) = False := eq_false (by decide +kernel)
@[simp] theorem nk_2_3 : (ks_2 = ks_3) = False := eq_false (by decide +kernel)
@[simp] theorem nk_2_4 : (ks_2 = ks_4) = False := eq_false (by decide +kernel)
@[simp] theorem nk_2_5 : (ks_2 = ks_5) = False := eq_false (by decide +kernel)
@[simp] theorem nk_2_6 : (ks_2 = ks_6) = False := eq_false (by decide +kernel)
@[simp] theorem nk_2_7 : (ks_2 = ks_7) = False := eq_false (by decide +kernel)
@[simp] theorem nk_2_8 : (ks_2 = ks_8) = False := eq_false (by decide +kernel)
@[simp] theorem nk_2_9 : (ks_2 = ks_9) = False := eq_false (by decide +kernel)
@[simp] theorem nk_2_13 : (ks_2 = ks_13) = False := eq_false (by decide +kernel)
@[simp] theorem nk_3_0 : (ks_3 = ks_0) = False := eq_false (by decide +kernel)
@[simp] theorem nk_3_1 : (ks_3 = ks_1) = False := eq_false (by decide +kernel)
@[simp] theorem nk_3_2 : (ks_3 = ks_2) = False := eq_false (by decide +kernel)
@[simp] theorem nk_3_4 : (ks_3 = ks_4) = False := eq_false (by decide +kernel)
@[simp] theorem nk_3_5 : (ks_3 = ks_5) = False := eq_false (by decide +kernel)
@[simp] theorem nk_3_6 : (ks_3 = ks_6) = False := eq_false (by decide +kernel)
@[simp] theorem nk_3_7 : (ks_3 = ks_7) = False := eq_false (by decide +kernel)
@[simp] theorem nk_3_8 : (ks_3 = ks_8) = False := eq_false (by decide +kernel)
@[simp] theorem nk_3_9 : (ks_3 = ks_9) = False := eq_false (by decide +kernel)
@[simp] theorem nk_3_13 : (ks_3 = ks_13) = False := eq_false (by decide +kernel)
@[simp] theorem nk_4_0 : (ks_4 = ks_0) = False := eq_false (by decide +kernel)
@[simp] theorem nk_4_1 : (ks_4 = ks_1) = False := eq_false (by decide +kernel)
@[simp] theorem nk_4_2 : (ks_4 = ks_2) = False := eq_false (by decide +kernel)
@[simp] theorem nk_4_3 : (ks_4 = ks_3) = False := eq_false (by decide +kernel)
@[simp] theorem nk_4_5 : (ks_4 = ks_5) = False := eq_false (by decide +kernel)
@[simp] theorem nk_4_6 : (ks_4 = ks_6) = False := eq_false (by decide +kernel)
@[simp] theorem nk_4_7 : (ks_4 = ks_7) = False := eq_false (by decide +kernel)
@[simp] theorem nk_4_8 : (ks_4 = ks_8) = False := eq_false (by decide +kernel)
@[simp] theorem nk_4_9 : (ks_4 = ks_9) = False := eq_false (by decide +kernel)
@[simp] theorem nk_4_13 : (ks_4 = ks_13) = False := eq_false (by decide +kernel)
@[simp] theorem nk_5_0 : (ks_5 = ks_0) = False := eq_false (by decide +kernel)
@[simp] theorem nk_5_1 : (ks_5 = ks_1) = False := eq_false (by decide +kernel)
@[simp] theorem nk_5_2 : (ks_5 = ks_2) = False := eq_false (by decide +kernel)
@[simp] theorem nk_5_3 : (ks_5 = ks_3) = False := eq_false (by decide +kernel)
@[simp] theorem nk_5_4 : (ks_5 = ks_4) = False := eq_false (by decide +kernel)
@[simp] theorem nk_5_6 : (ks_5 = ks_6) = False := eq_false (by decide +kernel)
@[simp] theorem nk_5_7 : (ks_5 = ks_7) = False := eq_false (by decide +kernel)
@[simp] theorem nk_5_8 : (ks_5 = ks_8) = False := eq_false (by decide +kernel)
@[simp] theorem nk_5_9 : (ks_5 = ks_9) = False := eq_false (by decide +kernel)
@[simp] theorem nk_5_13 : (ks_5 = ks_13) = False := eq_false (by decide +kernel)
@[simp] theorem nk_6_0 : (ks_6 = ks_0) = False := eq_false (by decide +kernel)
@[simp] theorem nk_6_1 : (ks_6 = ks_1) = False := eq_false (by decide +kernel)
@[simp] theorem nk_6_2 : (ks_6 = ks_2) = False := eq_false (by decide +kernel)
@[simp] theorem nk_6_3 : (ks_6 = ks_3) = False := eq_false (by decide +kernel)
@[simp] theorem nk_6_4 : (ks_6 = ks_4) = False := eq_false (by decide +kernel)
@[simp] theorem nk_6_5 : (ks_6 = ks_5) = False := eq_false (by decide +kernel)
@[simp] theorem nk_6_7 : (ks_6 = ks_7) = False := eq_false (by decide +kernel)
@[simp] theorem nk_6_8 : (ks_6 = ks_8) = False := eq_false (by decide +kernel)
@[simp] theorem nk_6_9 : (ks_6 = ks_9) = False := eq_false (by decide +kernel)
@[simp] theorem nk_6_13 : (ks_6 = ks_13) = False := eq_false (by decide +kernel)
@[simp] theorem nk_7_0 : (ks_7 = ks_0) = False := eq_false (by decide +kernel)
@[simp] theorem nk_7_1 : (ks_7 = ks_1) = False := eq_false (by decide +kernel)
@[simp] theorem nk_7_2 : (ks_7 = ks_2) = False := eq_false (by decide +kernel)
@[simp] theorem nk_7_3 : (ks_7 = ks_3) = False := eq_false (by decide +kernel)
@[simp] theorem nk_7_4 : (ks_7 = ks_4) = False := eq_false (by decide +kernel)
@[simp] theorem nk_7_5 : (ks_7 = ks_5) = False := eq_false (by decide +kernel)
@[simp] theorem nk_7_6 : (ks_7 = ks_6) = False := eq_false (by decide +kernel)
@[simp] theorem nk_7_8 : (ks_7 = ks_8) = False := eq_false (by decide +kernel)
@[simp] theorem nk_7_9 : (ks_7 = ks_9) = False := eq_false (by decide +kernel)
@[simp] theorem nk_7_13 : (ks_7 = ks_13) = False := eq_false (by decide +kernel)
@[simp] theorem nk_8_0 : (ks_8 = ks_0) = False := eq_false (by decide +kernel)
@[simp] theorem nk_8_1 : (ks_8 = ks_1) = False := eq_false (by decide +kernel)
@[simp] theorem nk_8_2 : (ks_8 = ks_2) = False := eq_false (by decide +kernel)
@[simp] theorem nk_8_3 : (ks_8 = ks_3) = False := eq_false (by decide +kernel)
@[simp] theorem nk_8_4 : (ks_8 = ks_4) = False := eq_false (by decide +kernel)
@[simp] theorem nk_8_5 : (ks_8 = ks_5) = False := eq_false (by decide +kernel)
@[simp] theorem nk_8_6 : (ks_8 = ks_6) = False := eq_false (by decide +kernel)
@[simp] theorem nk_8_7 : (ks_8 = ks_7) = False := eq_false (by decide +kernel)
@[simp] theorem nk_8_9 : (ks_8 = ks_9) = False := eq_false (by decide +kernel)
@[simp] theorem nk_8_13 : (ks_8 = ks_13) = False := eq_false (by decide +kernel)
@[simp] theorem nk_9_0 : (ks_9 = ks_0) = False := eq_false (by decide +kernel)
@[simp] theorem nk_9_1 : (ks_9 = ks_1) = False := eq_false (by decide +kernel)
@[simp] theorem nk_9_2 : (ks_9 = ks_2) = False := eq_false (by decide +kernel)
@[simp] theorem nk_9_3 : (ks_9 = ks_3) = False := eq_false (by decide +kernel)
@[simp] theorem nk_9_4 : (ks_9 = ks_4) = False := eq_false (by decide +kernel)
@[simp] theorem nk_9_5 : (ks_9 = ks_5) = False := eq_false (by decide +kernel)
@[simp] theorem nk_9_6 : (ks_9 = ks_6) = False := eq_false (by decide +kernel)
@[simp] theorem nk_9_7 : (ks_9 = ks_7) = False := eq_false (by decide +kernel)
@[simp] theorem nk_9_8 : (ks_9 = ks_8) = False := eq_false (by decide +kernel)
@[simp] theorem nk_9_13 : (ks_9 = ks_13) = False := eq_false (by decide +kernel)
@[simp] theorem nk_13_0 : (ks_13 = ks_0) = False := eq_false (by decide +kernel)
@[simp] theorem nk_13_1 : (ks_13 = ks_1) = False := eq_false (by decide +kernel)
@[simp] theorem nk_13_2 : (ks_13 = ks_2) = False := eq_false (by decide +kernel)
@[simp] theorem nk_13_3 : (ks_13 = ks_3) = False := eq_false (by decide +kernel)
@[simp] theorem nk_13_4 : (ks_13 = ks_4) = False := eq_false (by decide +kernel)
@[simp] theorem nk_13_5 : (ks_13 = ks_5) = False := eq_false (by decide +kernel)
@[simp] theorem nk_13_6 : (ks_13 = ks_6) = False := eq_false (by decide +kernel)
@[simp] theorem nk_13_7 : (ks_13 = ks_7) = False := eq_false (by decide +kernel)
@[simp] theorem nk_13_8 : (ks_13 = ks_8) = False := eq_false (by decide +kernel)
@[simp] theorem nk_13_9 : (ks_13 = ks_9) = False := eq_false (by decide +kernel)
theorem ok_of {h : Str} (hh : h ∈ heads) : PyData.strOk h = true := by
  have : heads.all PyData.strOk = true := by decide +kernel
  exact List.all_eq_true.mp this h hh
theorem in87 (S : Sto) {h : Str} (hh : h ∈ heads) : inD (.str h) (.tup [.str ks_8, .str ks_7]) S = Option.some (.bl (decide (h = ks_8) || decide (h = ks_7)), S) := inS2 S h _ _ (ok_of hh) (ok_of (by simp [heads])) (ok_of (by simp [heads]))
theorem inTu (S : Sto) {h : Str} (hh : h ∈ heads) : inD (.str h) g_TURNS S = Option.some (.bl (decide (h = ks_13) || decide (h = ks_9)), S) := inS2 S h _ _ (ok_of hh) (ok_of (by simp [heads])) (ok_of (by simp [heads]))
theorem in10 (S : Sto) {h : Str} (hh : h ∈ heads) : inD (.str h) (.tup [.str ks_1, .str ks_0]) S = Option.some (.bl (decide (h = ks_1) || decide (h = ks_0)), S) := inS2 S h _ _ (ok_of hh) (ok_of (by simp [heads])) (ok_of (by simp [heads]))
theorem wt_at {W : List Bool} {a : As} {c : Bool} {x : Str} {p : Nat} (h : a x = Option.some p) (hp : p < W.length) : wt W (.colour c x) a = decide (W[p] = c) := by
  simp only [wt, h, List.getElem?_eq_getElem hp]
  by_cases e : W[p] = c <;> simp [e]
theorem idxW {W : List Bool} {p : Nat} (hp : p < W.length) (S : Sto) : idxD (wD W) (.int (p : Int)) S = Option.some (cD W[p], S) := idxT (by simp [hp]) S
theorem eqC (S : Sto) (a b : Bool) : eqD (cD a) (cD b) S = Option.some (.bl (decide (a = b)), S) := by
  refine eqD_of (eqB_sdb (n := 0) (cD_sd 0 a) (cD_sd 0 b) (by decide) ?_)
  simp only [decide_eq_true_eq]
  exact ⟨fun e => by rw [e], fun e => cD_inj e⟩
@[simp] theorem r_oSomeC (i : Int) (ρ : DL.Env) (S : Sto) : oSome (fC (.int i)) ρ S = Option.some (Option.some i, S) := rfl
theorem sl2 (a b : D) (S : Sto) : slD (.tup [a, b]) (Option.some 1) none S = Option.some (.tup [b], S) := rfl
theorem sl3 (a b c : D) (S : Sto) : slD (.tup [a, b, c]) (Option.some 1) none S = Option.some (.tup [b, c], S) := rfl
def valD (o : Option (D × Sto)) : D := match o with
  | Option.some (d, _) => d
  | none => .non
theorem word_truth_ok {W : List Bool} (hW : W.length ≤ 12) : ∀ (φ : Fm) (v : List Str) (n : Nat) (S : Sto) (h : Nat) (kvs : List (Key × D)) (a : As), dep φ + 2 ≤ n → wf φ v = true → Bnd a v → InW W a → AsD kvs a → S[h]? = Option.some (.dK kvs) → kvs.length + dep φ ≤ 1000 → F n .word_truth [wD W, enc φ, .ref h] S = Option.some (.bl (wt W φ a), S) := by
  have h8 : ks_8 ∈ heads := by simp [heads]
  intro φ
  induction φ with
  | tt =>
    intro v n S h kvs a hn hf hb hi hd e hl
    obtain ⟨m, rfl⟩ : ∃ m, n = m + 1 := ⟨n - 1, by omega⟩
    rw [F_word_truth]
    refine scopeD_app (T := []) ?_ rfl
    simp only [defD_eq, b_word_truth]
    simp [enc, idx0, eqS, in87 _ h8, LINE, wt]
  | ff =>
    intro v n S h kvs a hn hf hb hi hd e hl
    obtain ⟨m, rfl⟩ : ∃ m, n = m + 1 := ⟨n - 1, by omega⟩
    rw [F_word_truth]
    refine scopeD_app (T := []) ?_ rfl
    simp only [defD_eq, b_word_truth]
    simp [enc, idx0, eqS, in87 _ (show ks_7 ∈ heads by simp [heads]), LINE, wt]
  | before x y =>
    intro v n S h kvs a hn hf hb hi hd e hl
    obtain ⟨m, rfl⟩ : ∃ m, n = m + 1 := ⟨n - 1, by omega⟩
    simp only [wf, Bool.and_eq_true, List.contains_iff_mem] at hf
    obtain ⟨p, hp⟩ := hb x hf.1
    obtain ⟨q, hq⟩ := hb y hf.2
    rw [F_word_truth]
    refine scopeD_app (T := []) ?_ rfl
    simp only [defD_eq, b_word_truth]
    simp [enc, idx0, idx1, idx2, eqS, idx_dK e (hd x p hp), idx_dK e (hd y q hq), ltD, wt, hp, hq]
  | same x y =>
    intro v n S h kvs a hn hf hb hi hd e hl
    obtain ⟨m, rfl⟩ : ∃ m, n = m + 1 := ⟨n - 1, by omega⟩
    simp only [wf, Bool.and_eq_true, List.contains_iff_mem] at hf
    obtain ⟨p, hp⟩ := hb x hf.1
    obtain ⟨q, hq⟩ := hb y hf.2
    rw [F_word_truth]
    refine scopeD_app (T := []) ?_ rfl
    simp only [defD_eq, b_word_truth]
    simp [enc, idx0, idx1, idx2, eqS, eqI, idx_dK e (hd x p hp), idx_dK e (hd y q hq), wt, hp, hq, Int.ofNat_inj]
  | colour c x =>
    intro v n S h kvs a hn hf hb hi hd e hl
    obtain ⟨m, rfl⟩ : ∃ m, n = m + 1 := ⟨n - 1, by omega⟩
    simp only [wf, List.contains_iff_mem] at hf
    obtain ⟨p, hp⟩ := hb x hf
    rw [F_word_truth, wt_at hp (hi x p hp)]
    refine scopeD_app (T := []) ?_ rfl
    simp only [defD_eq, b_word_truth]
    simp [enc, idx0, idx1, idx2, eqS, idx_dK e (hd x p hp), idxW (hi x p hp), eqC]
  | not f ih =>
    intro v n S h kvs a hn hf hb hi hd e hl
    obtain ⟨m, rfl⟩ : ∃ m, n = m + 1 := ⟨n - 1, by omega⟩
    simp only [wf] at hf
    simp only [dep] at hn hl
    obtain ⟨m', rfl⟩ : ∃ m', m = m' + 1 := ⟨m - 1, by omega⟩
    have e1 := ih v (m' + 1) S h kvs a (by omega) hf hb hi hd e (by omega)
    have lc := lc_map (walks_sq [enc f] S) (g := gNm 6) (f := fCall (chk 3 (F (m' + 1) .word_truth)) (aCons (fVar 0) (aCons (fVar 6) (aCons (fVar 2) aNil)))) (vs := [6]) (ρ := wipeD [Option.some (wD W), Option.some (enc (.not f)), Option.some (.ref h), Option.some (.str ks_6), none, none, none] [6]) (y := fun d => valD (F (m' + 1) .word_truth [wD W, d, .ref h] S)) (by simp [LINE]) fun d hd' => by
      refine ⟨[(6, d)], rfl, by simp, ?_⟩
      simp only [List.mem_cons, List.not_mem_nil, or_false] at hd'
      subst hd'
      simp [e1, valD]
    have l1 := lc
    simp only [List.map_cons, List.map_nil, e1, valD] at l1
    have j := joined_not m' (get_end1 S (.lst [.bl (wt W f a)]))
    rw [F_word_truth]
    refine scopeD_app (T := [.lst [.bl (wt W f a)]]) ?_ rfl
    simp only [defD_eq, b_word_truth]
    simp only [enc] at l1 ⊢
    simp only [r_wipe0, r_wipe1, List.set_cons_succ, List.set_cons_zero] at l1
    simp [idx0, eqS, in87 _ (show ks_6 ∈ heads by simp [heads]), inTu _ (show ks_6 ∈ heads by simp [heads]), LINE, sl2, l1, j, wt]
  | and f g ih1 ih2 =>
    intro v n S h kvs a hn hf hb hi hd e hl
    obtain ⟨m, rfl⟩ : ∃ m, n = m + 1 := ⟨n - 1, by omega⟩
    simp only [wf, Bool.and_eq_true] at hf
    simp only [dep] at hn hl
    obtain ⟨m', rfl⟩ : ∃ m', m = m' + 1 := ⟨m - 1, by omega⟩
    have e1 := ih1 v (m' + 1) S h kvs a (by omega) hf.1 hb hi hd e (by omega)
    have e2 := ih2 v (m' + 1) S h kvs a (by omega) hf.2 hb hi hd e (by omega)
    have lc := lc_map (walks_sq [enc f, enc g] S) (g := gNm 6) (f := fCall (chk 3 (F (m' + 1) .word_truth)) (aCons (fVar 0) (aCons (fVar 6) (aCons (fVar 2) aNil)))) (vs := [6]) (ρ := wipeD [Option.some (wD W), Option.some (enc (.and f g)), Option.some (.ref h), Option.some (.str ks_5), none, none, none] [6]) (y := fun d => valD (F (m' + 1) .word_truth [wD W, d, .ref h] S)) (by simp [LINE]) fun d hd' => by
      refine ⟨[(6, d)], rfl, by simp, ?_⟩
      simp only [List.mem_cons, List.not_mem_nil, or_false] at hd'
      rcases hd' with rfl | rfl
      · simp [e1, valD]
      · simp [e2, valD]
    have l1 := lc
    simp only [List.map_cons, List.map_nil, e1, e2, valD] at l1
    have j := joined2 m' ks_5 (.inl rfl) (get_end1 S (.lst [.bl (wt W f a), .bl (wt W g a)]))
    rw [F_word_truth]
    refine scopeD_app (T := [.lst [.bl (wt W f a), .bl (wt W g a)]]) ?_ rfl
    simp only [defD_eq, b_word_truth]
    simp only [enc] at l1 ⊢
    simp only [r_wipe0, r_wipe1, List.set_cons_succ, List.set_cons_zero] at l1
    simp [idx0, eqS, in87 _ (show ks_5 ∈ heads by simp [heads]), inTu _ (show ks_5 ∈ heads by simp [heads]), LINE, sl3, l1, j, wt]
  | or f g ih1 ih2 =>
    intro v n S h kvs a hn hf hb hi hd e hl
    obtain ⟨m, rfl⟩ : ∃ m, n = m + 1 := ⟨n - 1, by omega⟩
    simp only [wf, Bool.and_eq_true] at hf
    simp only [dep] at hn hl
    obtain ⟨m', rfl⟩ : ∃ m', m = m' + 1 := ⟨m - 1, by omega⟩
    have e1 := ih1 v (m' + 1) S h kvs a (by omega) hf.1 hb hi hd e (by omega)
    have e2 := ih2 v (m' + 1) S h kvs a (by omega) hf.2 hb hi hd e (by omega)
    have lc := lc_map (walks_sq [enc f, enc g] S) (g := gNm 6) (f := fCall (chk 3 (F (m' + 1) .word_truth)) (aCons (fVar 0) (aCons (fVar 6) (aCons (fVar 2) aNil)))) (vs := [6]) (ρ := wipeD [Option.some (wD W), Option.some (enc (.or f g)), Option.some (.ref h), Option.some (.str ks_4), none, none, none] [6]) (y := fun d => valD (F (m' + 1) .word_truth [wD W, d, .ref h] S)) (by simp [LINE]) fun d hd' => by
      refine ⟨[(6, d)], rfl, by simp, ?_⟩
      simp only [List.mem_cons, List.not_mem_nil, or_false] at hd'
      rcases hd' with rfl | rfl
      · simp [e1, valD]
      · simp [e2, valD]
    have l1 := lc
    simp only [List.map_cons, List.map_nil, e1, e2, valD] at l1
    have j := joined2 m' ks_4 (.inr (.inl rfl)) (get_end1 S (.lst [.bl (wt W f a), .bl (wt W g a)]))
    rw [F_word_truth]
    refine scopeD_app (T := [.lst [.bl (wt W f a), .bl (wt W g a)]]) ?_ rfl
    simp only [defD_eq, b_word_truth]
    simp only [enc] at l1 ⊢
    simp only [r_wipe0, r_wipe1, List.set_cons_succ, List.set_cons_zero] at l1
    simp [idx0, eqS, in87 _ (show ks_4 ∈ heads by simp [heads]), inTu _ (show ks_4 ∈ heads by simp [heads]), LINE, sl3, l1, j, wt]
  | imp f g ih1 ih2 =>
    intro v n S h kvs a hn hf hb hi hd e hl
    obtain ⟨m, rfl⟩ : ∃ m, n = m + 1 := ⟨n - 1, by omega⟩
    simp only [wf, Bool.and_eq_true] at hf
    simp only [dep] at hn hl
    obtain ⟨m', rfl⟩ : ∃ m', m = m' + 1 := ⟨m - 1, by omega⟩
    have e1 := ih1 v (m' + 1) S h kvs a (by omega) hf.1 hb hi hd e (by omega)
    have e2 := ih2 v (m' + 1) S h kvs a (by omega) hf.2 hb hi hd e (by omega)
    have lc := lc_map (walks_sq [enc f, enc g] S) (g := gNm 6) (f := fCall (chk 3 (F (m' + 1) .word_truth)) (aCons (fVar 0) (aCons (fVar 6) (aCons (fVar 2) aNil)))) (vs := [6]) (ρ := wipeD [Option.some (wD W), Option.some (enc (.imp f g)), Option.some (.ref h), Option.some (.str ks_3), none, none, none] [6]) (y := fun d => valD (F (m' + 1) .word_truth [wD W, d, .ref h] S)) (by simp [LINE]) fun d hd' => by
      refine ⟨[(6, d)], rfl, by simp, ?_⟩
      simp only [List.mem_cons, List.not_mem_nil, or_false] at hd'
      rcases hd' with rfl | rfl
      · simp [e1, valD]
      · simp [e2, valD]
    have l1 := lc
    simp only [List.map_cons, List.map_nil, e1, e2, valD] at l1
    have j := joined2 m' ks_3 (.inr (.inr rfl)) (get_end1 S (.lst [.bl (wt W f a), .bl (wt W g a)]))
    rw [F_word_truth]
    refine scopeD_app (T := [.lst [.bl (wt W f a), .bl (wt W g a)]]) ?_ rfl
    simp only [defD_eq, b_word_truth]
    simp only [enc] at l1 ⊢
    simp only [r_wipe0, r_wipe1, List.set_cons_succ, List.set_cons_zero] at l1
    simp [idx0, eqS, in87 _ (show ks_3 ∈ heads by simp [heads]), inTu _ (show ks_3 ∈ heads by simp [heads]), LINE, sl3, l1, j, wt]
  | some x f ih =>
    intro v n S h kvs a hn hf hb hi hd e hl
    obtain ⟨m, rfl⟩ : ∃ m, n = m + 1 := ⟨n - 1, by omega⟩
    simp only [wf, Bool.and_eq_true] at hf
    simp only [dep] at hn hl
    obtain ⟨m', rfl⟩ : ∃ m', m = m' + 1 := ⟨m - 1, by omega⟩
    have hh : h < S.length := (List.getElem?_eq_some_iff.mp e).1
    have lc := lc_rng (n := W.length) (S0 := S) (g := gNm 5) (f := fCall (chk 3 (F (m' + 1) .word_truth)) (aCons (fVar 0) (aCons (fBin idxD (fVar 1) (fC (.int 2))) (aCons (fCall (chk 3 (F (m' + 1) .with_place)) (aCons (fVar 2) (aCons (fBin idxD (fVar 1) (fC (.int 1))) (aCons (fVar 5) aNil)))) aNil)))) (vs := [5]) (ρ := wipeD [Option.some (wD W), Option.some (enc (.some x f)), Option.some (.ref h), Option.some (.str ks_9), none, none, none] [5]) (y := fun p => .bl (wt W f (upA a x p))) (by simp only [LINE]; omega) fun i hi' T => by
      have e' : (S ++ T)[h]? = Option.some (.dK kvs) := by rw [List.getElem?_append_left hh]; exact e
      have w1 := with_place_ok m' (x := x) (d := .int (i : Int)) e' (by simp only [LINE]; omega)
      have lp := put_length kvs (.inr x) (.int (i : Int))
      have w2 := ih (x :: v) (m' + 1) (S ++ T ++ [.dK (putD kvs (.inr x) (.int (i : Int)))]) (S ++ T).length (putD kvs (.inr x) (.int (i : Int))) (upA a x i) (by omega) hf.2 (hb.up x i) (hi.up x hi') (hd.up x i) (by simp) (by omega)
      refine ⟨[(5, .int (i : Int))], [.dK (putD kvs (.inr x) (.int (i : Int)))], rfl, by simp, ?_⟩
      simp only [List.append_assoc] at w1 w2 ⊢
      simp only [List.length_append] at w1 w2
      simp [enc, idx1, idx2, w1, w2]
    obtain ⟨T, l1⟩ := lc
    have aa := any_at (S := S ++ T ++ [.lst ((List.range W.length).map fun p => .bl (wt W f (upA a x p)))]) (h := (S ++ T).length) (bs := (List.range W.length).map fun p => wt W f (upA a x p)) (by simp [Function.comp_def])
    rw [F_word_truth]
    refine scopeD_app (T := T ++ [.lst ((List.range W.length).map fun p => .bl (wt W f (upA a x p)))]) ?_ rfl
    simp only [defD_eq, b_word_truth]
    simp only [enc] at l1 ⊢
    simp only [r_wipe0, r_wipe1, List.set_cons_succ, List.set_cons_zero] at l1
    simp only [List.append_assoc, List.length_append] at aa
    simp [idx0, eqS, in87 _ (show ks_9 ∈ heads by simp [heads]), inTu _ (show ks_9 ∈ heads by simp [heads]), LINE, lenW, rngW W.length (by omega), l1, aa, wt]
  | every x f ih =>
    intro v n S h kvs a hn hf hb hi hd e hl
    obtain ⟨m, rfl⟩ : ∃ m, n = m + 1 := ⟨n - 1, by omega⟩
    simp only [wf, Bool.and_eq_true] at hf
    simp only [dep] at hn hl
    obtain ⟨m', rfl⟩ : ∃ m', m = m' + 1 := ⟨m - 1, by omega⟩
    have hh : h < S.length := (List.getElem?_eq_some_iff.mp e).1
    have lc := lc_rng (n := W.length) (S0 := S) (g := gNm 5) (f := fCall (chk 3 (F (m' + 1) .word_truth)) (aCons (fVar 0) (aCons (fBin idxD (fVar 1) (fC (.int 2))) (aCons (fCall (chk 3 (F (m' + 1) .with_place)) (aCons (fVar 2) (aCons (fBin idxD (fVar 1) (fC (.int 1))) (aCons (fVar 5) aNil)))) aNil)))) (vs := [5]) (ρ := wipeD [Option.some (wD W), Option.some (enc (.every x f)), Option.some (.ref h), Option.some (.str ks_13), none, none, none] [5]) (y := fun p => .bl (wt W f (upA a x p))) (by simp only [LINE]; omega) fun i hi' T => by
      have e' : (S ++ T)[h]? = Option.some (.dK kvs) := by rw [List.getElem?_append_left hh]; exact e
      have w1 := with_place_ok m' (x := x) (d := .int (i : Int)) e' (by simp only [LINE]; omega)
      have lp := put_length kvs (.inr x) (.int (i : Int))
      have w2 := ih (x :: v) (m' + 1) (S ++ T ++ [.dK (putD kvs (.inr x) (.int (i : Int)))]) (S ++ T).length (putD kvs (.inr x) (.int (i : Int))) (upA a x i) (by omega) hf.2 (hb.up x i) (hi.up x hi') (hd.up x i) (by simp) (by omega)
      refine ⟨[(5, .int (i : Int))], [.dK (putD kvs (.inr x) (.int (i : Int)))], rfl, by simp, ?_⟩
      simp only [List.append_assoc] at w1 w2 ⊢
      simp only [List.length_append] at w1 w2
      simp [enc, idx1, idx2, w1, w2]
    obtain ⟨T, l1⟩ := lc
    have aa := all_at (S := S ++ T ++ [.lst ((List.range W.length).map fun p => .bl (wt W f (upA a x p)))]) (h := (S ++ T).length) (bs := (List.range W.length).map fun p => wt W f (upA a x p)) (by simp [Function.comp_def])
    rw [F_word_truth]
    refine scopeD_app (T := T ++ [.lst ((List.range W.length).map fun p => .bl (wt W f (upA a x p)))]) ?_ rfl
    simp only [defD_eq, b_word_truth]
    simp only [enc] at l1 ⊢
    simp only [r_wipe0, r_wipe1, List.set_cons_succ, List.set_cons_zero] at l1
    simp only [List.append_assoc, List.length_append] at aa
    simp [idx0, eqS, in87 _ (show ks_13 ∈ heads by simp [heads]), inTu _ (show ks_13 ∈ heads by simp [heads]), LINE, lenW, rngW W.length (by omega), l1, aa, wt]
end K39

set_option Elab.async false
set_option linter.all false
set_option maxRecDepth 100000
set_option maxHeartbeats 4000000
/-! K39p: points: place_of, freed -/
namespace K39
open PySem PySem.Spec L2 DL
open PyProof.Rows hiding St
abbrev Pt := Bool × List Str
def ptD (p : Pt) : D := .tup [cD p.1, .tup (p.2.map D.str)]
def POk (pts : List Pt) : Prop := ∀ p ∈ pts, ∀ x ∈ p.2, PyData.strOk x = true
def isS (x : Str) : D → Bool
  | .str y => decide (y = x)
  | _ => false
def keepP (x : Str) : D → Bool
  | .tup [_, .tup [_, .tup ns]] => ns.any (isS x)
  | _ => false
def yP : D → D
  | .tup (i :: _) => i
  | _ => .non
theorem any_isS (x : Str) (ns : List Str) : (ns.map D.str).any (isS x) = decide (x ∈ ns) := by
  rw [Bool.eq_iff_iff, List.any_eq_true, decide_eq_true_iff]
  constructor
  · rintro ⟨d, hd, e⟩
    obtain ⟨y, hy, rfl⟩ := List.mem_map.mp hd
    simp only [isS, decide_eq_true_eq] at e
    exact e ▸ hy
  · intro h
    exact ⟨.str x, List.mem_map_of_mem h, by simp [isS]⟩
theorem inNames {x : Str} {ns : List Str} (hx : PyData.strOk x = true) (hn : ∀ y ∈ ns, PyData.strOk y = true) (S : Sto) : inD (.str x) (.tup (ns.map D.str)) S = Option.some (.bl (decide (x ∈ ns)), S) := by
  refine inD_of (inB_tupb (n := 0) (by exact hx) (fun y hy => ?_) (by decide) ?_)
  · obtain ⟨z, hz, rfl⟩ := List.mem_map.mp hy
    exact hn z hz
  · rw [decide_eq_true_iff, List.mem_map]
    exact ⟨fun h => ⟨x, h, rfl⟩, fun ⟨z, h, e⟩ => by cases e; exact h⟩
theorem first_at (x : Str) : ∀ (pts : List Pt) (o i : Nat), pts.findIdx? (fun p => decide (x ∈ p.2)) = Option.some i → ∃ r, ((((pts.map ptD).mapIdx fun j d => D.tup [.int ((j + o : Nat) : Int), d]).filter (keepP x)).map yP) = .int ((i + o : Nat) : Int) :: r
  | [], o, i, h => by simp at h
  | p :: pts, o, i, h => by
    rw [List.findIdx?_cons] at h
    simp only [List.map_cons, List.mapIdx_cons]
    have hk : keepP x (D.tup [.int ((0 + o : Nat) : Int), ptD p]) = decide (x ∈ p.2) := any_isS x p.2
    by_cases hp : x ∈ p.2
    · simp only [hp, decide_true, if_true, Option.some.injEq] at h
      subst h
      rw [List.filter_cons_of_pos (by rw [hk]; simp [hp])]
      exact ⟨_, rfl⟩
    · simp only [hp, decide_false, Bool.false_eq_true, if_false, Option.map_eq_some_iff] at h
      obtain ⟨i', h', rfl⟩ := h
      obtain ⟨r, e⟩ := first_at x pts (o + 1) i' h'
      rw [List.filter_cons_of_neg (by rw [hk]; simp [hp])]
      refine ⟨r, ?_⟩
      have e1 : ∀ j : Nat, j + 1 + o = j + (o + 1) := fun j => by omega
      have e2 : i' + 1 + o = i' + (o + 1) := by omega
      rw [e2]
      simp only [e1]
      exact e
theorem F_place_of (k : Nat) : F (k + 1) .place_of = scopeD (defD 5 (b_place_of (F k))) := rfl
theorem F_freed (k : Nat) : F (k + 1) .freed = defD 5 (b_freed (F k)) := rfl
theorem place_of_ok (k : Nat) {S : Sto} {h : Nat} {pts : List Pt} {x : Str} {i : Nat} (e : S[h]? = Option.some (.lst (pts.map ptD))) (hl : pts.length ≤ 1000) (ok : POk pts) (hx : PyData.strOk x = true) (hi : pts.findIdx? (fun p => decide (x ∈ p.2)) = Option.some i) :
    F (k + 1) .place_of [.ref h, .str x] S = Option.some (.int (i : Int), S) := by
  obtain ⟨T, l1⟩ := lc_all (walks_enu e) (g := gUn 2 (gsCons (gNm 2) (gsCons (gUn 2 (gsCons (gNm 3) (gsCons (gNm 4) gsNil))) gsNil))) (t := fBl (fBin inD (fVar 1) (fVar 4))) (f := fVar 2) (vs := [2, 3, 4]) (ρ := wipeD [Option.some (.ref h), Option.some (.str x), none, none, none] [2, 3, 4]) (keep := keepP x) (y := yP) (by simp [enumD, LINE]; omega) fun d hd T => by
    obtain ⟨j, hj⟩ := List.mem_iff_getElem?.mp hd
    rw [enumD_get] at hj
    cases hq : (pts.map ptD)[j]? with
    | none => rw [hq] at hj; cases hj
    | some q =>
      rw [hq] at hj
      cases hj
      rw [List.getElem?_map] at hq
      obtain ⟨p, hp, rfl⟩ := Option.map_eq_some_iff.mp hq
      have inn := inNames hx (ok p (List.mem_of_getElem? hp))
      have hk : keepP x (D.tup [.int (j : Int), ptD p]) = decide (x ∈ p.2) := any_isS x p.2
      refine ⟨[(2, .int (j : Int)), (3, cD p.1), (4, .tup (p.2.map D.str))], [], ?_, by simp, ?_, fun _ => ?_⟩
      · simp [ptD]
      · rw [hk]; simp [inn]
      · simp [yP]
  obtain ⟨r, er⟩ := first_at x pts 0 i hi
  have er' : ((enumD (pts.map ptD)).filter (keepP x)).map yP = .int (i : Int) :: r := er
  rw [er'] at l1
  have ix := idxL (S := S ++ T ++ [.lst (.int (i : Int) :: r)]) (h := (S ++ T).length) (i := 0) (by simp) (show (D.int (i : Int) :: r)[0]? = Option.some (.int (i : Int)) from rfl)
  rw [F_place_of]
  refine scopeD_app (T := T ++ [.lst (.int (i : Int) :: r)]) ?_ rfl
  simp only [defD_eq, b_place_of]
  simp only [r_wipe0, r_wipe1, List.set_cons_succ, List.set_cons_zero, List.length_map] at l1
  simp only [List.append_assoc, List.length_append] at ix
  have en := enu_ref e
  rw [List.length_map] at en
  have ix' : idxD (.ref (S.length + T.length)) (.int 0) (S ++ (T ++ [.lst (.int (i : Int) :: r)])) = Option.some (.int (i : Int), S ++ (T ++ [.lst (.int (i : Int) :: r)])) := ix
  simp [en, l1, ix']
def rmP (x : Str) (p : Pt) : Pt := (p.1, p.2.filter fun y => decide (y ≠ x))
def yF (x : Str) : D → D
  | .tup [c, .tup ns] => .tup [c, .tup (ns.filter fun d => !isS x d)]
  | d => d
theorem yF_pt (x : Str) (p : Pt) : yF x (ptD p) = ptD (rmP x p) := by
  simp only [yF, ptD, rmP, List.filter_map]
  congr 4
  congr 1
  apply List.filter_congr
  intro y _
  simp [isS]
theorem neS (S : Sto) (x y : Str) : neD (.str x) (.str y) S = Option.some (.bl (!decide (x = y)), S) := rfl
theorem freed_ok (k : Nat) {S : Sto} {h : Nat} {pts : List Pt} {x : Str} (e : S[h]? = Option.some (.lst (pts.map ptD))) (hl : pts.length ≤ 1000) (hn : ∀ p ∈ pts, p.2.length ≤ 1000) :
    ∃ T, F (k + 1) .freed [.ref h, .str x] S = Option.some (.ref (S ++ T).length, S ++ T ++ [.lst ((pts.map (rmP x)).map ptD)]) := by
  obtain ⟨T, l1⟩ := lc_all (walks_lst e) (g := gUn 2 (gsCons (gNm 2) (gsCons (gNm 3) gsNil))) (t := tYesD) (f := fCall tupD (aCons (fVar 2) (aCons (fCall tupleD (aCons (fLc (fSeq (fVar 3)) (gNm 4) (fBl (fBin neD (fVar 4) (fVar 1))) (fVar 4) [4]) aNil)) aNil))) (vs := [2, 3]) (ρ := wipeD [Option.some (.ref h), Option.some (.str x), none, none, none] [2, 3]) (keep := fun _ => true) (y := yF x) (by simp [LINE]; omega) fun d hd T => by
    obtain ⟨p, hp, rfl⟩ := List.mem_map.mp hd
    have l2 := lc_pure (walks_sq (p.2.map D.str) (S ++ T)) (g := gNm 4) (t := fBl (fBin neD (fVar 4) (fVar 1))) (f := fVar 4) (vs := [4]) (ρ := [Option.some (.ref h), Option.some (.str x), Option.some (cD p.1), Option.some (.tup (p.2.map D.str)), none]) (keep := fun d => !isS x d) (y := fun d => d) (by
        have := hn p hp
        simp [LINE]; omega) fun d hd' => by
      obtain ⟨y, _, rfl⟩ := List.mem_map.mp hd'
      exact ⟨[(4, .str y)], rfl, by simp, by simp [neS, isS], fun _ => by simp⟩
    rw [List.map_id'] at l2
    refine ⟨[(2, cD p.1), (3, .tup (p.2.map D.str))], [.lst ((p.2.map D.str).filter fun d => !isS x d)], by simp [ptD], by simp, rfl, fun _ => ?_⟩
    have tu : tupleD [.ref (S ++ T).length] (S ++ T ++ [.lst ((p.2.map D.str).filter fun d => !isS x d)]) = Option.some (.tup ((p.2.map D.str).filter fun d => !isS x d), S ++ T ++ [.lst ((p.2.map D.str).filter fun d => !isS x d)]) := by
      simp only [tupleD, itemsD, get_end1]
    simp only [List.append_assoc, List.length_append] at tu
    simp [l2, tu, LINE, yF, ptD]
  have ey : ((pts.map ptD).filter fun _ => true).map (yF x) = (pts.map (rmP x)).map ptD := by
    rw [List.filter_eq_self.mpr fun _ _ => rfl, List.map_map, List.map_map]
    apply List.map_congr_left
    intro p _
    exact yF_pt x p
  rw [ey] at l1
  refine ⟨T, ?_⟩
  rw [F_freed]
  have sq : seqS (.ref h) S = Option.some (lstSrc h (pts.map ptD).length, S) := by simp only [seqS, e]
  rw [List.length_map] at sq
  simp only [r_wipe0, r_wipe1, List.set_cons_succ, List.set_cons_zero, List.length_map] at l1
  simp only [defD_eq, b_freed]
  simp [sq, l1]
end K39

set_option Elab.async false
set_option linter.all false
set_option maxRecDepth 100000
set_option maxHeartbeats 4000000
/-! K39q: choices -/
namespace K39
open PySem PySem.Spec L2 DL
open PyProof.Rows hiding St
abbrev Rw := D × Bool × D
def rwD (r : Rw) : D := .tup [r.1, cD r.2.1, r.2.2]
def pcD (R : List Rw) : D := .tup (R.map rwD)
abbrev Ch := List D × List Pt
/-- the item d of found, at h5, is that choice -/
def Hd (h5 : Nat) (S : Sto) (d : D) (c : Ch) : Prop := ∃ a b, d = .tup [.ref a, .ref b] ∧ a ≠ h5 ∧ b ≠ h5 ∧ S[a]? = Option.some (.lst c.1) ∧ S[b]? = Option.some (.lst (c.2.map ptD))
inductive Hds (h5 : Nat) (S : Sto) : List D → List Ch → Prop where
  | nil : Hds h5 S [] []
  | cons {d c ds cs} : Hd h5 S d c → Hds h5 S ds cs → Hds h5 S (d :: ds) (c :: cs)
theorem Hds.mono {h5 : Nat} {S S' : Sto} {ds : List D} {cs : List Ch} (h : Hds h5 S ds cs) (k : ∀ (i : Nat) o, i ≠ h5 → S[i]? = Option.some o → S'[i]? = Option.some o) : Hds h5 S' ds cs := by
  induction h with
  | nil => exact .nil
  | cons q _ ih =>
    obtain ⟨a, b, e, ha, hb, h1, h2⟩ := q
    exact .cons ⟨a, b, e, ha, hb, k a _ ha h1, k b _ hb h2⟩ ih
theorem Hds.length {h5 : Nat} {S : Sto} {ds : List D} {cs : List Ch} (h : Hds h5 S ds cs) : ds.length = cs.length := by
  induction h with
  | nil => rfl
  | cons _ _ ih => simp [ih]
theorem Hds.snoc {h5 : Nat} {S : Sto} {ds : List D} {cs : List Ch} {d : D} {c : Ch} (h : Hds h5 S ds cs) (q : Hd h5 S d c) : Hds h5 S (ds ++ [d]) (cs ++ [c]) := by
  induction h with
  | nil => exact .cons q .nil
  | cons a _ ih => exact .cons a ih
/-- x + [..] + z, all of them lists -/
theorem add3 {f1 f2 f3 : DL.Env → M D} {ρ : DL.Env} {S : Sto} {A B C : List D} (e1 : f1 ρ S = Option.some (.ref S.length, S ++ [.lst A])) (e2 : f2 ρ (S ++ [.lst A]) = Option.some (.ref (S.length + 1), S ++ [.lst A, .lst B]))
    (e3 : f3 ρ (S ++ [.lst A, .lst B, .lst (A ++ B)]) = Option.some (.ref (S.length + 3), S ++ [.lst A, .lst B, .lst (A ++ B), .lst C])) (hl : A.length + B.length + C.length ≤ LINE) :
    fBin addD (fBin addD f1 f2) f3 ρ S = Option.some (.ref (S.length + 4), S ++ [.lst A, .lst B, .lst (A ++ B), .lst C, .lst (A ++ B ++ C)]) := by
  have a1 : addD (.ref S.length) (.ref (S.length + 1)) (S ++ [.lst A, .lst B]) = Option.some (.ref (S.length + 2), S ++ [.lst A, .lst B, .lst (A ++ B)]) := by
    have g1 : (S ++ [Ob.lst A, .lst B])[S.length]? = Option.some (.lst A) := by simp
    have g2 : (S ++ [Ob.lst A, .lst B])[S.length + 1]? = Option.some (.lst B) := by
      rw [List.getElem?_append_right (by omega)]; simp
    simp only [addD, g1, g2]
    rw [if_pos (by omega)]
    simp
  have a2 : addD (.ref (S.length + 2)) (.ref (S.length + 3)) (S ++ [.lst A, .lst B, .lst (A ++ B), .lst C]) = Option.some (.ref (S.length + 4), S ++ [.lst A, .lst B, .lst (A ++ B), .lst C, .lst (A ++ B ++ C)]) := by
    have g1 : (S ++ [Ob.lst A, .lst B, .lst (A ++ B), .lst C])[S.length + 2]? = Option.some (.lst (A ++ B)) := by
      rw [List.getElem?_append_right (by omega)]; simp
    have g2 : (S ++ [Ob.lst A, .lst B, .lst (A ++ B), .lst C])[S.length + 3]? = Option.some (.lst C) := by
      rw [List.getElem?_append_right (by omega)]; simp
    simp only [addD, g1, g2]
    rw [if_pos (by simp; omega)]
    simp
  simp only [r_bin, e1, Option.bind_some, e2, a1, e3, a2]
theorem sl_to {f : DL.Env → M D} {ρ : DL.Env} {S : Sto} {p h i : Nat} {xs : List D} (v : ρ[p]? = Option.some (Option.some (.ref h))) (o : oSome f ρ S = Option.some (Option.some (i : Int), S)) (e : S[h]? = Option.some (.lst xs)) (hi : i ≤ xs.length) :
    fSl (fVar p) oNone (oSome f) ρ S = Option.some (.ref S.length, S ++ [.lst (xs.take i)]) := by
  simp only [r_sl, r_var, v, Option.bind_some, Option.map_some, id, r_oNone, o, slD, e, cut_to hi]
theorem sl_from {f : DL.Env → M D} {ρ : DL.Env} {S : Sto} {p h i : Nat} {xs : List D} (v : ρ[p]? = Option.some (Option.some (.ref h))) (o : oSome f ρ S = Option.some (Option.some (i : Int), S)) (e : S[h]? = Option.some (.lst xs)) (hi : i ≤ xs.length) :
    fSl (fVar p) (oSome f) oNone ρ S = Option.some (.ref S.length, S ++ [.lst (xs.drop i)]) := by
  simp only [r_sl, r_var, v, Option.bind_some, Option.map_some, id, r_oNone, o, slD, e, cut_from hi]
def ch1 (x : Str) (ls : List D) (pts : List Pt) (i : Nat) : Ch := (ls, pts.take i ++ [((pts.getD i (false, [])).1, (pts.getD i (false, [])).2 ++ [x])] ++ pts.drop (i + 1))
def ch2 (x : Str) (ls : List D) (pts : List Pt) (i : Nat) (r : Rw) : Ch := (ls.take i ++ [r.1, r.2.2] ++ ls.drop (i + 1), pts.take i ++ [(r.2.1, [x])] ++ pts.drop i)
/-- the store while found grows: B is what stood before it -/
structure Gr (B : Sto) (h3 h4 hp : Nat) (pts : List Pt) (ls ps : List D) (S : Sto) (cs : List Ch) : Prop where
  ex : ∃ items T, S = B ++ .lst items :: T ∧ Hds B.length S items cs
  g3 : B[h3]? = Option.some (.lst (pts.map ptD))
  g4 : B[h4]? = Option.some (.lst ls)
  gp : B[hp]? = Option.some (.lst ps)
theorem Gr.at_ {B : Sto} {h3 h4 hp : Nat} {pts : List Pt} {ls ps : List D} {S : Sto} {cs : List Ch} (G : Gr B h3 h4 hp pts ls ps S cs) {h : Nat} {o : Ob} (e : B[h]? = Option.some o) (T : Sto) : (S ++ T)[h]? = Option.some o := by
  obtain ⟨items, T', rfl, _⟩ := G.ex
  have hl : h < B.length := (List.getElem?_eq_some_iff.mp e).1
  rw [List.getElem?_append_left (by simp; omega), List.getElem?_append_left hl]
  exact e
/-- one more choice -/
theorem Gr.add {B : Sto} {h3 h4 hp : Nat} {pts : List Pt} {ls ps : List D} {S : Sto} {cs : List Ch} (G : Gr B h3 h4 hp pts ls ps S cs) (T : Sto) {a b : Nat} {c : Ch} (ha : a ≠ B.length) (hb : b ≠ B.length) (h1 : (S ++ T)[a]? = Option.some (.lst c.1)) (h2 : (S ++ T)[b]? = Option.some (.lst (c.2.map ptD))) (hl : cs.length < LINE) :
    ∃ S', isLst (.ref B.length) S = Option.some (.ref B.length, S) ∧ appD (.ref B.length) (.tup [.ref a, .ref b]) (S ++ T) = Option.some (.non, S') ∧ Gr B h3 h4 hp pts ls ps S' (cs ++ [c]) := by
  obtain ⟨items, T', rfl, hh⟩ := G.ex
  have hlen : items.length = cs.length := hh.length
  have g1 : (B ++ Ob.lst items :: T')[B.length]? = Option.some (.lst items) := by simp
  have g2 : (B ++ Ob.lst items :: T' ++ T)[B.length]? = Option.some (.lst items) := by simp
  have k : ∀ (i : Nat) o, i ≠ B.length → (B ++ Ob.lst items :: T' ++ T)[i]? = Option.some o → (B ++ Ob.lst (items ++ [.tup [.ref a, .ref b]]) :: (T' ++ T))[i]? = Option.some o := by
    intro i o hi e
    rw [List.append_assoc] at e
    by_cases hlt : i < B.length
    · rw [List.getElem?_append_left hlt] at e ⊢; exact e
    · rw [List.getElem?_append_right (by omega)] at e ⊢
      obtain ⟨j, hj⟩ : ∃ j, i - B.length = j + 1 := ⟨i - B.length - 1, by omega⟩
      rw [hj] at e ⊢
      simpa using e
  refine ⟨B ++ .lst (items ++ [.tup [.ref a, .ref b]]) :: (T' ++ T), isLst_at g1, ?_, ⟨⟨_, _, rfl, ?_⟩, G.g3, G.g4, G.gp⟩⟩
  · rw [app_at _ g2 (by omega)]
    simp
  · refine Hds.snoc (hh.mono fun i o hi e => k i o hi ?_) ⟨a, b, rfl, ha, hb, k a _ ha h1, k b _ hb h2⟩
    rw [List.getElem?_append_left (List.getElem?_eq_some_iff.mp e).1]
    exact e
section
variable {B : Sto} {h3 h4 hp : Nat} {pts : List Pt} {ls ps : List D} {x : Str}
/-- the places of old points -/
theorem loopA (S : Sto) (G : Gr B h3 h4 hp pts ls ps S []) (hl : pts.length ≤ 1000) (hn : ∀ p ∈ pts, p.2.length ≤ 1000) (R hq : D) (y6 y7 y8 y9 y10 y11 y12 : Option D) :
    ∃ ρ' S', forD (enuSrc h3 pts.length) (gUn 2 (gsCons (gNm 6) (gsCons (gUn 2 (gsCons (gNm 7) (gsCons (gNm 8) gsNil))) gsNil)))
      (sDrop (fApp (fVar 5) (fCall tupD (aCons (fVar 4) (aCons (fBin addD (fBin addD (fSl (fVar 3) oNone (oSome (fVar 6))) (fCall lstD (aCons (fCall tupD (aCons (fVar 7) (aCons (fBin addD (fVar 8) (fCall tupD (aCons (fVar 0) aNil))) aNil))) aNil))) (fSl (fVar 3) (oSome (fBin addD (fVar 6) (fC (.int 1)))) oNone)) aNil)))))
      (enuSrc h3 pts.length).n 0 [Option.some (.str x), Option.some R, Option.some hq, Option.some (.ref h3), Option.some (.ref h4), Option.some (.ref B.length), y6, y7, y8, y9, y10, y11, y12] S = Option.some (.nx, ρ', S') ∧
      ∃ z6 z7 z8 z9 z10 z11 z12, ρ' = [Option.some (.str x), Option.some R, Option.some hq, Option.some (.ref h3), Option.some (.ref h4), Option.some (.ref B.length), z6, z7, z8, z9, z10, z11, z12] ∧ Gr B h3 h4 hp pts ls ps S' ((List.range (enuSrc h3 pts.length).n).map (ch1 x ls pts)) := by
  refine for_inv (fun i ρ S' => ∃ z6 z7 z8 z9 z10 z11 z12, ρ = [Option.some (.str x), Option.some R, Option.some hq, Option.some (.ref h3), Option.some (.ref h4), Option.some (.ref B.length), z6, z7, z8, z9, z10, z11, z12] ∧ Gr B h3 h4 hp pts ls ps S' ((List.range i).map (ch1 x ls pts))) ?_ ?_ ⟨y6, y7, y8, y9, y10, y11, y12, rfl, G⟩
  rotate_left
  · rintro ρ S' ⟨z6, z7, z8, z9, z10, z11, z12, rfl, G'⟩
    have := G'.at_ G'.g3 []
    rw [List.append_nil] at this
    simp [enuSrc, lstSrc, this]
  rintro i ρ S' hi ⟨z6, z7, z8, z9, z10, z11, z12, rfl, G'⟩
  have hi' : i < pts.length := hi
  have e3 := G'.at_ G'.g3 []
  rw [List.append_nil] at e3
  have hB : B.length < S'.length := by obtain ⟨it, T, rfl, _⟩ := G'.ex; simp
  have h4B : h4 < B.length := (List.getElem?_eq_some_iff.mp G'.g4).1
  have hpt : (pts.map ptD)[i]? = Option.some (ptD pts[i]) := by simp [hi']
  have hlen : (pts.map ptD).length = pts.length := by simp
  let nw : Pt := (pts[i].1, pts[i].2 ++ [x])
  have hc : ch1 x ls pts i = (ls, pts.take i ++ [nw] ++ pts.drop (i + 1)) := by
    simp [ch1, nw, List.getD_eq_getElem?_getD, hi']
  have ef : ((pts.map ptD).take i ++ [ptD nw] ++ (pts.map ptD).drop (i + 1)) = (pts.take i ++ [nw] ++ pts.drop (i + 1)).map ptD := by simp
  have add := fun (ρ : DL.Env) (v0 : ρ[0]? = Option.some (Option.some (.str x))) (v3 : ρ[3]? = Option.some (Option.some (.ref h3))) (v6 : ρ[6]? = Option.some (Option.some (D.int (i : Int)))) (v7 : ρ[7]? = Option.some (Option.some (cD pts[i].1))) (v8 : ρ[8]? = Option.some (Option.some (D.tup (List.map D.str (pts[i].2))))) =>
    add3 (f1 := fSl (fVar 3) oNone (oSome (fVar 6))) (f2 := fCall lstD (aCons (fCall tupD (aCons (fVar 7) (aCons (fBin addD (fVar 8) (fCall tupD (aCons (fVar 0) aNil))) aNil))) aNil)) (f3 := fSl (fVar 3) (oSome (fBin addD (fVar 6) (fC (.int 1)))) oNone) (ρ := ρ) (S := S') (A := (pts.map ptD).take i) (B := [ptD nw]) (C := (pts.map ptD).drop (i + 1))
      (sl_to v3 (r_oSome (by simp [v6])) e3 (by rw [hlen]; omega))
      (by
        have hn' := hn pts[i] (List.getElem_mem hi')
        have ad : addD (.tup (pts[i].2.map D.str)) (.tup [.str x]) (S' ++ [.lst ((pts.map ptD).take i)]) = Option.some (.tup (pts[i].2.map D.str ++ [.str x]), S' ++ [.lst ((pts.map ptD).take i)]) := by
          simp only [addD]
          rw [if_pos (by simp [LINE]; omega)]
        simp only [r_call, r_cons, r_bin, r_var, v7, v8, v0, r_nil, Option.bind_some, Option.map_some, id, r_tup, List.length_cons, List.length_nil]
        simp [LINE, ad, ptD, nw])
      (by
        have o1 : oSome (fBin addD (fVar 6) (fC (.int 1))) ρ (S' ++ [.lst ((pts.map ptD).take i), .lst [ptD nw], .lst ((pts.map ptD).take i ++ [ptD nw])]) = Option.some (Option.some ((i + 1 : Nat) : Int), S' ++ [.lst ((pts.map ptD).take i), .lst [ptD nw], .lst ((pts.map ptD).take i ++ [ptD nw])]) := r_oSome (by simp [v6, addI])
        have := sl_from v3 o1 (G'.at_ G'.g3 _) (i := i + 1) (by rw [hlen]; omega)
        exact this.trans (by simp))
      (by simp [LINE]; omega)
  obtain ⟨S'', a1, a2, G''⟩ := G'.add (c := ch1 x ls pts i) [.lst ((pts.map ptD).take i), .lst [ptD nw], .lst ((pts.map ptD).take i ++ [ptD nw]), .lst ((pts.map ptD).drop (i + 1)), .lst ((pts.map ptD).take i ++ [ptD nw] ++ (pts.map ptD).drop (i + 1))] (a := h4) (b := S'.length + 4) (by omega) (by omega)
    (by rw [hc]; exact G'.at_ G'.g4 _) (by
      rw [hc, List.getElem?_append_right (by omega), ← ef]
      simp) (by simp [LINE]; omega)
  refine ⟨.tup [.int (i : Int), ptD pts[i]], [(6, .int (i : Int)), (7, cD pts[i].1), (8, .tup (pts[i].2.map D.str))], [Option.some (.str x), Option.some R, Option.some hq, Option.some (.ref h3), Option.some (.ref h4), Option.some (.ref B.length), Option.some (.int (i : Int)), Option.some (cD pts[i].1), Option.some (.tup (pts[i].2.map D.str)), z9, z10, z11, z12], S'', ?_, ?_, ?_, ⟨_, _, _, _, _, _, _, rfl, ?_⟩⟩
  · have W := walks_enu e3
    have w := W.it [] i
    rw [List.append_nil, enumD_get, hpt] at w
    rw [hlen] at w
    exact w
  · simp [ptD]
  · have ad := add [Option.some (.str x), Option.some R, Option.some hq, Option.some (.ref h3), Option.some (.ref h4), Option.some (.ref B.length), Option.some (.int (i : Int)), Option.some (cD pts[i].1), Option.some (.tup (pts[i].2.map D.str)), z9, z10, z11, z12] rfl rfl rfl rfl rfl
    simp only [r_drop, r_app, r_ups0, r_ups1, List.set_cons_succ, List.set_cons_zero]
    simp only [r_var, r_call, r_cons, ad, List.getElem?_cons_succ, List.getElem?_cons_zero, Option.bind_some, Option.map_some, id, a1, r_nil, r_tup]
    simp [LINE]
    exact ⟨.non, by simpa using a2⟩
  · rw [List.range_succ, List.map_append]
    exact G''
end
end K39

set_option Elab.async false
set_option linter.all false
set_option maxRecDepth 100000
set_option maxHeartbeats 4000000
/-! K39r: choices: the places inside of pieces -/
namespace K39
open PySem PySem.Spec L2 DL
open PyProof.Rows hiding St
theorem Gr.more {B : Sto} {h3 h4 hp : Nat} {pts : List Pt} {ls ps : List D} {S : Sto} {cs : List Ch} (G : Gr B h3 h4 hp pts ls ps S cs) (T : Sto) : Gr B h3 h4 hp pts ls ps (S ++ T) cs := by
  obtain ⟨items, T', rfl, hh⟩ := G.ex
  refine ⟨⟨items, T' ++ T, by simp, hh.mono fun i o hi e => ?_⟩, G.g3, G.g4, G.gp⟩
  rw [List.getElem?_append_left (List.getElem?_eq_some_iff.mp e).1]
  exact e
section
variable {B : Sto} {h3 h4 hp : Nat} {pts : List Pt} {ls : List D} {x : Str}
theorem loopB1 {Rs : List (List Rw)} {at_ : Nat} (hat : at_ < Rs.length) (S : Sto) (cs : List Ch) (G : Gr B h3 h4 hp pts ls (Rs.map pcD) S cs) (hl : pts.length ≤ 1000) (hls : ls.length = Rs.length) (hpt : pts.length + 1 = Rs.length) (hR : ∀ R ∈ Rs, R.length ≤ 1000) (hc : cs.length ≤ 1000000) (R hq : D) (y7 y8 y10 y11 y12 : Option D) :
    ∃ ρ' S', forD (sqSrc (Rs[at_].map rwD)) (gUn 3 (gsCons (gNm 10) (gsCons (gNm 7) (gsCons (gNm 11) gsNil))))
      (sSeq (sSet 12 (fBin addD (fBin addD (fSl (fVar 4) oNone (oSome (fVar 6))) (fCall lstD (aCons (fVar 10) (aCons (fVar 11) aNil)))) (fSl (fVar 4) (oSome (fBin addD (fVar 6) (fC (.int 1)))) oNone)))
    (sDrop (fApp (fVar 5) (fCall tupD (aCons (fVar 12) (aCons (fBin addD (fBin addD (fSl (fVar 3) oNone (oSome (fVar 6))) (fCall lstD (aCons (fCall tupD (aCons (fVar 7) (aCons (fCall tupD (aCons (fVar 0) aNil)) aNil))) aNil))) (fSl (fVar 3) (oSome (fVar 6)) oNone)) aNil))))))
      (sqSrc (Rs[at_].map rwD)).n 0 [Option.some (.str x), Option.some R, Option.some hq, Option.some (.ref h3), Option.some (.ref h4), Option.some (.ref B.length), Option.some (.int (at_ : Int)), y7, y8, Option.some (pcD Rs[at_]), y10, y11, y12] S = Option.some (.nx, ρ', S') ∧
      ∃ z7 z8 z10 z11 z12, ρ' = [Option.some (.str x), Option.some R, Option.some hq, Option.some (.ref h3), Option.some (.ref h4), Option.some (.ref B.length), Option.some (.int (at_ : Int)), z7, z8, Option.some (pcD Rs[at_]), z10, z11, z12] ∧ Gr B h3 h4 hp pts ls (Rs.map pcD) S' (cs ++ (Rs[at_].take (sqSrc (Rs[at_].map rwD)).n).map (ch2 x ls pts at_)) := by
  have hRl := hR Rs[at_] (List.getElem_mem hat)
  refine for_inv (fun i ρ S' => ∃ z7 z8 z10 z11 z12, ρ = [Option.some (.str x), Option.some R, Option.some hq, Option.some (.ref h3), Option.some (.ref h4), Option.some (.ref B.length), Option.some (.int (at_ : Int)), z7, z8, Option.some (pcD Rs[at_]), z10, z11, z12] ∧ Gr B h3 h4 hp pts ls (Rs.map pcD) S' (cs ++ (Rs[at_].take i).map (ch2 x ls pts at_))) ?_ (fun _ _ _ => rfl) ⟨y7, y8, y10, y11, y12, rfl, by simpa using G⟩
  rintro i ρ S' hi ⟨z7, z8, z10, z11, z12, rfl, G'⟩
  have hi' : i < Rs[at_].length := by simpa [sqSrc] using hi
  have hB : B.length < S'.length := by obtain ⟨it, T, rfl, _⟩ := G'.ex; simp
  obtain ⟨rw_, hrw⟩ : ∃ rw_, rw_ = Rs[at_][i] := ⟨_, rfl⟩
  -- the pieces
  have ad1 := fun (ρ : DL.Env) (v4 : ρ[4]? = Option.some (Option.some (.ref h4))) (v6 : ρ[6]? = Option.some (Option.some (D.int (at_ : Int)))) (v10 : ρ[10]? = Option.some (Option.some rw_.1)) (v11 : ρ[11]? = Option.some (Option.some rw_.2.2)) =>
    add3 (f1 := fSl (fVar 4) oNone (oSome (fVar 6))) (f2 := fCall lstD (aCons (fVar 10) (aCons (fVar 11) aNil))) (f3 := fSl (fVar 4) (oSome (fBin addD (fVar 6) (fC (.int 1)))) oNone) (ρ := ρ) (S := S') (A := ls.take at_) (B := [rw_.1, rw_.2.2]) (C := ls.drop (at_ + 1))
      (by
        have e4 := G'.at_ G'.g4 []
        rw [List.append_nil] at e4
        exact sl_to v4 (r_oSome (by simp [v6])) e4 (by omega))
      (by
        simp only [r_call, r_cons, r_var, v10, v11, r_nil, Option.bind_some, Option.map_some, id]
        simp [LINE])
      (by
        have o1 : oSome (fBin addD (fVar 6) (fC (.int 1))) ρ (S' ++ [.lst (ls.take at_), .lst [rw_.1, rw_.2.2], .lst (ls.take at_ ++ [rw_.1, rw_.2.2])]) = Option.some (Option.some ((at_ + 1 : Nat) : Int), S' ++ [.lst (ls.take at_), .lst [rw_.1, rw_.2.2], .lst (ls.take at_ ++ [rw_.1, rw_.2.2])]) := r_oSome (by simp [v6, addI])
        have := sl_from v4 o1 (G'.at_ G'.g4 _) (i := at_ + 1) (by omega)
        exact this.trans (by simp))
      (by simp [LINE]; omega)
  obtain ⟨T1, hT1⟩ : ∃ T1 : Sto, T1 = [.lst (ls.take at_), .lst [rw_.1, rw_.2.2], .lst (ls.take at_ ++ [rw_.1, rw_.2.2]), .lst (ls.drop (at_ + 1)), .lst (ls.take at_ ++ [rw_.1, rw_.2.2] ++ ls.drop (at_ + 1))] := ⟨_, rfl⟩
  simp only [← hT1] at ad1
  have hT1l : T1.length = 5 := by rw [hT1]; rfl
  have G1 := G'.more T1
  let nw : Pt := (rw_.2.1, [x])
  have hlen : (pts.map ptD).length = pts.length := by simp
  have ad2 := fun (ρ : DL.Env) (v0 : ρ[0]? = Option.some (Option.some (.str x))) (v3 : ρ[3]? = Option.some (Option.some (.ref h3))) (v6 : ρ[6]? = Option.some (Option.some (D.int (at_ : Int)))) (v7 : ρ[7]? = Option.some (Option.some (cD rw_.2.1))) =>
    add3 (f1 := fSl (fVar 3) oNone (oSome (fVar 6))) (f2 := fCall lstD (aCons (fCall tupD (aCons (fVar 7) (aCons (fCall tupD (aCons (fVar 0) aNil)) aNil))) aNil)) (f3 := fSl (fVar 3) (oSome (fVar 6)) oNone) (ρ := ρ) (S := S' ++ T1) (A := (pts.map ptD).take at_) (B := [ptD nw]) (C := (pts.map ptD).drop at_)
      (by
        have e3 := G1.at_ G1.g3 []
        rw [List.append_nil] at e3
        exact sl_to v3 (r_oSome (by simp [v6])) e3 (by omega))
      (by
        simp only [r_call, r_cons, r_var, v7, v0, r_nil, Option.bind_some, Option.map_some, id]
        simp [LINE, ptD, nw]
        try omega)
      (by
        have o1 : oSome (fVar 6) ρ (S' ++ T1 ++ [.lst ((pts.map ptD).take at_), .lst [ptD nw], .lst ((pts.map ptD).take at_ ++ [ptD nw])]) = Option.some (Option.some ((at_ : Nat) : Int), S' ++ T1 ++ [.lst ((pts.map ptD).take at_), .lst [ptD nw], .lst ((pts.map ptD).take at_ ++ [ptD nw])]) := r_oSome (by simp [v6])
        have := sl_from v3 o1 (G1.at_ G1.g3 _) (i := at_) (by omega)
        exact this.trans (by simp; try omega))
      (by simp [LINE]; omega)
  obtain ⟨T2, hT2⟩ : ∃ T2 : Sto, T2 = [.lst ((pts.map ptD).take at_), .lst [ptD nw], .lst ((pts.map ptD).take at_ ++ [ptD nw]), .lst ((pts.map ptD).drop at_), .lst ((pts.map ptD).take at_ ++ [ptD nw] ++ (pts.map ptD).drop at_)] := ⟨_, rfl⟩
  simp only [← hT2] at ad2
  have ef : ((pts.map ptD).take at_ ++ [ptD nw] ++ (pts.map ptD).drop at_) = (ch2 x ls pts at_ rw_).2.map ptD := by simp [ch2, nw]
  obtain ⟨S'', a1, a2, G''⟩ := G1.add (c := ch2 x ls pts at_ rw_) T2 (a := S'.length + 4) (b := (S' ++ T1).length + 4) (by omega) (by simp; omega)
    (by
      rw [List.append_assoc, List.getElem?_append_right (by omega), hT1]
      simp [ch2]) (by
      rw [List.getElem?_append_right (by omega), ← ef, hT2]
      simp) (by simp [LINE]; omega)
  refine ⟨rwD rw_, [(10, rw_.1), (7, cD rw_.2.1), (11, rw_.2.2)], [Option.some (.str x), Option.some R, Option.some hq, Option.some (.ref h3), Option.some (.ref h4), Option.some (.ref B.length), Option.some (.int (at_ : Int)), Option.some (cD rw_.2.1), z8, Option.some (pcD Rs[at_]), Option.some rw_.1, Option.some rw_.2.2, Option.some (.ref (S'.length + 4))], S'', ?_, ?_, ?_, ⟨_, _, _, _, _, rfl, ?_⟩⟩
  · simp [sqSrc, hrw, hi']
  · simp [rwD]
  · have d1 := ad1 [Option.some (.str x), Option.some R, Option.some hq, Option.some (.ref h3), Option.some (.ref h4), Option.some (.ref B.length), Option.some (.int (at_ : Int)), Option.some (cD rw_.2.1), z8, Option.some (pcD Rs[at_]), Option.some rw_.1, Option.some rw_.2.2, z12] rfl rfl rfl rfl
    have d2 := ad2 [Option.some (.str x), Option.some R, Option.some hq, Option.some (.ref h3), Option.some (.ref h4), Option.some (.ref B.length), Option.some (.int (at_ : Int)), Option.some (cD rw_.2.1), z8, Option.some (pcD Rs[at_]), Option.some rw_.1, Option.some rw_.2.2, Option.some (.ref (S'.length + 4))] rfl rfl rfl rfl
    simp only [r_seq, r_set, r_ups0, r_ups1, List.set_cons_succ, List.set_cons_zero, d1, Option.map_some, Option.bind_some, r_go1]
    simp only [r_drop, r_app, r_var, r_call, r_cons, d2, List.getElem?_cons_succ, List.getElem?_cons_zero, Option.bind_some, Option.map_some, id, a1, r_nil, r_tup]
    simp [LINE]
    exact ⟨.non, by simpa using a2⟩
  · rw [List.take_succ_eq_append_getElem hi', List.map_append, ← List.append_assoc, ← hrw]
    exact G''
end
end K39

set_option Elab.async false
set_option linter.all false
set_option maxRecDepth 100000
set_option maxHeartbeats 4000000
/-! K39ra: choices, whole -/
namespace K39
open PySem PySem.Spec L2 DL
open PyProof.Rows hiding St
section
variable {B : Sto} {h3 h4 hp : Nat} {pts : List Pt} {ls : List D} {x : Str}
def chB (x : Str) (ls : List D) (pts : List Pt) (Rs : List (List Rw)) (i : Nat) : List Ch := (Rs.getD i []).map (ch2 x ls pts i)
theorem loopB {Rs : List (List Rw)} (S : Sto) (cs : List Ch) (G : Gr B h3 h4 hp pts ls (Rs.map pcD) S cs) (hl : pts.length ≤ 1000) (hls : ls.length = Rs.length) (hpt : pts.length + 1 = Rs.length) (hR : ∀ R ∈ Rs, R.length ≤ 900) (hc : cs.length ≤ 1000) (R hq : D) (y6 y7 y8 y9 y10 y11 y12 : Option D) (hv : hq = .ref hp) :
    ∃ ρ' S', forD (enuSrc hp (Rs.map pcD).length) (gUn 2 (gsCons (gNm 6) (gsCons (gNm 9) gsNil)))
      (sFor (fSeq (fVar 9)) (gUn 3 (gsCons (gNm 10) (gsCons (gNm 7) (gsCons (gNm 11) gsNil))))
      (sSeq (sSet 12 (fBin addD (fBin addD (fSl (fVar 4) oNone (oSome (fVar 6))) (fCall lstD (aCons (fVar 10) (aCons (fVar 11) aNil)))) (fSl (fVar 4) (oSome (fBin addD (fVar 6) (fC (.int 1)))) oNone)))
    (sDrop (fApp (fVar 5) (fCall tupD (aCons (fVar 12) (aCons (fBin addD (fBin addD (fSl (fVar 3) oNone (oSome (fVar 6))) (fCall lstD (aCons (fCall tupD (aCons (fVar 7) (aCons (fCall tupD (aCons (fVar 0) aNil)) aNil))) aNil))) (fSl (fVar 3) (oSome (fVar 6)) oNone)) aNil)))))))
      (enuSrc hp (Rs.map pcD).length).n 0 [Option.some (.str x), Option.some R, Option.some hq, Option.some (.ref h3), Option.some (.ref h4), Option.some (.ref B.length), y6, y7, y8, y9, y10, y11, y12] S = Option.some (.nx, ρ', S') ∧
      ∃ z6 z7 z8 z9 z10 z11 z12, ρ' = [Option.some (.str x), Option.some R, Option.some hq, Option.some (.ref h3), Option.some (.ref h4), Option.some (.ref B.length), z6, z7, z8, z9, z10, z11, z12] ∧ Gr B h3 h4 hp pts ls (Rs.map pcD) S' (cs ++ (List.range (enuSrc hp (Rs.map pcD).length).n).flatMap (chB x ls pts Rs)) := by
  refine for_inv (fun i ρ S' => ∃ z6 z7 z8 z9 z10 z11 z12, ρ = [Option.some (.str x), Option.some R, Option.some hq, Option.some (.ref h3), Option.some (.ref h4), Option.some (.ref B.length), z6, z7, z8, z9, z10, z11, z12] ∧ Gr B h3 h4 hp pts ls (Rs.map pcD) S' (cs ++ (List.range i).flatMap (chB x ls pts Rs))) ?_ ?_ ⟨y6, y7, y8, y9, y10, y11, y12, rfl, by simpa using G⟩
  rotate_left
  · rintro ρ S' ⟨z6, z7, z8, z9, z10, z11, z12, rfl, G'⟩
    have := G'.at_ G'.gp []
    rw [List.append_nil] at this
    simp [enuSrc, lstSrc, this]
  rintro i ρ S' hi ⟨z6, z7, z8, z9, z10, z11, z12, rfl, G'⟩
  have hi' : i < Rs.length := by simpa [enuSrc, lstSrc] using hi
  have ep := G'.at_ G'.gp []
  rw [List.append_nil] at ep
  have hcl : (cs ++ (List.range i).flatMap (chB x ls pts Rs)).length ≤ 1000000 := by
    have : ∀ i, i ≤ Rs.length → ((List.range i).flatMap (chB x ls pts Rs)).length ≤ i * 900 := by
      intro i
      induction i with
      | zero => simp
      | succ i ih =>
        intro hi
        have := ih (by omega)
        have e : (chB x ls pts Rs i).length ≤ 900 := by
          have h1 : i < Rs.length := by omega
          simp only [chB, List.length_map, List.getD_eq_getElem?_getD, List.getElem?_eq_getElem h1, Option.getD_some]
          exact hR _ (List.getElem_mem h1)
        rw [List.range_succ, List.flatMap_append, List.length_append]
        simp only [List.flatMap_cons, List.flatMap_nil, List.append_nil]
        omega
    have := this i (by omega)
    simp only [List.length_append]
    omega
  obtain ⟨ρ'', S'', f1, w7, w8, w10, w11, w12, rfl, G''⟩ := loopB1 (h3 := h3) (h4 := h4) (x := x) hi' S' _ G' hl hls hpt (fun R hR' => by have := hR R hR'; omega) hcl R hq z7 z8 z10 z11 z12
  have e9 : (Rs[i].take (sqSrc (Rs[i].map rwD)).n).map (ch2 x ls pts i) = chB x ls pts Rs i := by
    simp only [chB, List.getD_eq_getElem?_getD, List.getElem?_eq_getElem hi', Option.getD_some, sqSrc, List.length_map, List.take_length]
  rw [e9] at G''
  refine ⟨.tup [.int (i : Int), pcD Rs[i]], [(6, .int (i : Int)), (9, pcD Rs[i])], [Option.some (.str x), Option.some R, Option.some hq, Option.some (.ref h3), Option.some (.ref h4), Option.some (.ref B.length), Option.some (.int (i : Int)), w7, w8, Option.some (pcD Rs[i]), w10, w11, w12], S'', ?_, ?_, ?_, ⟨_, _, _, _, _, _, _, rfl, ?_⟩⟩
  rotate_right
  · rw [List.range_succ, List.flatMap_append]
    simp only [List.flatMap_cons, List.flatMap_nil, List.append_nil]
    rw [← List.append_assoc]
    exact G''
  · have W := walks_enu ep
    have w := W.it [] i
    rw [List.append_nil, enumD_get, List.getElem?_map, List.getElem?_eq_getElem hi'] at w
    exact w
  · simp
  · simp only [r_ups0, r_ups1, List.set_cons_succ, List.set_cons_zero]
    have sq : ∀ S : Sto, seqS (pcD Rs[i]) S = Option.some (sqSrc (Rs[i].map rwD), S) := fun S => rfl
    simp [sq, f1]
end
theorem F_choices (k : Nat) : F (k + 1) .choices = defD 13 (b_choices (F k)) := rfl
def chs (x : Str) (ls : List D) (pts : List Pt) (Rs : List (List Rw)) : List Ch := (List.range pts.length).map (ch1 x ls pts) ++ (List.range Rs.length).flatMap (chB x ls pts Rs)
theorem choices_ok (k : Nat) {S : Sto} {hp hq : Nat} {pts : List Pt} {Rs : List (List Rw)} {x : Str} {r : D} {y : D → D} (ep : S[hp]? = Option.some (.lst (Rs.map pcD))) (eq : S[hq]? = Option.some (.lst (pts.map ptD))) (hl : pts.length ≤ 900) (hn : ∀ p ∈ pts, p.2.length ≤ 1000) (hpt : pts.length + 1 = Rs.length) (hR : ∀ R ∈ Rs, R.length ≤ 900)
    (hy : ∀ R ∈ Rs, ∀ S, F (k + 1) .lessened [pcD R, r] S = Option.some (y (pcD R), S)) :
    ∃ h' T items, F (k + 2) .choices [.str x, r, .ref hp, .ref hq] S = Option.some (.ref h', S ++ T) ∧ (S ++ T)[h']? = Option.some (.lst items) ∧ Hds h' (S ++ T) items (chs x ((Rs.map pcD).map y) (pts.map (rmP x)) Rs) := by
  obtain ⟨T0, f0⟩ := freed_ok k (x := x) eq (by omega) hn
  obtain ⟨pts', hp'⟩ : ∃ p', p' = pts.map (rmP x) := ⟨_, rfl⟩
  rw [← hp'] at f0 ⊢
  obtain ⟨S1, hS1⟩ : ∃ S1, S1 = S ++ T0 ++ [Ob.lst (pts'.map ptD)] := ⟨_, rfl⟩
  have ep1 : S1[hp]? = Option.some (.lst (Rs.map pcD)) := by
    have hh := (List.getElem?_eq_some_iff.mp ep).1
    rw [hS1, List.append_assoc, List.getElem?_append_left hh]; exact ep
  have e31 : S1[(S ++ T0).length]? = Option.some (.lst (pts'.map ptD)) := by rw [hS1]; exact get_end1 _ _
  rw [← hS1] at f0
  obtain ⟨h3, hh3⟩ : ∃ h3, h3 = (S ++ T0).length := ⟨_, rfl⟩
  rw [← hh3] at f0 e31
  have l2 := lc_map (walks_lst ep1) (g := gNm 9) (f := fCall (chk 2 (F (k + 1) .lessened)) (aCons (fVar 9) (aCons (fVar 1) aNil))) (vs := [9]) (ρ := wipeD [Option.some (.str x), Option.some r, Option.some (.ref hp), Option.some (.ref h3), none, none, none, none, none, none, none, none, none] [9]) (y := y) (by simp [LINE]; omega) fun d hd => by
    obtain ⟨R, hR', rfl⟩ := List.mem_map.mp hd
    exact ⟨[(9, pcD R)], rfl, by simp, by simp [hy R hR']⟩
  obtain ⟨ls, hls⟩ : ∃ ls, ls = (Rs.map pcD).map y := ⟨_, rfl⟩
  rw [← hls] at l2 ⊢
  obtain ⟨B, hB⟩ : ∃ B, B = S1 ++ [Ob.lst ls] := ⟨_, rfl⟩
  have G0 : Gr B h3 S1.length hp pts' ls (Rs.map pcD) (B ++ [.lst []]) [] := by
    refine ⟨⟨[], [], rfl, .nil⟩, ?_, ?_, ?_⟩
    · rw [hB, List.getElem?_append_left (List.getElem?_eq_some_iff.mp e31).1]; exact e31
    · rw [hB]; exact get_end1 _ _
    · rw [hB, List.getElem?_append_left (List.getElem?_eq_some_iff.mp ep1).1]; exact ep1
  have hpl : pts'.length = pts.length := by simp [hp']
  have hlsl : ls.length = Rs.length := by simp [hls]
  obtain ⟨ρ1, S2, f2, z6, z7, z8, z9, z10, z11, z12, rfl, G2⟩ := loopA (x := x) (B ++ [.lst []]) G0 (by omega) (by
    intro p hp
    rw [hp'] at hp
    obtain ⟨q, hq, rfl⟩ := List.mem_map.mp hp
    have := hn q hq
    have := List.length_filter_le (fun y => decide (y ≠ x)) q.2
    simp only [rmP]
    omega) r (.ref hp) none none none none none none none
  have n1 : (enuSrc h3 pts'.length).n = pts'.length := rfl
  rw [n1] at f2 G2
  obtain ⟨ρ2, S3, f3, w6, w7, w8, w9, w10, w11, w12, rfl, G3⟩ := loopB (x := x) S2 _ G2 (by omega) hlsl (by omega) hR (by simp; omega) r (.ref hp) z6 z7 z8 z9 z10 z11 z12 rfl
  have n2 : (enuSrc hp (Rs.map pcD).length).n = Rs.length := by simp [enuSrc, lstSrc]
  rw [n2] at f3 G3
  have e32 : (B ++ [Ob.lst []])[h3]? = Option.some (.lst (pts'.map ptD)) := G0.at_ G0.g3 [] |> fun h => by simpa using h
  have en1 := enu_ref e32
  rw [List.length_map] at en1
  have ep2 : S2[hp]? = Option.some (.lst (Rs.map pcD)) := by
    have := G2.at_ G2.gp []
    simpa using this
  have en2 := enu_ref ep2
  obtain ⟨items, T, hS3, hh⟩ := G3.ex
  have hST : S3 = S ++ (T0 ++ [Ob.lst (pts'.map ptD)] ++ [Ob.lst ls] ++ Ob.lst items :: T) := by rw [hS3, hB, hS1]; simp
  refine ⟨B.length, T0 ++ [Ob.lst (pts'.map ptD)] ++ [Ob.lst ls] ++ Ob.lst items :: T, items, ?_, ?_, ?_⟩
  · rw [F_choices, ← hST]
    simp only [r_wipe0, r_wipe1, List.set_cons_succ, List.set_cons_zero] at l2
    have sq : seqS (.ref hp) S1 = Option.some (lstSrc hp (Rs.map pcD).length, S1) := by simp only [seqS, ep1]
    have nl : ∀ h n, (lstSrc h n).n = n := fun _ _ => rfl
    have ne : ∀ h n, (enuSrc h n).n = n := fun _ _ => rfl
    have hll : S1 ++ [Ob.lst ls] = B := hB.symm
    have hll2 : ∀ T, S1 ++ Ob.lst ls :: T = B ++ T := fun T => by rw [hB]; simp
    simp only [List.length_map, nl, ne] at l2 sq en1 en2 f2 f3
    simp only [defD_eq, b_choices]
    clear hS1 hS3 hST hls hp' G0 G2 G3 hh hy hn hR
    simp [f0, sq, l2, hlsl, nl, ne, hll, hll2, en1, en2, f2, f3]
  · rw [← hST, hS3]; simp
  · rw [← hST]; exact hh
end K39

set_option Elab.async false
set_option linter.all false
set_option maxRecDepth 100000
set_option maxHeartbeats 4000000
/-! K39rb: words in pieces: plain -/
namespace K39
open PySem PySem.Spec L2 DL
open PyProof.Rows hiding St
def asm : List (List Bool) → List Pt → List Bool
  | w :: ws, p :: pts => w ++ p.1 :: asm ws pts
  | w :: _, [] => w
  | [], _ => []
def asg : List (List Bool) → List Pt → As
  | w :: ws, p :: pts => fun x => if x ∈ p.2 then Option.some w.length else (asg ws pts x).map (· + (w.length + 1))
  | _, _ => fun _ => none
/-- where piece i begins -/
def beg : List (List Bool) → Nat → Nat
  | _, 0 => 0
  | w :: ws, i + 1 => w.length + 1 + beg ws i
  | [], _ + 1 => 0
theorem asg_lt : ∀ (ws : List (List Bool)) (pts : List Pt) (x : Str) (q : Nat), asg ws pts x = Option.some q → q < (asm ws pts).length
  | w :: ws, p :: pts, x, q, h => by
    simp only [asg] at h
    simp only [asm, List.length_append, List.length_cons]
    split at h
    · cases h; omega
    · obtain ⟨q', h', rfl⟩ := Option.map_eq_some_iff.mp h
      have := asg_lt ws pts x q' h'
      omega
  | [], _, x, q, h => by simp [asg] at h
  | _ :: _, [], x, q, h => by simp [asg] at h
/-- colours -/
theorem asg_col : ∀ (ws : List (List Bool)) (pts : List Pt) (x : Str) (i q : Nat), pts.findIdx? (fun p => decide (x ∈ p.2)) = Option.some i → asg ws pts x = Option.some q → ∃ p, pts[i]? = Option.some p ∧ (asm ws pts)[q]? = Option.some p.1
  | w :: ws, p :: pts, x, i, q, hi, h => by
    simp only [asg] at h
    rw [List.findIdx?_cons] at hi
    simp only [asm]
    by_cases hx : x ∈ p.2
    · simp only [hx, if_true, Option.some.injEq, decide_true] at h hi
      subst h
      subst hi
      exact ⟨p, rfl, by simp⟩
    · simp only [hx, if_false, decide_false, Bool.false_eq_true] at h hi
      obtain ⟨q', h', rfl⟩ := Option.map_eq_some_iff.mp h
      obtain ⟨i', hi', rfl⟩ := Option.map_eq_some_iff.mp hi
      obtain ⟨p', e1, e2⟩ := asg_col ws pts x i' q' hi' h'
      refine ⟨p', by simpa using e1, ?_⟩
      rw [List.getElem?_append_right (by omega)]
      rw [show q' + (w.length + 1) - w.length = q' + 1 by omega]
      simpa using e2
  | [], _, x, i, q, hi, h => by simp [asg] at h
  | _ :: _, [], x, i, q, hi, h => by simp [asg] at h
/-- the places stand as their points do -/
theorem asg_ord : ∀ (ws : List (List Bool)) (pts : List Pt) (x y : Str) (i j p q : Nat), pts.findIdx? (fun p => decide (x ∈ p.2)) = Option.some i → pts.findIdx? (fun p => decide (y ∈ p.2)) = Option.some j → asg ws pts x = Option.some p → asg ws pts y = Option.some q → ((i < j ↔ p < q) ∧ (i = j ↔ p = q))
  | w :: ws, a :: pts, x, y, i, j, p, q, hi, hj, hp, hq => by
    simp only [asg] at hp hq
    rw [List.findIdx?_cons] at hi hj
    by_cases hx : x ∈ a.2 <;> by_cases hy : y ∈ a.2
    · simp only [hx, hy, if_true, decide_true, Option.some.injEq] at hi hj hp hq
      omega
    · simp only [hx, hy, if_true, if_false, decide_true, decide_false, Bool.false_eq_true, Option.some.injEq] at hi hj hp hq
      obtain ⟨q', h', rfl⟩ := Option.map_eq_some_iff.mp hq
      obtain ⟨j', hj', rfl⟩ := Option.map_eq_some_iff.mp hj
      omega
    · simp only [hx, hy, if_true, if_false, decide_true, decide_false, Bool.false_eq_true, Option.some.injEq] at hi hj hp hq
      obtain ⟨q', h', rfl⟩ := Option.map_eq_some_iff.mp hp
      obtain ⟨j', hj', rfl⟩ := Option.map_eq_some_iff.mp hi
      omega
    · simp only [hx, hy, if_false, decide_false, Bool.false_eq_true] at hi hj hp hq
      obtain ⟨p', h1, rfl⟩ := Option.map_eq_some_iff.mp hp
      obtain ⟨i', h2, rfl⟩ := Option.map_eq_some_iff.mp hi
      obtain ⟨q', h3, rfl⟩ := Option.map_eq_some_iff.mp hq
      obtain ⟨j', h4, rfl⟩ := Option.map_eq_some_iff.mp hj
      have := asg_ord ws pts x y i' j' p' q' h2 h4 h1 h3
      omega
  | [], _, x, y, i, j, p, q, hi, hj, hp, hq => by simp [asg] at hp
  | _ :: _, [], x, y, i, j, p, q, hi, hj, hp, hq => by simp [asg] at hp
/-- a name that a point bears has a place -/
theorem asg_has : ∀ (ws : List (List Bool)) (pts : List Pt) (x : Str), ws.length = pts.length + 1 → (∃ p, asg ws pts x = Option.some p) → ∃ i, pts.findIdx? (fun p => decide (x ∈ p.2)) = Option.some i
  | w :: ws, a :: pts, x, hl, ⟨p, hp⟩ => by
    rw [List.findIdx?_cons]
    by_cases hx : x ∈ a.2
    · exact ⟨0, by simp [hx]⟩
    · simp only [asg, hx, if_false] at hp
      obtain ⟨p', h', rfl⟩ := Option.map_eq_some_iff.mp hp
      obtain ⟨i, hi⟩ := asg_has ws pts x (by simpa using hl) ⟨p', h'⟩
      exact ⟨i + 1, by simp [hx, hi]⟩
  | [], _, x, hl, _ => by simp at hl
  | _ :: _, [], x, hl, ⟨p, hp⟩ => by simp [asg] at hp
theorem asm_rm : ∀ (ws : List (List Bool)) (pts : List Pt) (x : Str), asm ws (pts.map (rmP x)) = asm ws pts
  | w :: ws, a :: pts, x => by simp [asm, rmP, asm_rm ws pts x]
  | [], _, x => by simp [asm]
  | _ :: _, [], x => by simp [asm]
theorem asg_rm : ∀ (ws : List (List Bool)) (pts : List Pt) (x y : Str), asg ws (pts.map (rmP x)) y = if y = x then none else asg ws pts y
  | w :: ws, a :: pts, x, y => by
    simp only [List.map_cons, asg, asg_rm ws pts x y]
    by_cases e : y = x
    · simp [e, rmP]
    · simp [e, rmP]
  | [], _, x, y => by simp [asg]
  | _ :: _, [], x, y => by simp [asg]
/-- x is nowhere -/
def NoX (x : Str) (pts : List Pt) : Prop := ∀ p ∈ pts, x ∉ p.2
theorem noX_rm (x : Str) (pts : List Pt) : NoX x (pts.map (rmP x)) := by
  intro p hp
  obtain ⟨q, _, rfl⟩ := List.mem_map.mp hp
  simp [rmP]
theorem asg_no : ∀ (ws : List (List Bool)) (pts : List Pt) (x : Str), NoX x pts → asg ws pts x = none
  | w :: ws, a :: pts, x, h => by
    simp only [asg]
    rw [if_neg (h a (List.mem_cons_self ..)), asg_no ws pts x fun p hp => h p (List.mem_cons_of_mem _ hp)]
    rfl
  | [], _, x, h => by simp [asg]
  | _ :: _, [], x, h => by simp [asg]
/-- a name for an old point -/
theorem asm_ch1 : ∀ (ws : List (List Bool)) (pts : List Pt) (x : Str) (i : Nat), i < pts.length → asm ws (pts.take i ++ [((pts.getD i (false, [])).1, (pts.getD i (false, [])).2 ++ [x])] ++ pts.drop (i + 1)) = asm ws pts
  | w :: ws, a :: pts, x, 0, h => by simp [asm]
  | w :: ws, a :: pts, x, i + 1, h => by
    have := asm_ch1 ws pts x i (by simpa using h)
    simpa [asm] using this
  | [], _, x, i, h => by simp [asm]
  | _ :: _, [], x, i, h => by simp at h
theorem asg_ch1 : ∀ (ws : List (List Bool)) (pts : List Pt) (x y : Str) (i : Nat), ws.length = pts.length + 1 → i < pts.length → NoX x pts → asg ws (pts.take i ++ [((pts.getD i (false, [])).1, (pts.getD i (false, [])).2 ++ [x])] ++ pts.drop (i + 1)) y = upA (asg ws pts) x (beg ws i + (ws.getD i []).length) y
  | w :: ws, a :: pts, x, y, 0, hl, h, hn => by
    by_cases e : y = x
    · simp [asg, upA, e, beg]
    · simp [asg, upA, e, beg]
  | w :: ws, a :: pts, x, y, i + 1, hl, h, hn => by
    have := asg_ch1 ws pts x y i (by simpa using hl) (by simpa using h) fun p hp => hn p (List.mem_cons_of_mem _ hp)
    have ha := hn a (List.mem_cons_self ..)
    by_cases e : y = x
    · subst e
      simp only [upA, if_true] at this ⊢
      simp only [List.take_succ_cons, List.cons_append, asg, if_neg ha, List.getD_cons_succ, List.drop_succ_cons, this, beg]
      simp
      omega
    · simp only [upA, e, if_false] at this ⊢
      simp only [List.take_succ_cons, List.cons_append, asg, List.getD_cons_succ, List.drop_succ_cons, this]
  | [], _, x, y, i, hl, h, hn => by simp at hl
  | _ :: _, [], x, y, i, hl, h, hn => by simp at h
/-- a name for a new point -/
theorem asm_ch2 : ∀ (ws : List (List Bool)) (pts : List Pt) (x : Str) (i : Nat) (u : List Bool) (c : Bool) (v : List Bool), ws.length = pts.length + 1 → ws[i]? = Option.some (u ++ c :: v) → asm (ws.take i ++ [u, v] ++ ws.drop (i + 1)) (pts.take i ++ [(c, [x])] ++ pts.drop i) = asm ws pts
  | w :: ws, pts, x, 0, u, c, v, hl, h => by
    simp only [List.getElem?_cons_zero, Option.some.injEq] at h
    subst h
    cases pts <;> simp [asm]
  | w :: ws, a :: pts, x, i + 1, u, c, v, hl, h => by
    have := asm_ch2 ws pts x i u c v (by simpa using hl) (by simpa using h)
    simpa [asm] using this
  | [], _, x, i, u, c, v, hl, h => by simp at h
  | w :: ws, [], x, i + 1, u, c, v, hl, h => by
    have : ws = [] := by simpa using hl
    subst this
    simp at h
theorem asg_ch2 : ∀ (ws : List (List Bool)) (pts : List Pt) (x y : Str) (i : Nat) (u : List Bool) (c : Bool) (v : List Bool), ws.length = pts.length + 1 → ws[i]? = Option.some (u ++ c :: v) → NoX x pts → asg (ws.take i ++ [u, v] ++ ws.drop (i + 1)) (pts.take i ++ [(c, [x])] ++ pts.drop i) y = upA (asg ws pts) x (beg ws i + u.length) y
  | w :: ws, pts, x, y, 0, u, c, v, hl, h, hn => by
    simp only [List.getElem?_cons_zero, Option.some.injEq] at h
    subst h
    by_cases e : y = x
    · simp [asg, upA, e, beg]
    · cases pts with
      | nil => simp [asg, upA, e]
      | cons a pts =>
        simp only [List.take_zero, List.drop_zero, List.nil_append, List.cons_append, List.drop_succ_cons, asg, upA, e, List.mem_singleton, if_false]
        by_cases ha : y ∈ a.2
        · simp [ha]; omega
        · simp only [ha, if_false, Option.map_map]
          congr 1
          funext n
          simp
          omega
  | w :: ws, a :: pts, x, y, i + 1, u, c, v, hl, h, hn => by
    have := asg_ch2 ws pts x y i u c v (by simpa using hl) (by simpa using h) fun p hp => hn p (List.mem_cons_of_mem _ hp)
    have ha := hn a (List.mem_cons_self ..)
    by_cases e : y = x
    · subst e
      simp only [upA, if_true] at this ⊢
      simp only [List.take_succ_cons, List.cons_append, asg, if_neg ha, List.drop_succ_cons, this, beg]
      simp
      omega
    · simp only [upA, e, if_false] at this ⊢
      simp only [List.take_succ_cons, List.cons_append, asg, List.drop_succ_cons, this]
  | [], _, x, y, i, u, c, v, hl, h, hn => by simp at h
  | w :: ws, [], x, y, i + 1, u, c, v, hl, h, hn => by
    have : ws = [] := by simpa using hl
    subst this
    simp at h
/-- where a new point lies -/
theorem beg_lt1 : ∀ (ws : List (List Bool)) (pts : List Pt) (i : Nat), ws.length = pts.length + 1 → i < pts.length → beg ws i + (ws.getD i []).length < (asm ws pts).length
  | w :: ws, a :: pts, 0, hl, h => by simp [asm, beg]
  | w :: ws, a :: pts, i + 1, hl, h => by
    have := beg_lt1 ws pts i (by simpa using hl) (by simpa using h)
    simp only [asm, beg, List.length_append, List.length_cons, List.getD_cons_succ]
    omega
  | [], _, i, hl, h => by simp at hl
  | _ :: _, [], i, hl, h => by simp at h
theorem beg_lt2 : ∀ (ws : List (List Bool)) (pts : List Pt) (i : Nat) (u : List Bool) (c : Bool) (v : List Bool), ws.length = pts.length + 1 → ws[i]? = Option.some (u ++ c :: v) → beg ws i + u.length < (asm ws pts).length
  | w :: ws, pts, 0, u, c, v, hl, h => by
    simp only [List.getElem?_cons_zero, Option.some.injEq] at h
    subst h
    cases pts <;> simp [asm, beg] <;> omega
  | w :: ws, a :: pts, i + 1, u, c, v, hl, h => by
    have := beg_lt2 ws pts i u c v (by simpa using hl) (by simpa using h)
    simp only [asm, beg, List.length_append, List.length_cons]
    omega
  | [], _, i, u, c, v, hl, h => by simp at h
  | w :: ws, [], i + 1, u, c, v, hl, h => by
    have : ws = [] := by simpa using hl
    subst this
    simp at h
/-- each place is one of them -/
theorem cover : ∀ (ws : List (List Bool)) (pts : List Pt) (p : Nat), ws.length = pts.length + 1 → p < (asm ws pts).length → (∃ i, i < pts.length ∧ p = beg ws i + (ws.getD i []).length) ∨ (∃ i u c v, ws[i]? = Option.some (u ++ c :: v) ∧ p = beg ws i + u.length)
  | [], pts, p, hl, h => by simp at hl
  | w :: ws, pts, p, hl, h => by
    by_cases hw : p < w.length
    · right
      refine ⟨0, w.take p, w[p], w.drop (p + 1), ?_, ?_⟩
      · simp
      · simp [beg]; omega
    · cases pts with
      | nil => simp [asm] at h; omega
      | cons a pts =>
        by_cases hq : p = w.length
        · left
          exact ⟨0, by simp, by simp [beg, hq]⟩
        · have hp : p - (w.length + 1) < (asm ws pts).length := by
            simp only [asm, List.length_append, List.length_cons] at h
            omega
          rcases cover ws pts (p - (w.length + 1)) (by simpa using hl) hp with ⟨i, h1, h2⟩ | ⟨i, u, c, v, h1, h2⟩
          · left
            refine ⟨i + 1, by simpa using h1, ?_⟩
            simp only [beg, List.getD_cons_succ]
            omega
          · right
            refine ⟨i + 1, u, c, v, by simpa using h1, ?_⟩
            simp only [beg]
            omega
end K39

set_option Elab.async false
set_option linter.all false
set_option maxRecDepth 100000
set_option maxHeartbeats 4000000
/-! K39rc: what choices stand for -/
namespace K39
open PySem PySem.Spec L2 DL
open PyProof.Rows hiding St
noncomputable def krR : Nat → List Bool → List Rw
  | 1, w => ([false, true].filter fun c => decide (c ∈ w)).map fun c => (.tup [], c, .tup [])
  | 2, w => (canon (rowsR w)).map fun r => (k1D r.1, r.2.1, k1D r.2.2)
  | _, _ => []
theorem krR_pc (r : Nat) (hr : r ≤ 1) (w : List Bool) : kr (r + 1) w = pcD (krR (r + 1) w) := by
  obtain rfl | rfl : r = 0 ∨ r = 1 := by omega
  · rw [kr1]
    by_cases h0 : false ∈ w <;> by_cases h1 : true ∈ w <;> simp [lt, k1D, pcD, krR, h0, h1, row1, rwD]
  · rw [kr2]
    simp only [pcD, krR, List.map_map]
    rfl
theorem krR_len (r : Nat) (w : List Bool) : (krR r w).length ≤ 900 := by
  unfold krR
  split
  · simp only [List.length_map]
    have := List.length_filter_le (fun c => decide (c ∈ w)) [false, true]
    simp only [List.length_cons, List.length_nil] at this
    omega
  · simp only [List.length_map, canon]
    have := List.length_filter_le (fun r => decide (r ∈ rowsR w)) all32
    have h : all32.length = 32 := by decide +kernel
    omega
  · simp
theorem krR_mem (r : Nat) (hr : r ≤ 1) (w : List Bool) (ρ : Rw) : ρ ∈ krR (r + 1) w ↔ ∃ u c v, w = u ++ c :: v ∧ ρ = (kr r u, c, kr r v) := by
  obtain rfl | rfl : r = 0 ∨ r = 1 := by omega
  · simp only [krR, List.mem_map, List.mem_filter, decide_eq_true_eq, kr0]
    constructor
    · rintro ⟨c, ⟨_, hc⟩, rfl⟩
      obtain ⟨u, v, e⟩ := List.append_of_mem hc
      exact ⟨u, c, v, e, rfl⟩
    · rintro ⟨u, c, v, rfl, rfl⟩
      exact ⟨c, ⟨by cases c <;> simp, by simp⟩, rfl⟩
  · simp only [krR, List.mem_map, canon_mem, rowsR_mem, kr1]
    constructor
    · rintro ⟨_, ⟨u, c, v, e, rfl⟩, rfl⟩
      exact ⟨u, c, v, e, rfl⟩
    · rintro ⟨u, c, v, rfl, rfl⟩
      exact ⟨_, ⟨u, c, v, rfl, rfl⟩, rfl⟩
theorem less_ok (k r : Nat) (hr : r ≤ 1) (w : List Bool) (S : Sto) : F (k + 2) .lessened [kr (r + 1) w, .int ((r + 1 : Nat) : Int)] S = Option.some (kr r w, S) := by
  obtain rfl | rfl : r = 0 ∨ r = 1 := by omega
  · exact less1 (k + 1) _ (sd_free _ _ (kr_sd (by omega) w)) S
  · rw [kr2, kr1, ← let2_rows w]
    refine less2 k _ ?_ S
    have := List.length_filter_le (fun r => decide (r ∈ rowsR w)) all32
    have h : all32.length = 32 := by decide +kernel
    simp only [canon]
    omega
/-- c is a choice of place p -/
def Good (r : Nat) (ws : List (List Bool)) (pts : List Pt) (x : Str) (c : Ch) (p : Nat) : Prop :=
  ∃ ws' pts', c = (ws'.map (kr r), pts') ∧ asm ws' pts' = asm ws pts ∧ asg ws' pts' = upA (asg ws pts) x p ∧ ws'.length = pts'.length + 1 ∧ pts'.length ≤ pts.length + 1 ∧ (∀ q ∈ pts', (∃ q' ∈ pts, q.2.length ≤ q'.2.length + 1) ∨ q.2.length ≤ 1) ∧ (∀ q ∈ pts', ∀ y ∈ q.2, y = x ∨ ∃ q' ∈ pts, y ∈ q'.2)
theorem rm_len (x : Str) (p : Pt) : (rmP x p).2.length ≤ p.2.length := List.length_filter_le _ _
theorem rm_mem (x : Str) (p : Pt) (y : Str) (h : y ∈ (rmP x p).2) : y ∈ p.2 := (List.mem_filter.mp h).1
theorem upA_rm (ws : List (List Bool)) (pts : List Pt) (x : Str) (p : Nat) : upA (asg ws (pts.map (rmP x))) x p = upA (asg ws pts) x p := by
  funext y
  unfold upA
  split
  · rfl
  · rename_i h
    rw [asg_rm, if_neg h]
theorem good1 {r : Nat} {ws : List (List Bool)} {pts : List Pt} {x : Str} (hl : ws.length = pts.length + 1) {i : Nat} (hi : i < pts.length) : Good r ws pts x (ch1 x (ws.map (kr r)) (pts.map (rmP x)) i) (beg ws i + (ws.getD i []).length) := by
  have hl' : ws.length = (pts.map (rmP x)).length + 1 := by simpa using hl
  have hi' : i < (pts.map (rmP x)).length := by simpa using hi
  refine ⟨ws, _, rfl, (asm_ch1 ws _ x i hi').trans (asm_rm ws pts x), ?_, ?_, ?_, ?_, ?_⟩
  · rw [← upA_rm]
    funext y
    exact asg_ch1 ws _ x y i hl' hi' (noX_rm x pts)
  · simp; omega
  · simp; omega
  · intro q hq
    simp only [List.mem_append, List.mem_singleton] at hq
    rcases hq with (hq | rfl) | hq
    · obtain ⟨q', h1, rfl⟩ := List.mem_map.mp (List.mem_of_mem_take hq)
      exact .inl ⟨q', h1, by have := rm_len x q'; omega⟩
    · refine .inl ⟨pts[i], List.getElem_mem hi, ?_⟩
      have := rm_len x pts[i]
      simp [List.getD_eq_getElem?_getD, hi]
      omega
    · obtain ⟨q', h1, rfl⟩ := List.mem_map.mp (List.mem_of_mem_drop hq)
      exact .inl ⟨q', h1, by have := rm_len x q'; omega⟩
  · intro q hq y hy
    simp only [List.mem_append, List.mem_singleton] at hq
    rcases hq with (hq | rfl) | hq
    · obtain ⟨q', h1, rfl⟩ := List.mem_map.mp (List.mem_of_mem_take hq)
      exact .inr ⟨q', h1, rm_mem x q' y hy⟩
    · simp only [List.getD_eq_getElem?_getD, List.getElem?_map, List.getElem?_eq_getElem hi, Option.map_some, Option.getD_some, List.mem_append, List.mem_singleton] at hy
      rcases hy with hy | hy
      · exact .inr ⟨pts[i], List.getElem_mem hi, rm_mem x _ y hy⟩
      · exact .inl hy
    · obtain ⟨q', h1, rfl⟩ := List.mem_map.mp (List.mem_of_mem_drop hq)
      exact .inr ⟨q', h1, rm_mem x q' y hy⟩
theorem good2 {r : Nat} {ws : List (List Bool)} {pts : List Pt} {x : Str} (hl : ws.length = pts.length + 1) {i : Nat} {u : List Bool} {c : Bool} {v : List Bool} (hi : ws[i]? = Option.some (u ++ c :: v)) : Good r ws pts x (ch2 x (ws.map (kr r)) (pts.map (rmP x)) i (kr r u, c, kr r v)) (beg ws i + u.length) := by
  have hl' : ws.length = (pts.map (rmP x)).length + 1 := by simpa using hl
  have hi' : i < ws.length := (List.getElem?_eq_some_iff.mp hi).1
  refine ⟨ws.take i ++ [u, v] ++ ws.drop (i + 1), (pts.map (rmP x)).take i ++ [(c, [x])] ++ (pts.map (rmP x)).drop i, ?_, (asm_ch2 ws _ x i u c v hl' hi).trans (asm_rm ws pts x), ?_, ?_, ?_, ?_, ?_⟩
  · simp [ch2]
  · rw [← upA_rm]
    funext y
    exact asg_ch2 ws _ x y i u c v hl' hi (noX_rm x pts)
  · simp; omega
  · simp; omega
  · intro q hq
    simp only [List.mem_append, List.mem_singleton] at hq
    rcases hq with (hq | rfl) | hq
    · obtain ⟨q', h1, rfl⟩ := List.mem_map.mp (List.mem_of_mem_take hq)
      exact .inl ⟨q', h1, by have := rm_len x q'; omega⟩
    · exact .inr (by simp)
    · obtain ⟨q', h1, rfl⟩ := List.mem_map.mp (List.mem_of_mem_drop hq)
      exact .inl ⟨q', h1, by have := rm_len x q'; omega⟩
  · intro q hq y hy
    simp only [List.mem_append, List.mem_singleton] at hq
    rcases hq with (hq | rfl) | hq
    · obtain ⟨q', h1, rfl⟩ := List.mem_map.mp (List.mem_of_mem_take hq)
      exact .inr ⟨q', h1, rm_mem x q' y hy⟩
    · exact .inl (by simpa using hy)
    · obtain ⟨q', h1, rfl⟩ := List.mem_map.mp (List.mem_of_mem_drop hq)
      exact .inr ⟨q', h1, rm_mem x q' y hy⟩
theorem chs_sound {r : Nat} (hr : r ≤ 1) {ws : List (List Bool)} {pts : List Pt} {x : Str} (hl : ws.length = pts.length + 1) {c : Ch} (hc : c ∈ chs x (ws.map (kr r)) (pts.map (rmP x)) (ws.map (krR (r + 1)))) : ∃ p, p < (asm ws pts).length ∧ Good r ws pts x c p := by
  rcases List.mem_append.mp hc with h | h
  · obtain ⟨i, hi, rfl⟩ := List.mem_map.mp h
    have hi' : i < pts.length := by simpa using hi
    exact ⟨_, beg_lt1 ws pts i hl hi', good1 hl hi'⟩
  · obtain ⟨i, hi, h2⟩ := List.mem_flatMap.mp h
    have hi' : i < ws.length := by simpa using hi
    obtain ⟨ρ, hρ, rfl⟩ := List.mem_map.mp h2
    simp only [List.getD_eq_getElem?_getD, List.getElem?_map, List.getElem?_eq_getElem hi', Option.map_some, Option.getD_some] at hρ
    obtain ⟨u, c, v, e, rfl⟩ := (krR_mem r hr _ ρ).mp hρ
    have hw : ws[i]? = Option.some (u ++ c :: v) := by rw [List.getElem?_eq_getElem hi', e]
    exact ⟨_, beg_lt2 ws pts i u c v hl hw, good2 hl hw⟩
theorem chs_complete {r : Nat} (hr : r ≤ 1) {ws : List (List Bool)} {pts : List Pt} {x : Str} (hl : ws.length = pts.length + 1) {p : Nat} (hp : p < (asm ws pts).length) : ∃ c ∈ chs x (ws.map (kr r)) (pts.map (rmP x)) (ws.map (krR (r + 1))), Good r ws pts x c p := by
  rcases cover ws pts p hl hp with ⟨i, hi, rfl⟩ | ⟨i, u, c, v, hw, rfl⟩
  · exact ⟨_, List.mem_append.mpr (.inl (List.mem_map_of_mem (List.mem_range.mpr (by simpa using hi)))), good1 hl hi⟩
  · have hi' : i < ws.length := (List.getElem?_eq_some_iff.mp hw).1
    have e : ws[i] = u ++ c :: v := (List.getElem?_eq_some_iff.mp hw).2
    refine ⟨_, List.mem_append.mpr (.inr (List.mem_flatMap.mpr ⟨i, List.mem_range.mpr (by simpa using hi'), List.mem_map_of_mem ?_⟩)), good2 hl hw⟩
    simp only [List.getD_eq_getElem?_getD, List.getElem?_map, List.getElem?_eq_getElem hi', Option.map_some, Option.getD_some]
    exact (krR_mem r hr _ _).mpr ⟨u, c, v, e, rfl⟩
theorem Hds.get {h5 : Nat} {S : Sto} {ds : List D} {cs : List Ch} (h : Hds h5 S ds cs) : (∀ d ∈ ds, ∃ c ∈ cs, Hd h5 S d c) ∧ (∀ c ∈ cs, ∃ d ∈ ds, Hd h5 S d c) := by
  induction h with
  | nil => exact ⟨fun _ h => absurd h (List.not_mem_nil), fun _ h => absurd h (List.not_mem_nil)⟩
  | cons a _ ih =>
    refine ⟨fun d hd => ?_, fun c hc => ?_⟩
    · rcases List.mem_cons.mp hd with rfl | hd
      · exact ⟨_, List.mem_cons_self .., a⟩
      · obtain ⟨c, h1, h2⟩ := ih.1 d hd
        exact ⟨c, List.mem_cons_of_mem _ h1, h2⟩
    · rcases List.mem_cons.mp hc with rfl | hc
      · exact ⟨_, List.mem_cons_self .., a⟩
      · obtain ⟨d, h1, h2⟩ := ih.2 c hc
        exact ⟨d, List.mem_cons_of_mem _ h1, h2⟩
def blB : D → Bool
  | .bl b => b
  | _ => false
theorem quant_vals {items : List D} {y : D → D} {n : Nat} {t : Nat → Bool} (h1 : ∀ d ∈ items, ∃ p, p < n ∧ y d = .bl (t p)) (h2 : ∀ p, p < n → ∃ d ∈ items, y d = .bl (t p)) : ∃ bs : List Bool, items.map y = bs.map D.bl ∧ bs.any id = (List.range n).any t ∧ bs.all id = (List.range n).all t := by
  refine ⟨items.map fun d => blB (y d), ?_, ?_, ?_⟩
  · rw [List.map_map]
    apply List.map_congr_left
    intro d hd
    obtain ⟨p, _, e⟩ := h1 d hd
    simp [e, blB]
  · rw [Bool.eq_iff_iff, List.any_eq_true, List.any_eq_true]
    constructor
    · rintro ⟨b, hb, e⟩
      obtain ⟨d, hd, rfl⟩ := List.mem_map.mp hb
      obtain ⟨p, hp, e'⟩ := h1 d hd
      rw [e'] at e
      exact ⟨p, List.mem_range.mpr hp, e⟩
    · rintro ⟨p, hp, e⟩
      obtain ⟨d, hd, e'⟩ := h2 p (List.mem_range.mp hp)
      exact ⟨_, List.mem_map_of_mem hd, by rw [e']; exact e⟩
  · rw [Bool.eq_iff_iff, List.all_eq_true, List.all_eq_true]
    constructor
    · intro h p hp
      obtain ⟨d, hd, e'⟩ := h2 p (List.mem_range.mp hp)
      have := h _ (List.mem_map_of_mem hd)
      rw [e'] at this
      exact this
    · intro h b hb
      obtain ⟨d, hd, rfl⟩ := List.mem_map.mp hb
      obtain ⟨p, hp, e'⟩ := h1 d hd
      rw [e']
      exact h p (List.mem_range.mpr hp)
end K39

set_option Elab.async false
set_option linter.all false
set_option maxRecDepth 100000
set_option maxHeartbeats 4000000
/-! K39rd: truth of sentences in kinds, as the code finds it -/
namespace K39
open PySem PySem.Spec L2 DL
open PyProof.Rows hiding St
def qr : Fm → Nat
  | .not f => qr f
  | .and f g => max (qr f) (qr g)
  | .or f g => max (qr f) (qr g)
  | .imp f g => max (qr f) (qr g)
  | .some _ f => qr f + 1
  | .every _ f => qr f + 1
  | _ => 0
theorem F_kind_truth (k : Nat) : F (k + 1) .kind_truth = scopeD (defD 11 (b_kind_truth (F k))) := rfl
/-- what stands at the handles -/
structure KS (S : Sto) (hp hq : Nat) (r : Nat) (ws : List (List Bool)) (pts : List Pt) (v : List Str) (b : Nat) : Prop where
  ep : S[hp]? = Option.some (.lst (ws.map (kr r)))
  eq : S[hq]? = Option.some (.lst (pts.map ptD))
  len : ws.length = pts.length + 1
  ok : POk pts
  nl : ∀ p ∈ pts, p.2.length + b ≤ 800
  pl : pts.length + b ≤ 800
  bd : ∀ x ∈ v, ∃ p, asg ws pts x = Option.some p
  sv : ∀ x ∈ v, PyData.strOk x = true
theorem KS.le {S : Sto} {hp hq r : Nat} {ws : List (List Bool)} {pts : List Pt} {v : List Str} {b b' : Nat} (K : KS S hp hq r ws pts v b) (h : b' ≤ b) : KS S hp hq r ws pts v b' :=
  ⟨K.ep, K.eq, K.len, K.ok, fun p hp => by have := K.nl p hp; omega, by have := K.pl; omega, K.bd, K.sv⟩
theorem KS.place {S : Sto} {hp hq r : Nat} {ws : List (List Bool)} {pts : List Pt} {v : List Str} {b : Nat} (K : KS S hp hq r ws pts v b) (k : Nat) {x : Str} (hx : x ∈ v) : ∃ i p, pts.findIdx? (fun p => decide (x ∈ p.2)) = Option.some i ∧ asg ws pts x = Option.some p ∧ F (k + 1) .place_of [.ref hq, .str x] S = Option.some (.int (i : Int), S) := by
  obtain ⟨p, hp⟩ := K.bd x hx
  obtain ⟨i, hi⟩ := asg_has ws pts x K.len ⟨p, hp⟩
  exact ⟨i, p, hi, hp, place_of_ok k K.eq (by have := K.pl; omega) K.ok (K.sv x hx) hi⟩
noncomputable def yQ (k : Nat) (f : Fm) (r : Nat) (S : Sto) : D → D
  | .tup [a, b] => valD (F k .kind_truth [enc f, .int (r : Int), a, b] S)
  | _ => .non
/-- what the choices give -/
theorem quant {f : Fm} {x : Str} {v : List Str} {m r b : Nat} {S : Sto} {hp hq : Nat} {ws : List (List Bool)} {pts : List Pt} (hr : r ≤ 1) (K : KS S hp hq (r + 1) ws pts v (b + 1)) (hx : PyData.strOk x = true) 
    (ih : ∀ (S : Sto) (hp hq : Nat) (ws : List (List Bool)) (pts : List Pt), KS S hp hq r ws pts (x :: v) b → F (m + 3) .kind_truth [enc f, .int (r : Int), .ref hp, .ref hq] S = Option.some (.bl (wt (asm ws pts) f (asg ws pts)), S)) :
    ∃ (h' : Nat) (T : Sto) (items : List D) (bs : List Bool), F (m + 3) .choices [.str x, .int ((r + 1 : Nat) : Int), .ref hp, .ref hq] S = Option.some (.ref h', S ++ T) ∧ (S ++ T)[h']? = Option.some (.lst items) ∧ items.length ≤ LINE ∧
      (∀ d ∈ items, ∃ a c, d = .tup [.ref a, .ref c] ∧ F (m + 3) .kind_truth [enc f, .int (r : Int), .ref a, .ref c] (S ++ T) = Option.some (yQ (m + 3) f r (S ++ T) d, S ++ T)) ∧
      items.map (yQ (m + 3) f r (S ++ T)) = bs.map D.bl ∧ bs.any id = ((List.range (asm ws pts).length).any fun p => wt (asm ws pts) f (upA (asg ws pts) x p)) ∧ bs.all id = ((List.range (asm ws pts).length).all fun p => wt (asm ws pts) f (upA (asg ws pts) x p)) := by
  have ewp : ws.map (kr (r + 1)) = (ws.map (krR (r + 1))).map pcD := by
    rw [List.map_map]
    apply List.map_congr_left
    intro w _
    exact krR_pc r hr w
  have ep := K.ep
  rw [ewp] at ep
  obtain ⟨h', T, items, c1, c2, hh⟩ := choices_ok (m + 1) (x := x) (r := .int ((r + 1 : Nat) : Int)) (y := fun d => valD (F (m + 2) .lessened [d, .int ((r + 1 : Nat) : Int)] [])) ep K.eq (by have := K.pl; omega) (fun p hp => by have := K.nl p hp; omega) (by rw [List.length_map]; exact K.len.symm) (by
      intro R hR
      obtain ⟨w, _, rfl⟩ := List.mem_map.mp hR
      exact krR_len _ _) (by
      intro R hR S
      obtain ⟨w, _, rfl⟩ := List.mem_map.mp hR
      rw [← krR_pc r hr w, less_ok m r hr w S, less_ok m r hr w []]
      rfl)
  have el : (((ws.map (krR (r + 1))).map pcD).map fun d => valD (F (m + 2) .lessened [d, .int ((r + 1 : Nat) : Int)] [])) = ws.map (kr r) := by
    rw [← ewp, List.map_map]
    apply List.map_congr_left
    intro w _
    simp only [Function.comp]
    rw [less_ok m r hr w []]
    rfl
  rw [el] at hh
  have one : ∀ d c p, Hd h' (S ++ T) d c → Good r ws pts x c p → p < (asm ws pts).length → ∃ a e, d = .tup [.ref a, .ref e] ∧ F (m + 3) .kind_truth [enc f, .int (r : Int), .ref a, .ref e] (S ++ T) = Option.some (.bl (wt (asm ws pts) f (upA (asg ws pts) x p)), S ++ T) := by
    rintro d c p ⟨a, e, rfl, _, _, g1, g2⟩ ⟨ws', pts', rfl, w1, w2, w3, w4, w5, w6⟩ hp
    refine ⟨a, e, rfl, ?_⟩
    have := ih (S ++ T) a e ws' pts' ⟨g1, g2, w3, ?_, ?_, ?_, ?_, ?_⟩
    · rw [w1, w2] at this
      exact this
    · intro q hq y hy
      rcases w6 q hq y hy with rfl | ⟨q', hq', hy'⟩
      · exact hx
      · exact K.ok q' hq' y hy'
    · intro q hq
      rcases w5 q hq with ⟨q', hq', h⟩ | h
      · have := K.nl q' hq'; omega
      · have := K.pl; omega
    · have := K.pl; omega
    · intro y hy
      rw [w2]
      unfold upA
      by_cases ey : y = x
      · exact ⟨p, if_pos ey⟩
      · rw [if_neg ey]
        exact K.bd y ((List.mem_cons.mp hy).resolve_left ey)
    · intro y hy
      rcases List.mem_cons.mp hy with rfl | hy
      · exact hx
      · exact K.sv y hy
  have v1 : ∀ d ∈ items, ∃ p, p < (asm ws pts).length ∧ yQ (m + 3) f r (S ++ T) d = .bl (wt (asm ws pts) f (upA (asg ws pts) x p)) := by
    intro d hd
    obtain ⟨c, hc, hd'⟩ := hh.get.1 d hd
    obtain ⟨p, hp, g⟩ := chs_sound hr K.len hc
    obtain ⟨a, e, rfl, ev⟩ := one d c p hd' g hp
    exact ⟨p, hp, by simp only [yQ, ev, valD]⟩
  have v2 : ∀ p, p < (asm ws pts).length → ∃ d ∈ items, yQ (m + 3) f r (S ++ T) d = .bl (wt (asm ws pts) f (upA (asg ws pts) x p)) := by
    intro p hp
    obtain ⟨c, hc, g⟩ := chs_complete (x := x) hr K.len hp
    obtain ⟨d, hd, hd'⟩ := hh.get.2 c hc
    obtain ⟨a, e, rfl, ev⟩ := one d c p hd' g hp
    exact ⟨_, hd, by simp only [yQ, ev, valD]⟩
  obtain ⟨bs, b1, b2, b3⟩ := quant_vals v1 v2
  refine ⟨h', T, items, bs, c1, c2, ?_, ?_, b1, b2, b3⟩
  · rw [hh.length]
    have : ∀ (Rs : List (List Rw)) (ls : List D) (pts : List Pt) (n : Nat), (∀ R ∈ Rs, R.length ≤ 900) → ((List.range n).flatMap (chB x ls pts Rs)).length ≤ n * 900 := by
      intro Rs ls pts n hR
      induction n with
      | zero => simp
      | succ n ih =>
        have e : (chB x ls pts Rs n).length ≤ 900 := by
          simp only [chB, List.length_map, List.getD_eq_getElem?_getD]
          cases h : Rs[n]? with
          | none => simp
          | some R => exact hR R (List.mem_of_getElem? h)
        rw [List.range_succ, List.flatMap_append, List.length_append]
        simp only [List.flatMap_cons, List.flatMap_nil, List.append_nil]
        omega
    have h1 := this (ws.map (krR (r + 1))) (ws.map (kr r)) (pts.map (rmP x)) (ws.map (krR (r + 1))).length (by
      intro R hR
      obtain ⟨w, _, rfl⟩ := List.mem_map.mp hR
      exact krR_len _ _)
    have h2 := K.pl
    have h3 := K.len
    simp only [chs, List.length_append, List.length_map, List.length_range, LINE] at h1 ⊢
    omega
  · intro d hd
    obtain ⟨c, hc, hd'⟩ := hh.get.1 d hd
    obtain ⟨p, hp, g⟩ := chs_sound hr K.len hc
    obtain ⟨a, e, rfl, ev⟩ := one d c p hd' g hp
    exact ⟨a, e, rfl, by simp only [yQ, ev, valD]⟩
theorem ninTu (S : Sto) {h : Str} (hh : h ∈ heads) : ninD (.str h) g_TURNS S = Option.some (.bl (!(decide (h = ks_13) || decide (h = ks_9))), S) := ninD_of (inB_tupb (n := 0) (d := .str h) (ys := [.str ks_13, .str ks_9]) (ok_of hh) (fun y hy => by
    simp only [List.mem_cons, List.not_mem_nil, or_false] at hy
    rcases hy with rfl | rfl
    · exact ok_of (by simp [heads])
    · exact ok_of (by simp [heads])) (by decide) (by simp))
theorem kind_truth_ok : ∀ (φ : Fm) (v : List Str) (n r : Nat) (S : Sto) (hp hq : Nat) (ws : List (List Bool)) (pts : List Pt), dep φ + 5 ≤ n → wf φ v = true → qr φ ≤ r → r ≤ 2 → KS S hp hq r ws pts v (dep φ) → F n .kind_truth [enc φ, .int (r : Int), .ref hp, .ref hq] S = Option.some (.bl (wt (asm ws pts) φ (asg ws pts)), S) := by
  have h8 : ks_8 ∈ heads := by simp [heads]
  intro φ
  induction φ with
  | tt =>
    intro v n r S hp hq ws pts hn hf hr hr2 K
    obtain ⟨m, rfl⟩ : ∃ m, n = m + 1 := ⟨n - 1, by omega⟩
    rw [F_kind_truth]
    refine scopeD_app (T := []) ?_ rfl
    simp only [defD_eq, b_kind_truth]
    simp [enc, idx0, eqS, in87 _ (show ks_8 ∈ heads by simp [heads]), LINE, wt]
  | ff =>
    intro v n r S hp hq ws pts hn hf hr hr2 K
    obtain ⟨m, rfl⟩ : ∃ m, n = m + 1 := ⟨n - 1, by omega⟩
    rw [F_kind_truth]
    refine scopeD_app (T := []) ?_ rfl
    simp only [defD_eq, b_kind_truth]
    simp [enc, idx0, eqS, in87 _ (show ks_7 ∈ heads by simp [heads]), LINE, wt]
  | before x y =>
    intro v n r S hp hq ws pts hn hf hr hr2 K
    obtain ⟨m, rfl⟩ : ∃ m, n = m + 1 := ⟨n - 1, by omega⟩
    obtain ⟨m', rfl⟩ : ∃ m', m = m' + 1 := ⟨m - 1, by omega⟩
    simp only [wf, Bool.and_eq_true, List.contains_iff_mem] at hf
    obtain ⟨i, p, i1, i2, i3⟩ := K.place m' hf.1
    obtain ⟨j, q, j1, j2, j3⟩ := K.place m' hf.2
    have od := asg_ord ws pts x y i j p q i1 j1 i2 j2
    rw [F_kind_truth]
    refine scopeD_app (T := []) ?_ rfl
    simp only [defD_eq, b_kind_truth]
    simp [enc, idx0, idx1, idx2, eqS, eqI, in87 _ (show ks_1 ∈ heads by simp [heads]), in10 _ (show ks_1 ∈ heads by simp [heads]), LINE, i3, j3, ltD, wt, i2, j2, od.1, od.2, Int.ofNat_inj]
  | same x y =>
    intro v n r S hp hq ws pts hn hf hr hr2 K
    obtain ⟨m, rfl⟩ : ∃ m, n = m + 1 := ⟨n - 1, by omega⟩
    obtain ⟨m', rfl⟩ : ∃ m', m = m' + 1 := ⟨m - 1, by omega⟩
    simp only [wf, Bool.and_eq_true, List.contains_iff_mem] at hf
    obtain ⟨i, p, i1, i2, i3⟩ := K.place m' hf.1
    obtain ⟨j, q, j1, j2, j3⟩ := K.place m' hf.2
    have od := asg_ord ws pts x y i j p q i1 j1 i2 j2
    rw [F_kind_truth]
    refine scopeD_app (T := []) ?_ rfl
    simp only [defD_eq, b_kind_truth]
    simp [enc, idx0, idx1, idx2, eqS, eqI, in87 _ (show ks_0 ∈ heads by simp [heads]), in10 _ (show ks_0 ∈ heads by simp [heads]), LINE, i3, j3, ltD, wt, i2, j2, od.1, od.2, Int.ofNat_inj]
  | colour c x =>
    intro v n r S hp hq ws pts hn hf hr hr2 K
    obtain ⟨m, rfl⟩ : ∃ m, n = m + 1 := ⟨n - 1, by omega⟩
    obtain ⟨m', rfl⟩ : ∃ m', m = m' + 1 := ⟨m - 1, by omega⟩
    simp only [wf, List.contains_iff_mem] at hf
    obtain ⟨i, p, i1, i2, i3⟩ := K.place m' hf
    obtain ⟨pt, e1, e2⟩ := asg_col ws pts x i p i1 i2
    have hw : wt (asm ws pts) (.colour c x) (asg ws pts) = decide (pt.1 = c) := by
      simp only [wt, i2, e2]
      by_cases e : pt.1 = c <;> simp [e]
    have ix := idxL (S := S) (i := i) K.eq (d := ptD pt) (by simp [e1])
    rw [F_kind_truth, hw]
    refine scopeD_app (T := []) ?_ rfl
    simp only [defD_eq, b_kind_truth]
    have ip : ∀ S : Sto, idxD (ptD pt) (.int 0) S = Option.some (cD pt.1, S) := fun S => idx0 _ _ S
    simp [enc, idx0, idx1, idx2, eqS, in87 _ (show ks_2 ∈ heads by simp [heads]), LINE, i3, ix, ip, eqC]
  | not f ih =>
    intro v n r S hp hq ws pts hn hf hr hr2 K
    obtain ⟨m, rfl⟩ : ∃ m, n = m + 1 := ⟨n - 1, by omega⟩
    simp only [wf] at hf
    simp only [qr] at hr
    simp only [dep] at hn K
    obtain ⟨m', rfl⟩ : ∃ m', m = m' + 1 := ⟨m - 1, by omega⟩
    have e1 := ih v (m' + 1) r S hp hq ws pts (by omega) hf hr hr2 (K.le (by omega))
    have lc := lc_map (walks_sq [enc f] S) (g := gNm 8) (f := fCall (chk 4 (F (m' + 1) .kind_truth)) (aCons (fVar 8) (aCons (fVar 1) (aCons (fVar 2) (aCons (fVar 3) aNil))))) (vs := [8]) (ρ := wipeD [Option.some (enc (.not f)), Option.some (.int (r : Int)), Option.some (.ref hp), Option.some (.ref hq), Option.some (.str ks_6), none, none, none, none, none, none] [8]) (y := fun d => valD (F (m' + 1) .kind_truth [d, .int (r : Int), .ref hp, .ref hq] S)) (by simp [LINE]) fun d hd' => by
      refine ⟨[(8, d)], rfl, by simp, ?_⟩
      simp only [List.mem_cons, List.not_mem_nil, or_false] at hd'
      subst hd'
      simp [e1, valD]
    have l1 := lc
    simp only [List.map_cons, List.map_nil, e1, valD] at l1
    have j := joined_not m' (get_end1 S (.lst [.bl (wt (asm ws pts) f (asg ws pts))]))
    rw [F_kind_truth]
    refine scopeD_app (T := [.lst [.bl (wt (asm ws pts) f (asg ws pts))]]) ?_ rfl
    simp only [defD_eq, b_kind_truth]
    simp only [enc] at l1 ⊢
    simp only [r_wipe0, r_wipe1, List.set_cons_succ, List.set_cons_zero] at l1
    simp [idx0, eqS, in87 _ (show ks_6 ∈ heads by simp [heads]), in10 _ (show ks_6 ∈ heads by simp [heads]), ninTu _ (show ks_6 ∈ heads by simp [heads]), LINE, sl2, l1, j, wt]
  | and f g ih1 ih2 =>
    intro v n r S hp hq ws pts hn hf hr hr2 K
    obtain ⟨m, rfl⟩ : ∃ m, n = m + 1 := ⟨n - 1, by omega⟩
    simp only [wf, Bool.and_eq_true] at hf
    simp only [qr] at hr
    simp only [dep] at hn K
    obtain ⟨m', rfl⟩ : ∃ m', m = m' + 1 := ⟨m - 1, by omega⟩
    have e1 := ih1 v (m' + 1) r S hp hq ws pts (by omega) hf.1 (by omega) hr2 (K.le (by omega))
    have e2 := ih2 v (m' + 1) r S hp hq ws pts (by omega) hf.2 (by omega) hr2 (K.le (by omega))
    have lc := lc_map (walks_sq [enc f, enc g] S) (g := gNm 8) (f := fCall (chk 4 (F (m' + 1) .kind_truth)) (aCons (fVar 8) (aCons (fVar 1) (aCons (fVar 2) (aCons (fVar 3) aNil))))) (vs := [8]) (ρ := wipeD [Option.some (enc (.and f g)), Option.some (.int (r : Int)), Option.some (.ref hp), Option.some (.ref hq), Option.some (.str ks_5), none, none, none, none, none, none] [8]) (y := fun d => valD (F (m' + 1) .kind_truth [d, .int (r : Int), .ref hp, .ref hq] S)) (by simp [LINE]) fun d hd' => by
      refine ⟨[(8, d)], rfl, by simp, ?_⟩
      simp only [List.mem_cons, List.not_mem_nil, or_false] at hd'
      rcases hd' with rfl | rfl
      · simp [e1, valD]
      · simp [e2, valD]
    have l1 := lc
    simp only [List.map_cons, List.map_nil, e1, e2, valD] at l1
    have j := joined2 m' ks_5 (.inl rfl) (get_end1 S (.lst [.bl (wt (asm ws pts) f (asg ws pts)), .bl (wt (asm ws pts) g (asg ws pts))]))
    rw [F_kind_truth]
    refine scopeD_app (T := [.lst [.bl (wt (asm ws pts) f (asg ws pts)), .bl (wt (asm ws pts) g (asg ws pts))]]) ?_ rfl
    simp only [defD_eq, b_kind_truth]
    simp only [enc] at l1 ⊢
    simp only [r_wipe0, r_wipe1, List.set_cons_succ, List.set_cons_zero] at l1
    simp [idx0, eqS, in87 _ (show ks_5 ∈ heads by simp [heads]), in10 _ (show ks_5 ∈ heads by simp [heads]), ninTu _ (show ks_5 ∈ heads by simp [heads]), LINE, sl3, l1, j, wt]
  | or f g ih1 ih2 =>
    intro v n r S hp hq ws pts hn hf hr hr2 K
    obtain ⟨m, rfl⟩ : ∃ m, n = m + 1 := ⟨n - 1, by omega⟩
    simp only [wf, Bool.and_eq_true] at hf
    simp only [qr] at hr
    simp only [dep] at hn K
    obtain ⟨m', rfl⟩ : ∃ m', m = m' + 1 := ⟨m - 1, by omega⟩
    have e1 := ih1 v (m' + 1) r S hp hq ws pts (by omega) hf.1 (by omega) hr2 (K.le (by omega))
    have e2 := ih2 v (m' + 1) r S hp hq ws pts (by omega) hf.2 (by omega) hr2 (K.le (by omega))
    have lc := lc_map (walks_sq [enc f, enc g] S) (g := gNm 8) (f := fCall (chk 4 (F (m' + 1) .kind_truth)) (aCons (fVar 8) (aCons (fVar 1) (aCons (fVar 2) (aCons (fVar 3) aNil))))) (vs := [8]) (ρ := wipeD [Option.some (enc (.or f g)), Option.some (.int (r : Int)), Option.some (.ref hp), Option.some (.ref hq), Option.some (.str ks_4), none, none, none, none, none, none] [8]) (y := fun d => valD (F (m' + 1) .kind_truth [d, .int (r : Int), .ref hp, .ref hq] S)) (by simp [LINE]) fun d hd' => by
      refine ⟨[(8, d)], rfl, by simp, ?_⟩
      simp only [List.mem_cons, List.not_mem_nil, or_false] at hd'
      rcases hd' with rfl | rfl
      · simp [e1, valD]
      · simp [e2, valD]
    have l1 := lc
    simp only [List.map_cons, List.map_nil, e1, e2, valD] at l1
    have j := joined2 m' ks_4 (.inr (.inl rfl)) (get_end1 S (.lst [.bl (wt (asm ws pts) f (asg ws pts)), .bl (wt (asm ws pts) g (asg ws pts))]))
    rw [F_kind_truth]
    refine scopeD_app (T := [.lst [.bl (wt (asm ws pts) f (asg ws pts)), .bl (wt (asm ws pts) g (asg ws pts))]]) ?_ rfl
    simp only [defD_eq, b_kind_truth]
    simp only [enc] at l1 ⊢
    simp only [r_wipe0, r_wipe1, List.set_cons_succ, List.set_cons_zero] at l1
    simp [idx0, eqS, in87 _ (show ks_4 ∈ heads by simp [heads]), in10 _ (show ks_4 ∈ heads by simp [heads]), ninTu _ (show ks_4 ∈ heads by simp [heads]), LINE, sl3, l1, j, wt]
  | imp f g ih1 ih2 =>
    intro v n r S hp hq ws pts hn hf hr hr2 K
    obtain ⟨m, rfl⟩ : ∃ m, n = m + 1 := ⟨n - 1, by omega⟩
    simp only [wf, Bool.and_eq_true] at hf
    simp only [qr] at hr
    simp only [dep] at hn K
    obtain ⟨m', rfl⟩ : ∃ m', m = m' + 1 := ⟨m - 1, by omega⟩
    have e1 := ih1 v (m' + 1) r S hp hq ws pts (by omega) hf.1 (by omega) hr2 (K.le (by omega))
    have e2 := ih2 v (m' + 1) r S hp hq ws pts (by omega) hf.2 (by omega) hr2 (K.le (by omega))
    have lc := lc_map (walks_sq [enc f, enc g] S) (g := gNm 8) (f := fCall (chk 4 (F (m' + 1) .kind_truth)) (aCons (fVar 8) (aCons (fVar 1) (aCons (fVar 2) (aCons (fVar 3) aNil))))) (vs := [8]) (ρ := wipeD [Option.some (enc (.imp f g)), Option.some (.int (r : Int)), Option.some (.ref hp), Option.some (.ref hq), Option.some (.str ks_3), none, none, none, none, none, none] [8]) (y := fun d => valD (F (m' + 1) .kind_truth [d, .int (r : Int), .ref hp, .ref hq] S)) (by simp [LINE]) fun d hd' => by
      refine ⟨[(8, d)], rfl, by simp, ?_⟩
      simp only [List.mem_cons, List.not_mem_nil, or_false] at hd'
      rcases hd' with rfl | rfl
      · simp [e1, valD]
      · simp [e2, valD]
    have l1 := lc
    simp only [List.map_cons, List.map_nil, e1, e2, valD] at l1
    have j := joined2 m' ks_3 (.inr (.inr rfl)) (get_end1 S (.lst [.bl (wt (asm ws pts) f (asg ws pts)), .bl (wt (asm ws pts) g (asg ws pts))]))
    rw [F_kind_truth]
    refine scopeD_app (T := [.lst [.bl (wt (asm ws pts) f (asg ws pts)), .bl (wt (asm ws pts) g (asg ws pts))]]) ?_ rfl
    simp only [defD_eq, b_kind_truth]
    simp only [enc] at l1 ⊢
    simp only [r_wipe0, r_wipe1, List.set_cons_succ, List.set_cons_zero] at l1
    simp [idx0, eqS, in87 _ (show ks_3 ∈ heads by simp [heads]), in10 _ (show ks_3 ∈ heads by simp [heads]), ninTu _ (show ks_3 ∈ heads by simp [heads]), LINE, sl3, l1, j, wt]
  | some x f ih =>
    intro v n r S hp hq ws pts hn hf hr hr2 K
    obtain ⟨m, rfl⟩ : ∃ m, n = m + 1 := ⟨n - 1, by omega⟩
    simp only [wf, Bool.and_eq_true] at hf
    simp only [qr] at hr
    simp only [dep] at hn K
    obtain ⟨m', rfl⟩ : ∃ m', m = m' + 3 := ⟨m - 3, by omega⟩
    obtain ⟨r', rfl⟩ : ∃ r', r = r' + 1 := ⟨r - 1, by omega⟩
    obtain ⟨h', T, items, bs, c1, c2, c3, c4, c5, c6, c7⟩ := quant (f := f) (m := m') (by omega) K hf.1 fun S hp hq ws pts K' => ih (x :: v) (m' + 3) r' S hp hq ws pts (by omega) hf.2 (by omega) (by omega) K'
    have hsub : ((r' + 1 : Nat) : Int) - 1 = (r' : Int) := by omega
    have l1 := lc_map (walks_lst c2) (g := gUn 2 (gsCons (gNm 9) (gsCons (gNm 10) gsNil))) (f := fCall (chk 4 (F (m' + 3) .kind_truth)) (aCons (fBin idxD (fVar 0) (fC (.int 2))) (aCons (fBin subD (fVar 1) (fC (.int 1))) (aCons (fVar 9) (aCons (fVar 10) aNil))))) (vs := [9, 10]) (ρ := wipeD [Option.some (enc (.some x f)), Option.some (.int ((r' + 1 : Nat) : Int)), Option.some (.ref hp), Option.some (.ref hq), Option.some (.str ks_9), none, none, none, none, none, none] [9, 10]) (y := yQ (m' + 3) f r' (S ++ T)) c3 fun d hd => by
      obtain ⟨a, c, ed, ev⟩ := c4 d hd
      refine ⟨[(9, .ref a), (10, .ref c)], by rw [ed]; simp, by simp, ?_⟩
      simp only [enc, r_wipe0, r_wipe1, r_ups0, r_ups1, List.set_cons_succ, List.set_cons_zero]
      simp only [r_call, r_cons, r_bin, r_var, r_c, List.getElem?_cons_succ, List.getElem?_cons_zero, Option.bind_some, Option.map_some, id, idx2, subI, hsub, r_nil]
      simp [ev]
    rw [c5] at l1
    have aa := any_at (S := S ++ T ++ [.lst (bs.map D.bl)]) (h := (S ++ T).length) (bs := bs) (get_end1 _ _)
    rw [F_kind_truth]
    refine scopeD_app (T := T ++ [.lst (bs.map D.bl)]) ?_ rfl
    have sq : seqS (.ref h') (S ++ T) = Option.some (lstSrc h' items.length, S ++ T) := by simp only [seqS, c2]
    simp only [defD_eq, b_kind_truth]
    simp only [enc] at l1 ⊢
    simp only [r_wipe0, r_wipe1, List.set_cons_succ, List.set_cons_zero] at l1
    simp only [List.append_assoc, List.length_append] at aa
    have c1' := c1
    rw [show ((r' + 1 : Nat) : Int) = (r' : Int) + 1 by omega] at c1' l1
    simp [idx0, idx1, eqS, in87 _ (show ks_9 ∈ heads by simp [heads]), in10 _ (show ks_9 ∈ heads by simp [heads]), ninTu _ (show ks_9 ∈ heads by simp [heads]), LINE, c1', sq, l1, aa, wt, c6, c7]
  | every x f ih =>
    intro v n r S hp hq ws pts hn hf hr hr2 K
    obtain ⟨m, rfl⟩ : ∃ m, n = m + 1 := ⟨n - 1, by omega⟩
    simp only [wf, Bool.and_eq_true] at hf
    simp only [qr] at hr
    simp only [dep] at hn K
    obtain ⟨m', rfl⟩ : ∃ m', m = m' + 3 := ⟨m - 3, by omega⟩
    obtain ⟨r', rfl⟩ : ∃ r', r = r' + 1 := ⟨r - 1, by omega⟩
    obtain ⟨h', T, items, bs, c1, c2, c3, c4, c5, c6, c7⟩ := quant (f := f) (m := m') (by omega) K hf.1 fun S hp hq ws pts K' => ih (x :: v) (m' + 3) r' S hp hq ws pts (by omega) hf.2 (by omega) (by omega) K'
    have hsub : ((r' + 1 : Nat) : Int) - 1 = (r' : Int) := by omega
    have l1 := lc_map (walks_lst c2) (g := gUn 2 (gsCons (gNm 9) (gsCons (gNm 10) gsNil))) (f := fCall (chk 4 (F (m' + 3) .kind_truth)) (aCons (fBin idxD (fVar 0) (fC (.int 2))) (aCons (fBin subD (fVar 1) (fC (.int 1))) (aCons (fVar 9) (aCons (fVar 10) aNil))))) (vs := [9, 10]) (ρ := wipeD [Option.some (enc (.every x f)), Option.some (.int ((r' + 1 : Nat) : Int)), Option.some (.ref hp), Option.some (.ref hq), Option.some (.str ks_13), none, none, none, none, none, none] [9, 10]) (y := yQ (m' + 3) f r' (S ++ T)) c3 fun d hd => by
      obtain ⟨a, c, ed, ev⟩ := c4 d hd
      refine ⟨[(9, .ref a), (10, .ref c)], by rw [ed]; simp, by simp, ?_⟩
      simp only [enc, r_wipe0, r_wipe1, r_ups0, r_ups1, List.set_cons_succ, List.set_cons_zero]
      simp only [r_call, r_cons, r_bin, r_var, r_c, List.getElem?_cons_succ, List.getElem?_cons_zero, Option.bind_some, Option.map_some, id, idx2, subI, hsub, r_nil]
      simp [ev]
    rw [c5] at l1
    have aa := all_at (S := S ++ T ++ [.lst (bs.map D.bl)]) (h := (S ++ T).length) (bs := bs) (get_end1 _ _)
    rw [F_kind_truth]
    refine scopeD_app (T := T ++ [.lst (bs.map D.bl)]) ?_ rfl
    have sq : seqS (.ref h') (S ++ T) = Option.some (lstSrc h' items.length, S ++ T) := by simp only [seqS, c2]
    simp only [defD_eq, b_kind_truth]
    simp only [enc] at l1 ⊢
    simp only [r_wipe0, r_wipe1, List.set_cons_succ, List.set_cons_zero] at l1
    simp only [List.append_assoc, List.length_append] at aa
    have c1' := c1
    rw [show ((r' + 1 : Nat) : Int) = (r' : Int) + 1 by omega] at c1' l1
    simp [idx0, idx1, eqS, in87 _ (show ks_13 ∈ heads by simp [heads]), in10 _ (show ks_13 ∈ heads by simp [heads]), ninTu _ (show ks_13 ∈ heads by simp [heads]), LINE, c1', sq, l1, aa, wt, c6, c7]
end K39

set_option Elab.async false
set_option linter.all false
set_option maxRecDepth 100000
set_option maxHeartbeats 4000000
/-! K39re: the sentences of the law -/
namespace K39
open PySem PySem.Spec L2 DL
open PyProof.Rows hiding St
def s1 (c : Bool) : Fm := .some ks_16 (.colour c ks_16)
def s2 (c d : Bool) : Fm := .every ks_16 (.imp (.colour c ks_16) (.some ks_17 (.and (.before ks_16 ks_17) (.colour d ks_17))))
def s3 (c : Bool) : Fm := .some ks_16 (.and (.colour c ks_16) (.every ks_17 (.or (.same ks_16 ks_17) (.before ks_16 ks_17))))
def s4 (d : Bool) : Fm := .some ks_16 (.some ks_17 (.and (.before ks_16 ks_17) (.colour d ks_16)))
def s5 (d : Bool) : Fm := .every ks_16 (.every ks_17 (.imp (.before ks_16 ks_17) (.colour d ks_17)))
def s6 (c : Bool) : Fm := .and (s1 c) (.not (s3 c))
theorem F_check_of (k : Nat) : F (k + 1) .check_order_formula = pureD (defD 6 (b_check_order_formula (F k))) := rfl
theorem F_rounds (k : Nat) : F (k + 1) .rounds_of = pureD (defD 3 (b_rounds_of (F k))) := rfl
theorem F_lrounds (k : Nat) : F (k + 1) ._law_rounds = pureD (defD 3 (b__law_rounds (F k))) := rfl
theorem F_holds_w (k : Nat) : F (k + 1) .holds_of_word = pureD (defD 2 (b_holds_of_word (F k))) := rfl
theorem F_holds_k (k : Nat) : F (k + 1) .holds_of_kind = pureD (defD 3 (b_holds_of_kind (F k))) := rfl
structure OkF (φ : Fm) : Prop where
  chk : ∀ k S, F (k + 9) .check_order_formula [enc φ, .tup []] S = Option.some (.non, S)
  rnd : ∀ k S, F (k + 9) .rounds_of [enc φ] S = Option.some (.int (qr φ : Int), S)
  wf : wf φ [] = true
  dep : dep φ ≤ 8
  fr : free (enc φ) = true
theorem ok_s1_f : OkF (s1 false) := by
  refine ⟨fun k S => ?_, fun k S => ?_, by decide +kernel, by decide +kernel, by kernel_rfl⟩
  · obtain ⟨T, h⟩ := of_fst (o := defD 6 (b_check_order_formula (F (k + 8))) [enc (s1 false), .tup []] []) (d := .non) (by kernel_rfl)
    exact pureD_of S h (by kernel_rfl) rfl
  · obtain ⟨T, h⟩ := of_fst (o := defD 3 (b_rounds_of (F (k + 8))) [enc (s1 false)] []) (d := .int (qr (s1 false) : Int)) (by kernel_rfl)
    exact pureD_of S h (by kernel_rfl) rfl
theorem ok_s1_t : OkF (s1 true) := by
  refine ⟨fun k S => ?_, fun k S => ?_, by decide +kernel, by decide +kernel, by kernel_rfl⟩
  · obtain ⟨T, h⟩ := of_fst (o := defD 6 (b_check_order_formula (F (k + 8))) [enc (s1 true), .tup []] []) (d := .non) (by kernel_rfl)
    exact pureD_of S h (by kernel_rfl) rfl
  · obtain ⟨T, h⟩ := of_fst (o := defD 3 (b_rounds_of (F (k + 8))) [enc (s1 true)] []) (d := .int (qr (s1 true) : Int)) (by kernel_rfl)
    exact pureD_of S h (by kernel_rfl) rfl
theorem ok_s1 : ∀ (c : Bool), OkF (s1 c)
  | false => ok_s1_f
  | true => ok_s1_t
theorem okn_s1_f : OkF (.not (s1 false)) := by
  refine ⟨fun k S => ?_, fun k S => ?_, by decide +kernel, by decide +kernel, by kernel_rfl⟩
  · obtain ⟨T, h⟩ := of_fst (o := defD 6 (b_check_order_formula (F (k + 8))) [enc (.not (s1 false)), .tup []] []) (d := .non) (by kernel_rfl)
    exact pureD_of S h (by kernel_rfl) rfl
  · obtain ⟨T, h⟩ := of_fst (o := defD 3 (b_rounds_of (F (k + 8))) [enc (.not (s1 false))] []) (d := .int (qr (.not (s1 false)) : Int)) (by kernel_rfl)
    exact pureD_of S h (by kernel_rfl) rfl
theorem okn_s1_t : OkF (.not (s1 true)) := by
  refine ⟨fun k S => ?_, fun k S => ?_, by decide +kernel, by decide +kernel, by kernel_rfl⟩
  · obtain ⟨T, h⟩ := of_fst (o := defD 6 (b_check_order_formula (F (k + 8))) [enc (.not (s1 true)), .tup []] []) (d := .non) (by kernel_rfl)
    exact pureD_of S h (by kernel_rfl) rfl
  · obtain ⟨T, h⟩ := of_fst (o := defD 3 (b_rounds_of (F (k + 8))) [enc (.not (s1 true))] []) (d := .int (qr (.not (s1 true)) : Int)) (by kernel_rfl)
    exact pureD_of S h (by kernel_rfl) rfl
theorem okn_s1 : ∀ (c : Bool), OkF (.not (s1 c))
  | false => okn_s1_f
  | true => okn_s1_t
theorem ok_s2_ff : OkF (s2 false false) := by
  refine ⟨fun k S => ?_, fun k S => ?_, by decide +kernel, by decide +kernel, by kernel_rfl⟩
  · obtain ⟨T, h⟩ := of_fst (o := defD 6 (b_check_order_formula (F (k + 8))) [enc (s2 false false), .tup []] []) (d := .non) (by kernel_rfl)
    exact pureD_of S h (by kernel_rfl) rfl
  · obtain ⟨T, h⟩ := of_fst (o := defD 3 (b_rounds_of (F (k + 8))) [enc (s2 false false)] []) (d := .int (qr (s2 false false) : Int)) (by kernel_rfl)
    exact pureD_of S h (by kernel_rfl) rfl
theorem ok_s2_ft : OkF (s2 false true) := by
  refine ⟨fun k S => ?_, fun k S => ?_, by decide +kernel, by decide +kernel, by kernel_rfl⟩
  · obtain ⟨T, h⟩ := of_fst (o := defD 6 (b_check_order_formula (F (k + 8))) [enc (s2 false true), .tup []] []) (d := .non) (by kernel_rfl)
    exact pureD_of S h (by kernel_rfl) rfl
  · obtain ⟨T, h⟩ := of_fst (o := defD 3 (b_rounds_of (F (k + 8))) [enc (s2 false true)] []) (d := .int (qr (s2 false true) : Int)) (by kernel_rfl)
    exact pureD_of S h (by kernel_rfl) rfl
theorem ok_s2_tf : OkF (s2 true false) := by
  refine ⟨fun k S => ?_, fun k S => ?_, by decide +kernel, by decide +kernel, by kernel_rfl⟩
  · obtain ⟨T, h⟩ := of_fst (o := defD 6 (b_check_order_formula (F (k + 8))) [enc (s2 true false), .tup []] []) (d := .non) (by kernel_rfl)
    exact pureD_of S h (by kernel_rfl) rfl
  · obtain ⟨T, h⟩ := of_fst (o := defD 3 (b_rounds_of (F (k + 8))) [enc (s2 true false)] []) (d := .int (qr (s2 true false) : Int)) (by kernel_rfl)
    exact pureD_of S h (by kernel_rfl) rfl
theorem ok_s2_tt : OkF (s2 true true) := by
  refine ⟨fun k S => ?_, fun k S => ?_, by decide +kernel, by decide +kernel, by kernel_rfl⟩
  · obtain ⟨T, h⟩ := of_fst (o := defD 6 (b_check_order_formula (F (k + 8))) [enc (s2 true true), .tup []] []) (d := .non) (by kernel_rfl)
    exact pureD_of S h (by kernel_rfl) rfl
  · obtain ⟨T, h⟩ := of_fst (o := defD 3 (b_rounds_of (F (k + 8))) [enc (s2 true true)] []) (d := .int (qr (s2 true true) : Int)) (by kernel_rfl)
    exact pureD_of S h (by kernel_rfl) rfl
theorem ok_s2 : ∀ (c : Bool) (d : Bool), OkF (s2 c d)
  | false, false => ok_s2_ff
  | false, true => ok_s2_ft
  | true, false => ok_s2_tf
  | true, true => ok_s2_tt
theorem okn_s2_ff : OkF (.not (s2 false false)) := by
  refine ⟨fun k S => ?_, fun k S => ?_, by decide +kernel, by decide +kernel, by kernel_rfl⟩
  · obtain ⟨T, h⟩ := of_fst (o := defD 6 (b_check_order_formula (F (k + 8))) [enc (.not (s2 false false)), .tup []] []) (d := .non) (by kernel_rfl)
    exact pureD_of S h (by kernel_rfl) rfl
  · obtain ⟨T, h⟩ := of_fst (o := defD 3 (b_rounds_of (F (k + 8))) [enc (.not (s2 false false))] []) (d := .int (qr (.not (s2 false false)) : Int)) (by kernel_rfl)
    exact pureD_of S h (by kernel_rfl) rfl
theorem okn_s2_ft : OkF (.not (s2 false true)) := by
  refine ⟨fun k S => ?_, fun k S => ?_, by decide +kernel, by decide +kernel, by kernel_rfl⟩
  · obtain ⟨T, h⟩ := of_fst (o := defD 6 (b_check_order_formula (F (k + 8))) [enc (.not (s2 false true)), .tup []] []) (d := .non) (by kernel_rfl)
    exact pureD_of S h (by kernel_rfl) rfl
  · obtain ⟨T, h⟩ := of_fst (o := defD 3 (b_rounds_of (F (k + 8))) [enc (.not (s2 false true))] []) (d := .int (qr (.not (s2 false true)) : Int)) (by kernel_rfl)
    exact pureD_of S h (by kernel_rfl) rfl
theorem okn_s2_tf : OkF (.not (s2 true false)) := by
  refine ⟨fun k S => ?_, fun k S => ?_, by decide +kernel, by decide +kernel, by kernel_rfl⟩
  · obtain ⟨T, h⟩ := of_fst (o := defD 6 (b_check_order_formula (F (k + 8))) [enc (.not (s2 true false)), .tup []] []) (d := .non) (by kernel_rfl)
    exact pureD_of S h (by kernel_rfl) rfl
  · obtain ⟨T, h⟩ := of_fst (o := defD 3 (b_rounds_of (F (k + 8))) [enc (.not (s2 true false))] []) (d := .int (qr (.not (s2 true false)) : Int)) (by kernel_rfl)
    exact pureD_of S h (by kernel_rfl) rfl
theorem okn_s2_tt : OkF (.not (s2 true true)) := by
  refine ⟨fun k S => ?_, fun k S => ?_, by decide +kernel, by decide +kernel, by kernel_rfl⟩
  · obtain ⟨T, h⟩ := of_fst (o := defD 6 (b_check_order_formula (F (k + 8))) [enc (.not (s2 true true)), .tup []] []) (d := .non) (by kernel_rfl)
    exact pureD_of S h (by kernel_rfl) rfl
  · obtain ⟨T, h⟩ := of_fst (o := defD 3 (b_rounds_of (F (k + 8))) [enc (.not (s2 true true))] []) (d := .int (qr (.not (s2 true true)) : Int)) (by kernel_rfl)
    exact pureD_of S h (by kernel_rfl) rfl
theorem okn_s2 : ∀ (c : Bool) (d : Bool), OkF (.not (s2 c d))
  | false, false => okn_s2_ff
  | false, true => okn_s2_ft
  | true, false => okn_s2_tf
  | true, true => okn_s2_tt
theorem ok_s3_f : OkF (s3 false) := by
  refine ⟨fun k S => ?_, fun k S => ?_, by decide +kernel, by decide +kernel, by kernel_rfl⟩
  · obtain ⟨T, h⟩ := of_fst (o := defD 6 (b_check_order_formula (F (k + 8))) [enc (s3 false), .tup []] []) (d := .non) (by kernel_rfl)
    exact pureD_of S h (by kernel_rfl) rfl
  · obtain ⟨T, h⟩ := of_fst (o := defD 3 (b_rounds_of (F (k + 8))) [enc (s3 false)] []) (d := .int (qr (s3 false) : Int)) (by kernel_rfl)
    exact pureD_of S h (by kernel_rfl) rfl
theorem ok_s3_t : OkF (s3 true) := by
  refine ⟨fun k S => ?_, fun k S => ?_, by decide +kernel, by decide +kernel, by kernel_rfl⟩
  · obtain ⟨T, h⟩ := of_fst (o := defD 6 (b_check_order_formula (F (k + 8))) [enc (s3 true), .tup []] []) (d := .non) (by kernel_rfl)
    exact pureD_of S h (by kernel_rfl) rfl
  · obtain ⟨T, h⟩ := of_fst (o := defD 3 (b_rounds_of (F (k + 8))) [enc (s3 true)] []) (d := .int (qr (s3 true) : Int)) (by kernel_rfl)
    exact pureD_of S h (by kernel_rfl) rfl
theorem ok_s3 : ∀ (c : Bool), OkF (s3 c)
  | false => ok_s3_f
  | true => ok_s3_t
theorem okn_s3_f : OkF (.not (s3 false)) := by
  refine ⟨fun k S => ?_, fun k S => ?_, by decide +kernel, by decide +kernel, by kernel_rfl⟩
  · obtain ⟨T, h⟩ := of_fst (o := defD 6 (b_check_order_formula (F (k + 8))) [enc (.not (s3 false)), .tup []] []) (d := .non) (by kernel_rfl)
    exact pureD_of S h (by kernel_rfl) rfl
  · obtain ⟨T, h⟩ := of_fst (o := defD 3 (b_rounds_of (F (k + 8))) [enc (.not (s3 false))] []) (d := .int (qr (.not (s3 false)) : Int)) (by kernel_rfl)
    exact pureD_of S h (by kernel_rfl) rfl
theorem okn_s3_t : OkF (.not (s3 true)) := by
  refine ⟨fun k S => ?_, fun k S => ?_, by decide +kernel, by decide +kernel, by kernel_rfl⟩
  · obtain ⟨T, h⟩ := of_fst (o := defD 6 (b_check_order_formula (F (k + 8))) [enc (.not (s3 true)), .tup []] []) (d := .non) (by kernel_rfl)
    exact pureD_of S h (by kernel_rfl) rfl
  · obtain ⟨T, h⟩ := of_fst (o := defD 3 (b_rounds_of (F (k + 8))) [enc (.not (s3 true))] []) (d := .int (qr (.not (s3 true)) : Int)) (by kernel_rfl)
    exact pureD_of S h (by kernel_rfl) rfl
theorem okn_s3 : ∀ (c : Bool), OkF (.not (s3 c))
  | false => okn_s3_f
  | true => okn_s3_t
theorem ok_s4_f : OkF (s4 false) := by
  refine ⟨fun k S => ?_, fun k S => ?_, by decide +kernel, by decide +kernel, by kernel_rfl⟩
  · obtain ⟨T, h⟩ := of_fst (o := defD 6 (b_check_order_formula (F (k + 8))) [enc (s4 false), .tup []] []) (d := .non) (by kernel_rfl)
    exact pureD_of S h (by kernel_rfl) rfl
  · obtain ⟨T, h⟩ := of_fst (o := defD 3 (b_rounds_of (F (k + 8))) [enc (s4 false)] []) (d := .int (qr (s4 false) : Int)) (by kernel_rfl)
    exact pureD_of S h (by kernel_rfl) rfl
theorem ok_s4_t : OkF (s4 true) := by
  refine ⟨fun k S => ?_, fun k S => ?_, by decide +kernel, by decide +kernel, by kernel_rfl⟩
  · obtain ⟨T, h⟩ := of_fst (o := defD 6 (b_check_order_formula (F (k + 8))) [enc (s4 true), .tup []] []) (d := .non) (by kernel_rfl)
    exact pureD_of S h (by kernel_rfl) rfl
  · obtain ⟨T, h⟩ := of_fst (o := defD 3 (b_rounds_of (F (k + 8))) [enc (s4 true)] []) (d := .int (qr (s4 true) : Int)) (by kernel_rfl)
    exact pureD_of S h (by kernel_rfl) rfl
theorem ok_s4 : ∀ (d : Bool), OkF (s4 d)
  | false => ok_s4_f
  | true => ok_s4_t
theorem okn_s4_f : OkF (.not (s4 false)) := by
  refine ⟨fun k S => ?_, fun k S => ?_, by decide +kernel, by decide +kernel, by kernel_rfl⟩
  · obtain ⟨T, h⟩ := of_fst (o := defD 6 (b_check_order_formula (F (k + 8))) [enc (.not (s4 false)), .tup []] []) (d := .non) (by kernel_rfl)
    exact pureD_of S h (by kernel_rfl) rfl
  · obtain ⟨T, h⟩ := of_fst (o := defD 3 (b_rounds_of (F (k + 8))) [enc (.not (s4 false))] []) (d := .int (qr (.not (s4 false)) : Int)) (by kernel_rfl)
    exact pureD_of S h (by kernel_rfl) rfl
theorem okn_s4_t : OkF (.not (s4 true)) := by
  refine ⟨fun k S => ?_, fun k S => ?_, by decide +kernel, by decide +kernel, by kernel_rfl⟩
  · obtain ⟨T, h⟩ := of_fst (o := defD 6 (b_check_order_formula (F (k + 8))) [enc (.not (s4 true)), .tup []] []) (d := .non) (by kernel_rfl)
    exact pureD_of S h (by kernel_rfl) rfl
  · obtain ⟨T, h⟩ := of_fst (o := defD 3 (b_rounds_of (F (k + 8))) [enc (.not (s4 true))] []) (d := .int (qr (.not (s4 true)) : Int)) (by kernel_rfl)
    exact pureD_of S h (by kernel_rfl) rfl
theorem okn_s4 : ∀ (d : Bool), OkF (.not (s4 d))
  | false => okn_s4_f
  | true => okn_s4_t
theorem ok_s5_f : OkF (s5 false) := by
  refine ⟨fun k S => ?_, fun k S => ?_, by decide +kernel, by decide +kernel, by kernel_rfl⟩
  · obtain ⟨T, h⟩ := of_fst (o := defD 6 (b_check_order_formula (F (k + 8))) [enc (s5 false), .tup []] []) (d := .non) (by kernel_rfl)
    exact pureD_of S h (by kernel_rfl) rfl
  · obtain ⟨T, h⟩ := of_fst (o := defD 3 (b_rounds_of (F (k + 8))) [enc (s5 false)] []) (d := .int (qr (s5 false) : Int)) (by kernel_rfl)
    exact pureD_of S h (by kernel_rfl) rfl
theorem ok_s5_t : OkF (s5 true) := by
  refine ⟨fun k S => ?_, fun k S => ?_, by decide +kernel, by decide +kernel, by kernel_rfl⟩
  · obtain ⟨T, h⟩ := of_fst (o := defD 6 (b_check_order_formula (F (k + 8))) [enc (s5 true), .tup []] []) (d := .non) (by kernel_rfl)
    exact pureD_of S h (by kernel_rfl) rfl
  · obtain ⟨T, h⟩ := of_fst (o := defD 3 (b_rounds_of (F (k + 8))) [enc (s5 true)] []) (d := .int (qr (s5 true) : Int)) (by kernel_rfl)
    exact pureD_of S h (by kernel_rfl) rfl
theorem ok_s5 : ∀ (d : Bool), OkF (s5 d)
  | false => ok_s5_f
  | true => ok_s5_t
theorem okn_s5_f : OkF (.not (s5 false)) := by
  refine ⟨fun k S => ?_, fun k S => ?_, by decide +kernel, by decide +kernel, by kernel_rfl⟩
  · obtain ⟨T, h⟩ := of_fst (o := defD 6 (b_check_order_formula (F (k + 8))) [enc (.not (s5 false)), .tup []] []) (d := .non) (by kernel_rfl)
    exact pureD_of S h (by kernel_rfl) rfl
  · obtain ⟨T, h⟩ := of_fst (o := defD 3 (b_rounds_of (F (k + 8))) [enc (.not (s5 false))] []) (d := .int (qr (.not (s5 false)) : Int)) (by kernel_rfl)
    exact pureD_of S h (by kernel_rfl) rfl
theorem okn_s5_t : OkF (.not (s5 true)) := by
  refine ⟨fun k S => ?_, fun k S => ?_, by decide +kernel, by decide +kernel, by kernel_rfl⟩
  · obtain ⟨T, h⟩ := of_fst (o := defD 6 (b_check_order_formula (F (k + 8))) [enc (.not (s5 true)), .tup []] []) (d := .non) (by kernel_rfl)
    exact pureD_of S h (by kernel_rfl) rfl
  · obtain ⟨T, h⟩ := of_fst (o := defD 3 (b_rounds_of (F (k + 8))) [enc (.not (s5 true))] []) (d := .int (qr (.not (s5 true)) : Int)) (by kernel_rfl)
    exact pureD_of S h (by kernel_rfl) rfl
theorem okn_s5 : ∀ (d : Bool), OkF (.not (s5 d))
  | false => okn_s5_f
  | true => okn_s5_t
theorem ok_s6_f : OkF (s6 false) := by
  refine ⟨fun k S => ?_, fun k S => ?_, by decide +kernel, by decide +kernel, by kernel_rfl⟩
  · obtain ⟨T, h⟩ := of_fst (o := defD 6 (b_check_order_formula (F (k + 8))) [enc (s6 false), .tup []] []) (d := .non) (by kernel_rfl)
    exact pureD_of S h (by kernel_rfl) rfl
  · obtain ⟨T, h⟩ := of_fst (o := defD 3 (b_rounds_of (F (k + 8))) [enc (s6 false)] []) (d := .int (qr (s6 false) : Int)) (by kernel_rfl)
    exact pureD_of S h (by kernel_rfl) rfl
theorem ok_s6_t : OkF (s6 true) := by
  refine ⟨fun k S => ?_, fun k S => ?_, by decide +kernel, by decide +kernel, by kernel_rfl⟩
  · obtain ⟨T, h⟩ := of_fst (o := defD 6 (b_check_order_formula (F (k + 8))) [enc (s6 true), .tup []] []) (d := .non) (by kernel_rfl)
    exact pureD_of S h (by kernel_rfl) rfl
  · obtain ⟨T, h⟩ := of_fst (o := defD 3 (b_rounds_of (F (k + 8))) [enc (s6 true)] []) (d := .int (qr (s6 true) : Int)) (by kernel_rfl)
    exact pureD_of S h (by kernel_rfl) rfl
theorem ok_s6 : ∀ (c : Bool), OkF (s6 c)
  | false => ok_s6_f
  | true => ok_s6_t
theorem okn_s6_f : OkF (.not (s6 false)) := by
  refine ⟨fun k S => ?_, fun k S => ?_, by decide +kernel, by decide +kernel, by kernel_rfl⟩
  · obtain ⟨T, h⟩ := of_fst (o := defD 6 (b_check_order_formula (F (k + 8))) [enc (.not (s6 false)), .tup []] []) (d := .non) (by kernel_rfl)
    exact pureD_of S h (by kernel_rfl) rfl
  · obtain ⟨T, h⟩ := of_fst (o := defD 3 (b_rounds_of (F (k + 8))) [enc (.not (s6 false))] []) (d := .int (qr (.not (s6 false)) : Int)) (by kernel_rfl)
    exact pureD_of S h (by kernel_rfl) rfl
theorem okn_s6_t : OkF (.not (s6 true)) := by
  refine ⟨fun k S => ?_, fun k S => ?_, by decide +kernel, by decide +kernel, by kernel_rfl⟩
  · obtain ⟨T, h⟩ := of_fst (o := defD 6 (b_check_order_formula (F (k + 8))) [enc (.not (s6 true)), .tup []] []) (d := .non) (by kernel_rfl)
    exact pureD_of S h (by kernel_rfl) rfl
  · obtain ⟨T, h⟩ := of_fst (o := defD 3 (b_rounds_of (F (k + 8))) [enc (.not (s6 true))] []) (d := .int (qr (.not (s6 true)) : Int)) (by kernel_rfl)
    exact pureD_of S h (by kernel_rfl) rfl
theorem okn_s6 : ∀ (c : Bool), OkF (.not (s6 c))
  | false => okn_s6_f
  | true => okn_s6_t
theorem lr_s1_f (k : Nat) (S : Sto) : F (k + 9) ._law_rounds [enc (s1 false)] S = Option.some (.int (qr (s1 false) : Int), S) := by
  obtain ⟨T, h⟩ := of_fst (o := defD 3 (b__law_rounds (F (k + 8))) [enc (s1 false)] []) (d := .int (qr (s1 false) : Int)) (by kernel_rfl)
  exact pureD_of S h (by kernel_rfl) rfl
theorem lr_s1_t (k : Nat) (S : Sto) : F (k + 9) ._law_rounds [enc (s1 true)] S = Option.some (.int (qr (s1 true) : Int), S) := by
  obtain ⟨T, h⟩ := of_fst (o := defD 3 (b__law_rounds (F (k + 8))) [enc (s1 true)] []) (d := .int (qr (s1 true) : Int)) (by kernel_rfl)
  exact pureD_of S h (by kernel_rfl) rfl
theorem lr_s1 (k : Nat) (S : Sto) : ∀ (c : Bool), F (k + 9) ._law_rounds [enc (s1 c)] S = Option.some (.int (qr (s1 c) : Int), S)
  | false => lr_s1_f k S
  | true => lr_s1_t k S
theorem lr_s2_ff (k : Nat) (S : Sto) : F (k + 9) ._law_rounds [enc (s2 false false)] S = Option.some (.int (qr (s2 false false) : Int), S) := by
  obtain ⟨T, h⟩ := of_fst (o := defD 3 (b__law_rounds (F (k + 8))) [enc (s2 false false)] []) (d := .int (qr (s2 false false) : Int)) (by kernel_rfl)
  exact pureD_of S h (by kernel_rfl) rfl
theorem lr_s2_ft (k : Nat) (S : Sto) : F (k + 9) ._law_rounds [enc (s2 false true)] S = Option.some (.int (qr (s2 false true) : Int), S) := by
  obtain ⟨T, h⟩ := of_fst (o := defD 3 (b__law_rounds (F (k + 8))) [enc (s2 false true)] []) (d := .int (qr (s2 false true) : Int)) (by kernel_rfl)
  exact pureD_of S h (by kernel_rfl) rfl
theorem lr_s2_tf (k : Nat) (S : Sto) : F (k + 9) ._law_rounds [enc (s2 true false)] S = Option.some (.int (qr (s2 true false) : Int), S) := by
  obtain ⟨T, h⟩ := of_fst (o := defD 3 (b__law_rounds (F (k + 8))) [enc (s2 true false)] []) (d := .int (qr (s2 true false) : Int)) (by kernel_rfl)
  exact pureD_of S h (by kernel_rfl) rfl
theorem lr_s2_tt (k : Nat) (S : Sto) : F (k + 9) ._law_rounds [enc (s2 true true)] S = Option.some (.int (qr (s2 true true) : Int), S) := by
  obtain ⟨T, h⟩ := of_fst (o := defD 3 (b__law_rounds (F (k + 8))) [enc (s2 true true)] []) (d := .int (qr (s2 true true) : Int)) (by kernel_rfl)
  exact pureD_of S h (by kernel_rfl) rfl
theorem lr_s2 (k : Nat) (S : Sto) : ∀ (c : Bool) (d : Bool), F (k + 9) ._law_rounds [enc (s2 c d)] S = Option.some (.int (qr (s2 c d) : Int), S)
  | false, false => lr_s2_ff k S
  | false, true => lr_s2_ft k S
  | true, false => lr_s2_tf k S
  | true, true => lr_s2_tt k S
theorem lr_s3_f (k : Nat) (S : Sto) : F (k + 9) ._law_rounds [enc (s3 false)] S = Option.some (.int (qr (s3 false) : Int), S) := by
  obtain ⟨T, h⟩ := of_fst (o := defD 3 (b__law_rounds (F (k + 8))) [enc (s3 false)] []) (d := .int (qr (s3 false) : Int)) (by kernel_rfl)
  exact pureD_of S h (by kernel_rfl) rfl
theorem lr_s3_t (k : Nat) (S : Sto) : F (k + 9) ._law_rounds [enc (s3 true)] S = Option.some (.int (qr (s3 true) : Int), S) := by
  obtain ⟨T, h⟩ := of_fst (o := defD 3 (b__law_rounds (F (k + 8))) [enc (s3 true)] []) (d := .int (qr (s3 true) : Int)) (by kernel_rfl)
  exact pureD_of S h (by kernel_rfl) rfl
theorem lr_s3 (k : Nat) (S : Sto) : ∀ (c : Bool), F (k + 9) ._law_rounds [enc (s3 c)] S = Option.some (.int (qr (s3 c) : Int), S)
  | false => lr_s3_f k S
  | true => lr_s3_t k S
theorem lr_s4_f (k : Nat) (S : Sto) : F (k + 9) ._law_rounds [enc (s4 false)] S = Option.some (.int (qr (s4 false) : Int), S) := by
  obtain ⟨T, h⟩ := of_fst (o := defD 3 (b__law_rounds (F (k + 8))) [enc (s4 false)] []) (d := .int (qr (s4 false) : Int)) (by kernel_rfl)
  exact pureD_of S h (by kernel_rfl) rfl
theorem lr_s4_t (k : Nat) (S : Sto) : F (k + 9) ._law_rounds [enc (s4 true)] S = Option.some (.int (qr (s4 true) : Int), S) := by
  obtain ⟨T, h⟩ := of_fst (o := defD 3 (b__law_rounds (F (k + 8))) [enc (s4 true)] []) (d := .int (qr (s4 true) : Int)) (by kernel_rfl)
  exact pureD_of S h (by kernel_rfl) rfl
theorem lr_s4 (k : Nat) (S : Sto) : ∀ (d : Bool), F (k + 9) ._law_rounds [enc (s4 d)] S = Option.some (.int (qr (s4 d) : Int), S)
  | false => lr_s4_f k S
  | true => lr_s4_t k S
theorem lr_s5_f (k : Nat) (S : Sto) : F (k + 9) ._law_rounds [enc (s5 false)] S = Option.some (.int (qr (s5 false) : Int), S) := by
  obtain ⟨T, h⟩ := of_fst (o := defD 3 (b__law_rounds (F (k + 8))) [enc (s5 false)] []) (d := .int (qr (s5 false) : Int)) (by kernel_rfl)
  exact pureD_of S h (by kernel_rfl) rfl
theorem lr_s5_t (k : Nat) (S : Sto) : F (k + 9) ._law_rounds [enc (s5 true)] S = Option.some (.int (qr (s5 true) : Int), S) := by
  obtain ⟨T, h⟩ := of_fst (o := defD 3 (b__law_rounds (F (k + 8))) [enc (s5 true)] []) (d := .int (qr (s5 true) : Int)) (by kernel_rfl)
  exact pureD_of S h (by kernel_rfl) rfl
theorem lr_s5 (k : Nat) (S : Sto) : ∀ (d : Bool), F (k + 9) ._law_rounds [enc (s5 d)] S = Option.some (.int (qr (s5 d) : Int), S)
  | false => lr_s5_f k S
  | true => lr_s5_t k S
theorem lr_s6_f (k : Nat) (S : Sto) : F (k + 9) ._law_rounds [enc (s6 false)] S = Option.some (.int (qr (s6 false) : Int), S) := by
  obtain ⟨T, h⟩ := of_fst (o := defD 3 (b__law_rounds (F (k + 8))) [enc (s6 false)] []) (d := .int (qr (s6 false) : Int)) (by kernel_rfl)
  exact pureD_of S h (by kernel_rfl) rfl
theorem lr_s6_t (k : Nat) (S : Sto) : F (k + 9) ._law_rounds [enc (s6 true)] S = Option.some (.int (qr (s6 true) : Int), S) := by
  obtain ⟨T, h⟩ := of_fst (o := defD 3 (b__law_rounds (F (k + 8))) [enc (s6 true)] []) (d := .int (qr (s6 true) : Int)) (by kernel_rfl)
  exact pureD_of S h (by kernel_rfl) rfl
theorem lr_s6 (k : Nat) (S : Sto) : ∀ (c : Bool), F (k + 9) ._law_rounds [enc (s6 c)] S = Option.some (.int (qr (s6 c) : Int), S)
  | false => lr_s6_f k S
  | true => lr_s6_t k S
theorem holds_word_ok (k : Nat) {W : List Bool} (hW : W.length ≤ 12) {φ : Fm} (o : OkF φ) (S : Sto) : F (k + 12) .holds_of_word [wD W, enc φ] S = Option.some (.bl (wt W φ fun _ => none), S) := by
  rw [F_holds_w]
  have w := word_truth_ok hW φ [] (k + 11) [.dK []] 0 [] (fun _ => none) (by have := o.dep; omega) o.wf (fun x hx => by cases hx) (fun x p hp => by cases hp) (fun x p hp => by cases hp) rfl (by have := o.dep; simp; omega)
  refine pureD_of (T := [.dK []]) S ?_ (by simp [frees, free, o.fr, sd_free _ _ (wD_sd 1 W)]) rfl
  have c1 := check_word_ok (k + 9) W hW []
  have c2 := o.chk (k + 2) []
  simp only [defD_eq, b_holds_of_word]
  simp [c1, c2, LINE, w]
theorem holds_kind_ok (k : Nat) {W : List Bool} {r : Nat} (hr : r ≤ 2) {φ : Fm} (o : OkF φ) (hq : qr φ ≤ r) (S : Sto) : F (k + 15) .holds_of_kind [kr r W, .int (r : Int), enc φ] S = Option.some (.bl (wt W φ fun _ => none), S) := by
  rw [F_holds_k]
  have w := kind_truth_ok φ [] (k + 14) r [.lst [kr r W], .lst []] 0 1 [W] [] (by have := o.dep; omega) o.wf hq hr ⟨rfl, rfl, rfl, (fun p hp => by cases hp), (fun p hp => by cases hp), (by have := o.dep; simp; omega), (fun x hx => by cases hx), fun x hx => by cases hx⟩
  refine pureD_of (T := [.lst [kr r W], .lst []]) S ?_ (by simp [frees, free, o.fr, sd_free _ _ (kr_sd hr W)]) rfl
  have c1 := check_rounds_ok (k + 13) r hr []
  have c2 := o.chk (k + 5) []
  have c3 := o.rnd (k + 5) []
  have h : ¬ ((r : Int) < (qr φ : Int)) := by omega
  simp only [defD_eq, b_holds_of_kind]
  have w' : F (k + 14) .kind_truth [enc φ, .int (r : Int), .ref 0, .ref 1] [.lst [kr r W], .lst []] = Option.some (.bl (wt W φ fun _ => none), [.lst [kr r W], .lst []]) := w
  simp [c1, c2, c3, LINE, ltD, h, w']
end K39

set_option Elab.async false
set_option linter.all false
set_option maxRecDepth 100000
set_option maxHeartbeats 4000000
/-! K39rf: powers stay the same from a number on; same_kind -/
namespace K39
open PySem PySem.Spec L2 DL
open PyProof.Rows hiding St
theorem kr_congr {r : Nat} (h1 : 1 ≤ r) (h2 : r ≤ 2) {u u' v v' : List Bool} (hu : kr r u = kr r u') (hv : kr r v = kr r v') : kr r (u ++ v) = kr r (u' ++ v') := by
  have a := kind_sum_ok 0 h1 h2 u v []
  have b := kind_sum_ok 0 h1 h2 u' v' []
  rw [hu, hv, b] at a
  simp only [Option.some.injEq, Prod.mk.injEq] at a
  exact a.1.symm
def words : List (List Bool) := [[false], [true], [false, false], [false, true], [true, false], [true, true], [false, false, false], [false, false, true], [false, true, false], [false, true, true], [true, false, false], [true, false, true], [true, true, false], [true, true, true]]
theorem words_mem {w : List Bool} (h1 : 1 ≤ w.length) (h3 : w.length ≤ 3) : w ∈ words := by
  match w, h1, h3 with
  | [a], _, _ => cases a <;> decide
  | [a, b], _, _ => cases a <;> cases b <;> decide
  | [a, b, c], _, _ => cases a <;> cases b <;> cases c <;> decide
theorem words4 : (words.all fun w => decide (canon (rowsR (pow w 4)) = canon (rowsR (pow w 3)))) = true := by decide +kernel
theorem words2 : (words.all fun w => decide (lt (pow w 2) = lt (pow w 1))) = true := by decide +kernel
def most (r : Nat) : Nat := if r = 1 then 1 else 3
theorem stab1 {r : Nat} (h1 : 1 ≤ r) (h2 : r ≤ 2) {w : List Bool} (hw1 : 1 ≤ w.length) (hw3 : w.length ≤ 3) : kr r (pow w (most r + 1)) = kr r (pow w (most r)) := by
  have hm := words_mem hw1 hw3
  obtain rfl | rfl : r = 1 ∨ r = 2 := by omega
  · have := List.all_eq_true.mp words2 w hm
    simp only [decide_eq_true_eq] at this
    show kr 1 (pow w 2) = kr 1 (pow w 1)
    rw [kr1, kr1, this]
  · have := List.all_eq_true.mp words4 w hm
    simp only [decide_eq_true_eq] at this
    show kr 2 (pow w 4) = kr 2 (pow w 3)
    rw [kr2, kr2, this]
theorem stab {r : Nat} (h1 : 1 ≤ r) (h2 : r ≤ 2) {w : List Bool} (hw1 : 1 ≤ w.length) (hw3 : w.length ≤ 3) (n : Nat) : kr r (pow w (most r + n)) = kr r (pow w (most r)) := by
  induction n with
  | zero => rfl
  | succ n ih =>
    rw [← Nat.add_assoc, pow_add, pow_one]
    refine (kr_congr h1 h2 ih rfl).trans ?_
    have := stab1 h1 h2 hw1 hw3
    rw [pow_add, pow_one] at this
    exact this
theorem stab_min {r : Nat} (h1 : 1 ≤ r) (h2 : r ≤ 2) {w : List Bool} (hw1 : 1 ≤ w.length) (hw3 : w.length ≤ 3) (n : Nat) : kr r (pow w n) = kr r (pow w (min n (most r))) := by
  by_cases h : n ≤ most r
  · rw [Nat.min_eq_left h]
  · have := stab h1 h2 hw1 hw3 (n - most r)
    rw [show most r + (n - most r) = n by omega] at this
    rw [this, Nat.min_eq_right (by omega)]
theorem eqKr {r : Nat} (hr : r ≤ 2) (w : List Bool) (S : Sto) : eqD (kr r w) (kr r w) S = Option.some (.bl true, S) := eqD_of (eqB_sdb (n := 5) (kr_sd hr w) (kr_sd hr w) (by decide) (by simp))
theorem neD_of {S : Sto} {x y : D} {b : Bool} (e : eqB S x y = Option.some b) : neD x y S = Option.some (.bl (!b), S) := by simp only [neD, eqD', e]
theorem neKr {r : Nat} (hr : r ≤ 2) {w w' : List Bool} (h : kr r w = kr r w') (S : Sto) : neD (kr r w) (kr r w') S = Option.some (.bl false, S) := neD_of (b := true) (eqB_sdb (n := 5) (kr_sd hr w) (kr_sd hr w') (by decide) (by simp [h]))
theorem F_telling (k : Nat) : F (k + 1) .telling = pureD (defD 5 (b_telling (F k))) := rfl
theorem F_same_kind (k : Nat) : F (k + 1) .same_kind = pureD (defD 5 (b_same_kind (F k))) := rfl
theorem telling_ok (k : Nat) {r : Nat} (hr : r ≤ 2) (w : List Bool) (S : Sto) : F (k + 1) .telling [kr r w, kr r w, .int (r : Int)] S = Option.some (.non, S) := by
  rw [F_telling]
  refine pureD_of (T := []) S ?_ (by simp [frees, free, sd_free _ _ (kr_sd hr w)]) rfl
  simp only [defD_eq, b_telling]
  simp [eqKr hr]
theorem same_kind_ok (k : Nat) {r : Nat} (hr : r ≤ 2) {a b : List Bool} (ha : a.length ≤ 12) (hb : b.length ≤ 12) (h : kr r a = kr r b) (S : Sto) : F (k + 5) .same_kind [wD a, wD b, .int (r : Int)] S = Option.some (.tup [.bl true, .non], S) := by
  rw [F_same_kind]
  refine pureD_of (T := []) S ?_ (by simp [frees, free, sd_free _ _ (wD_sd 1 a), sd_free _ _ (wD_sd 1 b)]) rfl
  simp only [defD_eq, b_same_kind]
  have k1 := kind_of_ok k r hr a ha []
  have k2 := kind_of_ok k r hr b hb []
  rw [h] at k1
  simp [k1, k2, eqKr hr, telling_ok (k + 3) hr, LINE]
theorem F_same (k : Nat) : F (k + 1) ._law_same = pureD (defD 2 (b__law_same (F k))) := rfl
theorem same_ok (k : Nat) (b : Bool) (S : Sto) : F (k + 1) ._law_same [.bl b, .bl b] S = Option.some (.bl true, S) := by
  rw [F_same]
  refine pureD_of (T := []) S ?_ rfl rfl
  simp only [defD_eq, b__law_same]
  simp [reprD, eqS]
theorem neTN (S : Sto) : neD (.tup [.bl true, .non]) (.tup [.bl true, .non]) S = Option.some (.bl false, S) := by
  cases S <;> rfl
theorem eqBl (S : Sto) (a b : Bool) : eqD (.bl a) (.bl b) S = Option.some (.bl (decide (a = b)), S) := rfl
theorem F_cell (k : Nat) : F (k + 1) ._law_cell = pureD (defD 2 (b__law_cell (F k))) := rfl
theorem cell_ok (k : Nat) (ns : List Int) (hl : ns.length ≤ 63) (i : Nat) (S : Sto) : F (k + 1) ._law_cell [.fro (ns.map D.int), .int (i : Int)] S = Option.some (.int (ns.getD i 0), S) := by
  rw [F_cell]
  have fr : ∀ d ∈ ns.map D.int, free d = true := by
    intro d hd
    obtain ⟨i, _, rfl⟩ := List.mem_map.mp hd
    rfl
  refine pureD_of (T := []) S ?_ ?_ rfl
  · simp only [defD_eq, b__law_cell]
    have e1 : lenD2 [.fro (ns.map D.int)] [] = Option.some (.int (ns.length : Int), []) := by simp [lenD2, lenD, itemsD]
    by_cases h : i < ns.length
    · have h' : (i : Int) < ns.length := by omega
      have ix : idxD (.fro (ns.map D.int)) (.int (i : Int)) [] = Option.some (.int ns[i], []) := by
        simp only [idxD, L2.atI_nat (show (ns.map D.int)[i]? = Option.some (.int ns[i]) by simp [h])]
      simp [e1, ltD, h', ix, List.getD_eq_getElem?_getD, h]
    · have h' : ¬ (i : Int) < ns.length := by omega
      simp [e1, ltD, h', List.getD_eq_getElem?_getD, h, LINE]
  · have all : ∀ ds : List D, (∀ d ∈ ds, free d = true) → frees ds = true := by
      intro ds
      induction ds with
      | nil => intro _; rfl
      | cons d r ih =>
        intro h
        simp only [frees, Bool.and_eq_true]
        exact ⟨h d (List.mem_cons_self ..), ih fun e he => h e (List.mem_cons_of_mem _ he)⟩
    simp [frees, free, all _ fr]
end K39

set_option Elab.async false
set_option linter.all false
set_option maxRecDepth 100000
set_option maxHeartbeats 4000000
/-! K39rg: the digits of the law's script -/
namespace K39
open PySem PySem.Spec L2 DL
open PyProof.Rows hiding St
theorem modI (S : Sto) (i j : Int) (h : 0 < j) : modD (.int i) (.int j) S = Option.some (.int (i % j), S) := by
  simp only [modD, if_pos h]
theorem fdivI (S : Sto) (i j : Int) (h : 0 < j ∧ j < 1073741824) : fdivD (.int i) (.int j) S = Option.some (.int (i / j), S) := by
  simp only [fdivD, if_pos h]
theorem mulI (S : Sto) (i j : Int) (h : small64 j = true) : mulD (.int i) (.int j) S = Option.some (.int (i * j), S) := by
  simp only [mulD, if_pos (Or.inr h : small64 i = true ∨ small64 j = true)]
theorem ltS (f : Int → Int → Bool) (i j : Int) (S : Sto) : ltD f (.int i) (.int j) S = Option.some (.bl (f i j), S) := rfl
theorem appL (S : Sto) (vs : List Int) (v : Int) (hl : vs.length < LINE) : appD (.ref S.length) (.int v) (S ++ [.lst (vs.map D.int)]) = Option.some (.non, S ++ [.lst ((vs ++ [v]).map D.int)]) := by
  rw [app_at _ (get_end1 _ _) (by simpa using hl)]
  simp
theorem isL (S : Sto) (vs : List D) : isLst (.ref S.length) (S ++ [.lst vs]) = Option.some (.ref S.length, S ++ [.lst vs]) := isLst_at (get_end1 _ _)
theorem le3 {a b i : Nat} (h : a ≤ b + i) : a + (0 + 1) ≤ b + (i + 1) := by omega
theorem le4 {a b i k : Nat} (h1 : b ≤ 10000) (h2 : i < k) (h3 : a ≤ b + i) (h4 : k ≤ 60 := by decide) : a < LINE := by simp only [LINE]; omega
theorem sm1 : small64 16807 = true := by decide +kernel
theorem sm2 : small64 7 = true := by decide +kernel
theorem sm3 : small64 48271 = true := by decide +kernel
theorem sm4 : small64 69621 = true := by decide +kernel
theorem sm5 : small64 2 = true := by decide +kernel
theorem big : (0:Int) < 2147483647 := by decide +kernel
theorem big2 : (0:Int) < 997 ∧ (997:Int) < 1073741824 := by decide +kernel
theorem big3 : (0:Int) < 1009 ∧ (1009:Int) < 1073741824 := by decide +kernel
theorem big4 : (0:Int) < 1009 := by decide +kernel
theorem innerA (S : Sto) (vs : List Int) (hl : vs.length ≤ 10000) (a0 a1 a2 a4 a5 z7 z8 : Option D) (n : Int) :
    ∃ (n' : Int) (z7' : Option D) (vs' : List Int), forD (rngSrc 0 60) (gNm 7) (sIf (fBl (fBin (ltD fun i j => decide (j < i)) (fVar 6) (fC (.int 0)))) (sSeq (sDrop (fApp (fVar 3) (fBin modD (fVar 6) (fC (.int 1009)))))
    (sSet 6 (fBin fdivD (fVar 6) (fC (.int 1009))))) sNx) (rngSrc 0 60).n 0 [a0, a1, a2, Option.some (.ref S.length), a4, a5, Option.some (.int n), z7, z8] (S ++ [.lst (vs.map D.int)]) = Option.some (.nx, [a0, a1, a2, Option.some (.ref S.length), a4, a5, Option.some (.int n'), z7', z8], S ++ [.lst (vs'.map D.int)]) ∧ vs'.length ≤ vs.length + 60 := by
  obtain ⟨ρ', S', e, n', z7', vs', rfl, rfl, h⟩ := for_inv (src := rngSrc 0 60) (g := gNm 7) (b := sIf (fBl (fBin (ltD fun i j => decide (j < i)) (fVar 6) (fC (.int 0)))) (sSeq (sDrop (fApp (fVar 3) (fBin modD (fVar 6) (fC (.int 1009)))))
    (sSet 6 (fBin fdivD (fVar 6) (fC (.int 1009))))) sNx) (fun i ρ S' => ∃ (n' : Int) (z7' : Option D) (vs' : List Int), ρ = [a0, a1, a2, Option.some (.ref S.length), a4, a5, Option.some (.int n'), z7', z8] ∧ S' = S ++ [.lst (vs'.map D.int)] ∧ vs'.length ≤ vs.length + i) (fun i ρ S' hi ⟨n', z7', vs', e1, e2, (e3 : _ ≤ _)⟩ => by
      subst e1
      subst e2
      have hi' : i < 60 := hi
      by_cases hn : (0 : Int) < n'
      · refine ⟨.int ((0 : Int) + i), [(7, .int ((0 : Int) + i))], [a0, a1, a2, Option.some (.ref S.length), a4, a5, Option.some (.int (n' / 1009)), Option.some (.int ((0 : Int) + i)), z8], S ++ [.lst ((vs' ++ [n' % 1009]).map D.int)], ?_, rfl, ?_, n' / 1009, _, vs' ++ [n' % 1009], rfl, rfl, by simp only [List.length_append, List.length_cons, List.length_nil]; exact le3 e3⟩
        · simp [rngSrc]
        · have ap := appL S vs' (n' % 1009) (le4 hl hi' e3)
          simp only [r_sif, r_bl, r_bin, r_var, r_c, r_ups0, r_ups1, List.set_cons_succ, List.set_cons_zero, List.getElem?_cons_succ, List.getElem?_cons_zero, Option.bind_some, Option.map_some, id, ltS, r_blD, hn, decide_true, if_true, r_seq, r_drop, r_app, isL, modI _ _ 1009 big4, ap, r_go1, r_set, fdivI _ _ 1009 big3]
      · refine ⟨.int ((0 : Int) + i), [(7, .int ((0 : Int) + i))], [a0, a1, a2, Option.some (.ref S.length), a4, a5, Option.some (.int n'), Option.some (.int ((0 : Int) + i)), z8], S ++ [.lst (vs'.map D.int)], ?_, rfl, ?_, n', _, vs', rfl, rfl, by omega⟩
        · simp [rngSrc]
        · simp only [r_sif, r_bl, r_bin, r_var, r_c, r_ups0, r_ups1, List.set_cons_succ, List.set_cons_zero, List.getElem?_cons_succ, List.getElem?_cons_zero, Option.bind_some, Option.map_some, id, ltS, r_blD, hn, decide_false, Bool.false_eq_true, if_false, r_nx]) (fun _ _ _ => rfl) ⟨n, z7, vs, rfl, rfl, by omega⟩
  exact ⟨n', z7', vs', e, h⟩
theorem innerB' (P M Q : Int) (hP : small64 P = true) (hM : 0 < M) (hQ : 0 < Q ∧ Q < 1073741824) (S : Sto) (vs : List Int) (hl : vs.length ≤ 10000) (a0 a1 a2 a4 a5 a6 z7 : Option D) (n : Int) :
    ∃ (n' : Int) (z7' : Option D) (vs' : List Int), forD (rngSrc 0 12) (gNm 7) (sSeq (sSet 8 (fBin modD (fBin addD (fBin addD (fBin mulD (fVar 8) (fC (.int P))) (fBin mulD (fVar 7) (fC (.int 7)))) (fC (.int 1))) (fC (.int M))))
    (sDrop (fApp (fVar 3) (fBin modD (fBin fdivD (fVar 8) (fC (.int Q))) (fC (.int 1009)))))) (rngSrc 0 12).n 0 [a0, a1, a2, Option.some (.ref S.length), a4, a5, a6, z7, Option.some (.int n)] (S ++ [.lst (vs.map D.int)]) = Option.some (.nx, [a0, a1, a2, Option.some (.ref S.length), a4, a5, a6, z7', Option.some (.int n')], S ++ [.lst (vs'.map D.int)]) ∧ vs'.length ≤ vs.length + 12 := by
  obtain ⟨ρ', S', e, n', z7', vs', rfl, rfl, h⟩ := for_inv (src := rngSrc 0 12) (g := gNm 7) (b := sSeq (sSet 8 (fBin modD (fBin addD (fBin addD (fBin mulD (fVar 8) (fC (.int P))) (fBin mulD (fVar 7) (fC (.int 7)))) (fC (.int 1))) (fC (.int M))))
    (sDrop (fApp (fVar 3) (fBin modD (fBin fdivD (fVar 8) (fC (.int Q))) (fC (.int 1009)))))) (fun i ρ S' => ∃ (n' : Int) (z7' : Option D) (vs' : List Int), ρ = [a0, a1, a2, Option.some (.ref S.length), a4, a5, a6, z7', Option.some (.int n')] ∧ S' = S ++ [.lst (vs'.map D.int)] ∧ vs'.length ≤ vs.length + i) (fun i ρ S' hi ⟨n', z7', vs', e1, e2, (e3 : _ ≤ _)⟩ => by
      subst e1
      subst e2
      have hi' : i < 12 := hi
      obtain ⟨t, ht⟩ : ∃ t : Int, t = (0 : Int) + i := ⟨_, rfl⟩
      obtain ⟨q, hq⟩ : ∃ q, q = (n' * P + t * 7 + 1) % M := ⟨_, rfl⟩
      obtain ⟨q2, hq2⟩ : ∃ q2, q2 = q / Q % 1009 := ⟨_, rfl⟩
      have e8 : ∀ ρ : DL.Env, ρ[8]? = Option.some (Option.some (.int n')) → ρ[7]? = Option.some (Option.some (.int t)) → ∀ S, fBin modD (fBin addD (fBin addD (fBin mulD (fVar 8) (fC (.int P))) (fBin mulD (fVar 7) (fC (.int 7)))) (fC (.int 1))) (fC (.int M)) ρ S = Option.some (.int q, S) := by
        intro ρ h8 h7 S
        simp only [r_bin, r_var, r_c, h8, h7, Option.bind_some, Option.map_some, id, mulI _ _ P hP, mulI _ _ 7 sm2, addI, modI _ _ M hM, hq]
      have e9 : ∀ ρ : DL.Env, ρ[8]? = Option.some (Option.some (.int q)) → ∀ S, fBin modD (fBin fdivD (fVar 8) (fC (.int Q))) (fC (.int 1009)) ρ S = Option.some (.int q2, S) := by
        intro ρ h8 S
        simp only [r_bin, r_var, r_c, h8, Option.bind_some, Option.map_some, id, fdivI _ _ Q hQ, modI _ _ 1009 big4, hq2]
      clear hq hq2
      refine ⟨.int t, [(7, .int t)], [a0, a1, a2, Option.some (.ref S.length), a4, a5, a6, Option.some (.int t), Option.some (.int q)], S ++ [.lst ((vs' ++ [q2]).map D.int)], ?_, rfl, ?_, q, Option.some (.int t), vs' ++ [q2], rfl, rfl, by simp only [List.length_append, List.length_cons, List.length_nil]; exact le3 e3⟩
      · simp [rngSrc, ht]
      · have ap := appL S vs' q2 (le4 hl hi' e3)
        have d8 := e8 [a0, a1, a2, Option.some (.ref S.length), a4, a5, a6, Option.some (.int t), Option.some (.int n')] rfl rfl (S ++ [.lst (vs'.map D.int)])
        have d9 := e9 [a0, a1, a2, Option.some (.ref S.length), a4, a5, a6, Option.some (.int t), Option.some (.int q)] rfl (S ++ [.lst (vs'.map D.int)])
        simp only [r_ups0, r_ups1, List.set_cons_succ, List.set_cons_zero, r_seq, r_set, d8, Option.map_some, Option.bind_some, r_go1, r_drop, r_app, r_var, List.getElem?_cons_succ, List.getElem?_cons_zero, id, isL, d9, ap]) (fun _ _ _ => rfl) ⟨n, z7, vs, rfl, rfl, by omega⟩
  exact ⟨n', z7', vs', e, h⟩
theorem innerB (S : Sto) (vs : List Int) (hl : vs.length ≤ 10000) (a0 a1 a2 a4 a5 a6 z7 : Option D) (n : Int) :
    ∃ (n' : Int) (z7' : Option D) (vs' : List Int), forD (rngSrc 0 12) (gNm 7) (sSeq (sSet 8 (fBin modD (fBin addD (fBin addD (fBin mulD (fVar 8) (fC (.int 16807))) (fBin mulD (fVar 7) (fC (.int 7)))) (fC (.int 1))) (fC (.int 2147483647))))
    (sDrop (fApp (fVar 3) (fBin modD (fBin fdivD (fVar 8) (fC (.int 997))) (fC (.int 1009)))))) (rngSrc 0 12).n 0 [a0, a1, a2, Option.some (.ref S.length), a4, a5, a6, z7, Option.some (.int n)] (S ++ [.lst (vs.map D.int)]) = Option.some (.nx, [a0, a1, a2, Option.some (.ref S.length), a4, a5, a6, z7', Option.some (.int n')], S ++ [.lst (vs'.map D.int)]) ∧ vs'.length ≤ vs.length + 12 :=
  innerB' 16807 2147483647 997 sm1 big big2 S vs hl a0 a1 a2 a4 a5 a6 z7 n
end K39

set_option Elab.async false
set_option linter.all false
set_option maxRecDepth 100000
set_option maxHeartbeats 4000000
/-! K39rh: the digits, whole; draws -/
namespace K39
open PySem PySem.Spec L2 DL
open PyProof.Rows hiding St
theorem F_digits (k : Nat) : F (k + 1) ._law_digits = defD 9 (b__law_digits (F k)) := rfl
theorem powI (S : Sto) : ∃ Z : Int, powD (.int 10) (.int 18) S = Option.some (.int Z, S) := ⟨_, rfl⟩
theorem intI (S : Sto) (i : Int) : intD [.int i] S = Option.some (.int i, S) := rfl
theorem le5 {a b c d i : Nat} (h : a ≤ 60 * i) (h2 : b ≤ a + c) (hc : c ≤ 60) : b ≤ 60 * (i + 1) := by omega
theorem digit_step' (A1 A2 A3 A4 M : Int) (h1 : small64 A1 = true) (h2 : small64 A2 = true) (hM : 0 < M) (k : Nat) (ns : List Int) (hl : ns.length ≤ 63) (S : Sto) (vs : List Int) (hv : vs.length ≤ 10000) (i : Nat) (t c5 : Int) (Z : Int) (a1 a2 a6 a7 a8 : Option D) (hpow : ∀ S, powD (.int 10) (.int 18) S = Option.some (.int Z, S)) :
    ∃ (z6 z7 z8 : Option D) (vs' : List Int), sIf (fBl (fBin (ltD fun i j => decide (j ≤ i)) (fVar 5) (fBin powD (fC (.int 10)) (fC (.int 18))))) (sSeq (sSet 6 (fVar 5))
    (sFor (fRng1 (aCons (fC (.int 60)) aNil)) (gNm 7)
      (sIf (fBl (fBin (ltD fun i j => decide (j < i)) (fVar 6) (fC (.int 0)))) (sSeq (sDrop (fApp (fVar 3) (fBin modD (fVar 6) (fC (.int 1009)))))
    (sSet 6 (fBin fdivD (fVar 6) (fC (.int 1009))))) sNx))) (sSeq (sSet 8 (fBin modD (fBin addD (fBin addD (fBin mulD (fVar 5) (fC (.int A1))) (fBin mulD (fCall intD (aCons (fBin addD (fVar 4) (fC (.int A3))) aNil)) (fC (.int A2)))) (fC (.int A4))) (fC (.int M))))
    (sFor (fRng1 (aCons (fC (.int 12)) aNil)) (gNm 7)
      (sSeq (sSet 8 (fBin modD (fBin addD (fBin addD (fBin mulD (fVar 8) (fC (.int 16807))) (fBin mulD (fVar 7) (fC (.int 7)))) (fC (.int 1))) (fC (.int 2147483647))))
    (sDrop (fApp (fVar 3) (fBin modD (fBin fdivD (fVar 8) (fC (.int 997))) (fC (.int 1009)))))))) [Option.some (.fro (ns.map D.int)), a1, a2, Option.some (.ref S.length), Option.some (.int t), Option.some (.int c5), a6, a7, a8] (S ++ [.lst (vs.map D.int)]) = Option.some (.nx, [Option.some (.fro (ns.map D.int)), a1, a2, Option.some (.ref S.length), Option.some (.int t), Option.some (.int c5), z6, z7, z8], S ++ [.lst (vs'.map D.int)]) ∧ vs'.length ≤ vs.length + 60 := by
  obtain ⟨b, hb⟩ : ∃ b, b = decide (Z ≤ c5) := ⟨_, rfl⟩
  have r60 : ∀ S, rng1S [.int 60] S = Option.some (rngSrc 0 60, S) := fun S => rngW 60 (by decide) S
  have r12 : ∀ S, rng1S [.int 12] S = Option.some (rngSrc 0 12, S) := fun S => rngW 12 (by decide) S
  cases b
  · obtain ⟨q, hq⟩ : ∃ q, q = (c5 * A1 + (t + A3) * A2 + A4) % M := ⟨_, rfl⟩
    obtain ⟨n', z7, vs', e, h⟩ := innerB S vs hv (Option.some (.fro (ns.map D.int))) a1 a2 (Option.some (.int t)) (Option.some (.int c5)) a6 a7 q
    refine ⟨a6, z7, Option.some (.int n'), vs', ?_, Nat.le_trans h (Nat.add_le_add_left (by decide) _)⟩
    simp only [r_sif, r_bl, r_bin, r_var, r_c, List.getElem?_cons_succ, List.getElem?_cons_zero, Option.bind_some, Option.map_some, id, hpow, ltS, ← hb, r_blD, Bool.false_eq_true, if_false, r_seq, r_set, mulI _ _ A1 h1, r_call, r_cons, r_nil, addI, intI, mulI _ _ A2 h2, modI _ _ M hM, ← hq, List.set_cons_succ, List.set_cons_zero, r_go1, r_for, r_frng1, r12]
    exact e
  · obtain ⟨n', z7, vs', e, h⟩ := innerA S vs hv (Option.some (.fro (ns.map D.int))) a1 a2 (Option.some (.int t)) (Option.some (.int c5)) a7 a8 c5
    refine ⟨Option.some (.int n'), z7, a8, vs', ?_, h⟩
    simp only [r_sif, r_bl, r_bin, r_var, r_c, List.getElem?_cons_succ, List.getElem?_cons_zero, Option.bind_some, Option.map_some, id, hpow, ltS, ← hb, r_blD, if_true, r_seq, r_set, r_call, r_cons, r_nil, List.set_cons_succ, List.set_cons_zero, r_go1, r_for, r_frng1, r60]
    exact e
theorem digits_ok (k : Nat) (ns : List Int) (hl : ns.length ≤ 63) (S : Sto) : ∃ vs : List Int, F (k + 2) ._law_digits [.fro (ns.map D.int), .int 0, .int 63] S = Option.some (.ref S.length, S ++ [.lst (vs.map D.int)]) ∧ vs.length ≤ 4000 := by
  have rng : ∀ S, rng2S [.int 0, .int 63] S = Option.some (rngSrc 0 63, S) := fun S => rfl
  obtain ⟨Z, hZ⟩ := powI []
  have hpow : ∀ S, powD (.int 10) (.int 18) S = Option.some (.int Z, S) := by
    intro S
    have e : powD (.int 10) (.int 18) S = (powD (.int 10) (.int 18) []).map fun p => (p.1, S) := rfl
    rw [e, hZ]; rfl
  clear hZ
  obtain ⟨ρ', S', e, z4, z5, z6, z7, z8, vs, rfl, rfl, h⟩ := for_inv (src := rngSrc 0 63) (g := gNm 4) (b := sSeq (sSet 5 (fCall (chk 2 (F (k + 1) ._law_cell)) (aCons (fVar 0) (aCons (fVar 4) aNil))))
    (sSeq (sIf (fBl (fBin (ltD fun i j => decide (i < j)) (fVar 5) (fC (.int 0)))) (sSet 5 (fBin subD (fC (.int 1)) (fBin mulD (fVar 5) (fC (.int 2))))) sNx)
    (sIf (fBl (fBin (ltD fun i j => decide (j ≤ i)) (fVar 5) (fBin powD (fC (.int 10)) (fC (.int 18))))) (sSeq (sSet 6 (fVar 5))
    (sFor (fRng1 (aCons (fC (.int 60)) aNil)) (gNm 7)
      (sIf (fBl (fBin (ltD fun i j => decide (j < i)) (fVar 6) (fC (.int 0)))) (sSeq (sDrop (fApp (fVar 3) (fBin modD (fVar 6) (fC (.int 1009)))))
    (sSet 6 (fBin fdivD (fVar 6) (fC (.int 1009))))) sNx))) (sSeq (sSet 8 (fBin modD (fBin addD (fBin addD (fBin mulD (fVar 5) (fC (.int 48271))) (fBin mulD (fCall intD (aCons (fBin addD (fVar 4) (fC (.int 1))) aNil)) (fC (.int 69621)))) (fC (.int 11))) (fC (.int 2147483647))))
    (sFor (fRng1 (aCons (fC (.int 12)) aNil)) (gNm 7)
      (sSeq (sSet 8 (fBin modD (fBin addD (fBin addD (fBin mulD (fVar 8) (fC (.int 16807))) (fBin mulD (fVar 7) (fC (.int 7)))) (fC (.int 1))) (fC (.int 2147483647))))
    (sDrop (fApp (fVar 3) (fBin modD (fBin fdivD (fVar 8) (fC (.int 997))) (fC (.int 1009)))))))))))
    (fun i ρ S' => ∃ (z4 z5 z6 z7 z8 : Option D) (vs' : List Int), ρ = [Option.some (.fro (ns.map D.int)), Option.some (.int 0), Option.some (.int 63), Option.some (.ref S.length), z4, z5, z6, z7, z8] ∧ S' = S ++ [.lst (vs'.map D.int)] ∧ vs'.length ≤ 60 * i) (fun i ρ S' hi ⟨z4, z5, z6, z7, z8, vs', e1, e2, (e3 : _ ≤ _)⟩ => by
      subst e1
      subst e2
      have hi' : i < 63 := hi
      obtain ⟨t, ht⟩ : ∃ t : Int, t = (i : Int) := ⟨_, rfl⟩
      have c1 := cell_ok k ns hl i (S ++ [.lst (vs'.map D.int)])
      rw [← ht] at c1
      obtain ⟨c0, hc0⟩ : ∃ c0, c0 = ns.getD i 0 := ⟨_, rfl⟩
      rw [← hc0] at c1
      obtain ⟨b, hb⟩ : ∃ b, b = decide (c0 < 0) := ⟨_, rfl⟩
      obtain ⟨c5, hc5⟩ : ∃ c5, c5 = if b = true then 1 - c0 * 2 else c0 := ⟨_, rfl⟩
      obtain ⟨y6, y7, y8, vs'', f1, f2⟩ := digit_step' 48271 69621 1 11 2147483647 sm3 sm4 big k ns hl S vs' (by omega) i t c5 Z (Option.some (.int 0)) (Option.some (.int 63)) z6 z7 z8 hpow
      refine ⟨.int t, [(4, .int t)], [Option.some (.fro (ns.map D.int)), Option.some (.int 0), Option.some (.int 63), Option.some (.ref S.length), Option.some (.int t), Option.some (.int c5), y6, y7, y8], S ++ [.lst (vs''.map D.int)], ?_, rfl, ?_, _, _, _, _, _, vs'', rfl, rfl, le5 (d := 0) e3 f2 (by decide)⟩
      · simp [rngSrc, ht]
      · simp only [r_ups0, r_ups1, List.set_cons_succ, List.set_cons_zero]
        rw [r_seq, r_set]
        simp only [r_call, r_cons, r_var, List.getElem?_cons_succ, List.getElem?_cons_zero, Option.bind_some, Option.map_some, id, r_nil, r_chk, List.length_cons, List.length_nil, Nat.zero_add, if_true, c1, List.set_cons_succ, List.set_cons_zero, r_go1]
        rw [r_seq]
        have e5 : sIf (fBl (fBin (ltD fun i j => decide (i < j)) (fVar 5) (fC (.int 0)))) (sSet 5 (fBin subD (fC (.int 1)) (fBin mulD (fVar 5) (fC (.int 2))))) sNx [Option.some (.fro (ns.map D.int)), Option.some (.int 0), Option.some (.int 63), Option.some (.ref S.length), Option.some (.int t), Option.some (.int c0), z6, z7, z8] (S ++ [.lst (vs'.map D.int)]) = Option.some (.nx, [Option.some (.fro (ns.map D.int)), Option.some (.int 0), Option.some (.int 63), Option.some (.ref S.length), Option.some (.int t), Option.some (.int c5), z6, z7, z8], S ++ [.lst (vs'.map D.int)]) := by
          cases b
          · simp only [r_sif, r_bl, r_bin, r_var, r_c, List.getElem?_cons_succ, List.getElem?_cons_zero, Option.bind_some, Option.map_some, id, ltS, ← hb, r_blD, Bool.false_eq_true, if_false, r_nx, hc5]
          · simp only [r_sif, r_bl, r_bin, r_var, r_c, List.getElem?_cons_succ, List.getElem?_cons_zero, Option.bind_some, Option.map_some, id, ltS, ← hb, r_blD, if_true, r_set, mulI _ _ 2 sm5, subI, List.set_cons_succ, List.set_cons_zero, hc5]
        rw [e5]
        simp only [Option.bind_some, r_go1]
        exact f1) (fun _ _ _ => rfl) (ρ := [Option.some (.fro (ns.map D.int)), Option.some (.int 0), Option.some (.int 63), Option.some (.ref S.length), none, none, none, none, none]) (S := S ++ [.lst []]) ⟨none, none, none, none, none, [], rfl, rfl, Nat.zero_le _⟩
  refine ⟨vs, ?_, Nat.le_trans h (by decide)⟩
  rw [F_digits]
  simp only [defD_eq, b__law_digits]
  simp [LINE, rng]
  rw [e]
  rfl
end K39

set_option Elab.async false
set_option linter.all false
set_option maxRecDepth 100000
set_option maxHeartbeats 4000000
/-! K39ri: draws -/
namespace K39
open PySem PySem.Spec L2 DL
open PyProof.Rows hiding St
theorem F_draw (k : Nat) : F (k + 1) ._law_draw = scopeD (defD 4 (b__law_draw (F k))) := rfl
theorem F_pick (k : Nat) : F (k + 1) ._law_pick = scopeD (defD 2 (b__law_pick (F k))) := rfl
structure Bx (hd hb : Nat) (vs : List Int) (a : Nat) (S : Sto) : Prop where
  eb : S[hb]? = Option.some (.lst [.ref hd, .int (a : Int)])
  ed : S[hd]? = Option.some (.lst (vs.map D.int))
  ne : hd ≠ hb
  hl : vs.length ≤ 4000
theorem Bx.app {hd hb : Nat} {vs : List Int} {a : Nat} {S : Sto} (B : Bx hd hb vs a S) (T : Sto) : Bx hd hb vs a (S ++ T) := by
  refine ⟨?_, ?_, B.ne, B.hl⟩
  · rw [List.getElem?_append_left (List.getElem?_eq_some_iff.mp B.eb).1]; exact B.eb
  · rw [List.getElem?_append_left (List.getElem?_eq_some_iff.mp B.ed).1]; exact B.ed
def nxB (hd hb a : Nat) (S : Sto) : Sto := S.set hb (.lst [.ref hd, .int ((a + 1 : Nat) : Int)])
theorem Bx.nx {hd hb : Nat} {vs : List Int} {a : Nat} {S : Sto} (B : Bx hd hb vs a S) : Bx hd hb vs (a + 1) (nxB hd hb a S) := by
  refine ⟨?_, ?_, B.ne, B.hl⟩
  · unfold nxB
    rw [List.getElem?_set_self (List.getElem?_eq_some_iff.mp B.eb).1]
  · unfold nxB
    rw [List.getElem?_set_ne (fun h => B.ne h.symm)]
    exact B.ed
theorem nxB_len (hd hb a : Nat) (S : Sto) : (nxB hd hb a S).length = S.length := by simp [nxB]
theorem nxB_get {hd hb a : Nat} {S : Sto} {i : Nat} (h : i ≠ hb) : (nxB hd hb a S)[i]? = S[i]? := by
  unfold nxB
  rw [List.getElem?_set_ne (fun e => h e.symm)]
theorem Bx.keeps {hd hb : Nat} {vs : List Int} {a : Nat} {S : Sto} (B : Bx hd hb vs a S) (b : Nat) : Keeps S (nxB hd hb b S) := by
  refine ⟨by rw [nxB_len]; exact Nat.le_refl _, fun i o hi h => ?_⟩
  by_cases e : i = hb
  · right
    subst e
    unfold nxB at h
    rw [List.getElem?_set_self hi] at h
    cases h
    have : hd < S.length := (List.getElem?_eq_some_iff.mp B.ed).1
    simp [rltO, rlts, rlt, this]
  · left
    rwa [nxB_get e] at h
theorem sm_small {a : Nat} (h : a ≤ 40) : small64 (a : Int) = true := by
  have : ∀ a, a < 41 → small64 ((a : Nat) : Int) = true := by decide +kernel
  exact this a (by omega)
theorem sm3' : small64 3 = true := by decide +kernel
theorem sm4' : small64 4 = true := by decide +kernel
theorem dv3 : (0:Int) < 3 ∧ (3:Int) < 1073741824 := by decide +kernel
theorem formE (c1 c2 c3 c4 t x1 x2 x3 x4 m : Int) (ρ : DL.Env) (S : Sto) (h3 : ρ[3]? = Option.some (Option.some (.int t))) (h1 : ρ[1]? = Option.some (Option.some (.int m))) (m1 : ∀ S, mulD (.int t) (.int t) S = Option.some (.int x1, S)) (m2 : ∀ S, mulD (.int x1) (.int c1) S = Option.some (.int x2, S)) (m3 : ∀ S, mulD (.int t) (.int c2) S = Option.some (.int x3, S)) (m4 : ∀ S, fdivD (.int t) (.int c3) S = Option.some (.int x4, S)) (hm : 0 < m) :
    fBin modD (fBin addD (fBin addD (fBin addD (fBin mulD (fBin mulD (fVar 3) (fVar 3)) (fC (.int c1))) (fBin mulD (fVar 3) (fC (.int c2)))) (fBin fdivD (fVar 3) (fC (.int c3)))) (fC (.int c4))) (fVar 1) ρ S = Option.some (.int ((x2 + x3 + x4 + c4) % m), S) := by
  simp only [r_bin, r_var, r_c, h3, h1, Option.bind_some, Option.map_some, id, m1, m2, m3, m4, addI, modI _ _ _ hm]
theorem draw_ok (k : Nat) {hd hb : Nat} {vs : List Int} {a : Nat} {S : Sto} (B : Bx hd hb vs a S) (ha : a ≤ 40) {m : Nat} (hm : 0 < m) : ∃ v : Nat, v < m ∧ F (k + 1) ._law_draw [.ref hb, .int (m : Int)] S = Option.some (.int (v : Int), nxB hd hb a S) := by
  have hm' : (0 : Int) < (m : Int) := by omega
  have un : gUn 2 (gsCons (gNm 2) (gsCons (gNm 3) gsNil)) (.ref hb) S = Option.some [(2, .ref hd), (3, .int (a : Int))] := by
    simp [gUn, B.eb]
  have e1 : ((a : Int) + 1) = ((a + 1 : Nat) : Int) := by omega
  have st : setD (.ref hb) (.int 1) (.int ((a : Int) + 1)) S = Option.some ((), nxB hd hb a S) := by
    simp only [setD, B.eb]
    rw [e1]
    rfl
  have B' := B.nx
  have ln : lenD2 [.ref hd] (nxB hd hb a S) = Option.some (.int (vs.length : Int), nxB hd hb a S) := by
    have e := B'.ed
    simp only [lenD2, e, lenD, itemsD, List.length_map]
  have core : ∃ x : Int, defD 4 (b__law_draw (F k)) [.ref hb, .int (m : Int)] S = Option.some (.int (x % (m : Int)), nxB hd hb a S) := by
    by_cases hc : a < vs.length
    · refine ⟨vs[a], ?_⟩
      have hc' : (a : Int) < vs.length := by omega
      have ix := idxL (i := a) B'.ed (d := .int vs[a]) (by simp [hc])
      simp only [defD_eq, b__law_draw]
      simp [un, addI, st, ln, ltS, hc', ix, modI _ _ _ hm']
    · have hc' : ¬ (a : Int) < vs.length := by omega
      have st' := st
      have un' := un
      have sm := sm_small ha
      generalize (a : Int) = t at hc' st' un' sm
      obtain ⟨x1, hx1⟩ : ∃ x1, x1 = t * t := ⟨_, rfl⟩
      obtain ⟨x2, hx2⟩ : ∃ x2, x2 = x1 * 3 := ⟨_, rfl⟩
      obtain ⟨x3, hx3⟩ : ∃ x3, x3 = t * 4 := ⟨_, rfl⟩
      obtain ⟨x4, hx4⟩ : ∃ x4, x4 = t / 3 := ⟨_, rfl⟩
      refine ⟨x2 + x3 + x4 + 1, ?_⟩
      have m1 : ∀ S, mulD (.int t) (.int t) S = Option.some (.int x1, S) := fun S => by rw [mulI _ _ _ sm, hx1]
      have m2 : ∀ S, mulD (.int x1) (.int 3) S = Option.some (.int x2, S) := fun S => by rw [mulI _ _ _ sm3', hx2]
      have m3 : ∀ S, mulD (.int t) (.int 4) S = Option.some (.int x3, S) := fun S => by rw [mulI _ _ _ sm4', hx3]
      have m4 : ∀ S, fdivD (.int t) (.int 3) S = Option.some (.int x4, S) := fun S => by rw [fdivI _ _ _ dv3, hx4]
      clear hx1 hx2 hx3 hx4 sm
      have eA : sAsg (gUn 2 (gsCons (gNm 2) (gsCons (gNm 3) gsNil))) (fVar 0) [Option.some (.ref hb), Option.some (.int (m : Int)), none, none] S = Option.some (.nx, [Option.some (.ref hb), Option.some (.int (m : Int)), Option.some (.ref hd), Option.some (.int t)], S) := by
        simp [un']
      have eB : sSub (fVar 0) (fC (.int 1)) (fBin addD (fVar 3) (fC (.int 1))) [Option.some (.ref hb), Option.some (.int (m : Int)), Option.some (.ref hd), Option.some (.int t)] S = Option.some (.nx, [Option.some (.ref hb), Option.some (.int (m : Int)), Option.some (.ref hd), Option.some (.int t)], nxB hd hb a S) := by
        simp [addI, st']
      have eC : sIf (fBl (fBin (ltD fun i j => decide (i < j)) (fVar 3) (fCall lenD2 (aCons (fVar 2) aNil)))) (sRet (fBin modD (fBin idxD (fVar 2) (fVar 3)) (fVar 1))) sNx [Option.some (.ref hb), Option.some (.int (m : Int)), Option.some (.ref hd), Option.some (.int t)] (nxB hd hb a S) = Option.some (.nx, [Option.some (.ref hb), Option.some (.int (m : Int)), Option.some (.ref hd), Option.some (.int t)], nxB hd hb a S) := by
        simp [ln, ltS, hc']
      have eD := formE 3 4 3 1 t x1 x2 x3 x4 m [Option.some (.ref hb), Option.some (.int (m : Int)), Option.some (.ref hd), Option.some (.int t)] (nxB hd hb a S) rfl rfl m1 m2 m3 m4 hm'
      have body : (b__law_draw (F k)) [Option.some (.ref hb), Option.some (.int (m : Int)), none, none] S = Option.some (.rt (.int ((x2 + x3 + x4 + 1) % (m : Int))), [Option.some (.ref hb), Option.some (.int (m : Int)), Option.some (.ref hd), Option.some (.int t)], nxB hd hb a S) := by
        unfold b__law_draw
        rw [r_seq, eA, Option.bind_some, r_go1, r_seq, eB, Option.bind_some, r_go1, r_seq, eC, Option.bind_some, r_go1, r_ret, eD, Option.map_some]
      rw [defD_eq]
      have e0 : ([D.ref hb, D.int (m : Int)].map Option.some ++ List.replicate (4 - [D.ref hb, D.int (m : Int)].length) none) = [Option.some (.ref hb), Option.some (.int (m : Int)), none, none] := rfl
      rw [e0, body]
      rfl
  obtain ⟨x, hx⟩ := core
  have h0 : 0 ≤ x % (m : Int) := Int.emod_nonneg _ (by omega)
  have h1 : x % (m : Int) < m := Int.emod_lt_of_pos _ hm'
  refine ⟨(x % (m : Int)).toNat, by omega, ?_⟩
  rw [F_draw]
  have := scopeD_of hx rfl (B.keeps a)
  rw [this]
  have e2 : ((x % (m : Int)).toNat : Int) = x % (m : Int) := Int.toNat_of_nonneg h0
  rw [e2]
  congr 2
  rw [← nxB_len hd hb a S, List.take_length]
/-- one of a list that was laid last -/
theorem pick_ok (k : Nat) {hd hb : Nat} {vs : List Int} {a : Nat} {S : Sto} (B : Bx hd hb vs a S) (ha : a ≤ 40) {hr : Nat} {ds : List D} (er : S[hr]? = Option.some (.lst ds)) (hne : hr ≠ hb) (h0 : 0 < ds.length) (fr : ∀ d ∈ ds, free d = true) : ∃ d, d ∈ ds ∧ F (k + 2) ._law_pick [.ref hb, .ref hr] S = Option.some (d, nxB hd hb a S) := by
  obtain ⟨v, hv, e⟩ := draw_ok k B ha h0
  refine ⟨ds[v], List.getElem_mem hv, ?_⟩
  have ln : lenD2 [.ref hr] S = Option.some (.int (ds.length : Int), S) := by
    simp only [lenD2, er, lenD, itemsD]
  have er' : (nxB hd hb a S)[hr]? = Option.some (.lst ds) := by rw [nxB_get hne]; exact er
  have ix := idxL (i := v) er' (d := ds[v]) (by simp [hv])
  have core : defD 2 (b__law_pick (F (k + 1))) [.ref hb, .ref hr] S = Option.some (ds[v], nxB hd hb a S) := by
    simp only [defD_eq, b__law_pick]
    simp [ln, e, ix]
  rw [F_pick]
  have := scopeD_of core (fr _ (List.getElem_mem hv)) (B.keeps a)
  rw [this]
  congr 2
  rw [← nxB_len hd hb a S, List.take_length]
end K39

set_option Elab.async false
set_option linter.all false
set_option maxRecDepth 100000
set_option maxHeartbeats 4000000
/-! K39rj: drawn words, drawn sentences -/
namespace K39
open PySem PySem.Spec L2 DL
open PyProof.Rows hiding St
theorem cD0 : cD false = .str ks_15 := rfl
theorem cD1 : cD true = .str ks_14 := rfl
theorem pick_c (k : Nat) {hd hb : Nat} {vs : List Int} {a : Nat} {S : Sto} (B : Bx hd hb vs a S) (ha : a ≤ 40) : ∃ (c : Bool) (S' : Sto), F (k + 2) ._law_pick [.ref hb, .ref S.length] (S ++ [.lst [.str ks_15, .str ks_14]]) = Option.some (cD c, S') ∧ Bx hd hb vs (a + 1) S' := by
  have B1 := B.app [.lst [.str ks_15, .str ks_14]]
  obtain ⟨d, hd', e⟩ := pick_ok k B1 ha (hr := S.length) (ds := [.str ks_15, .str ks_14]) (get_end1 _ _) (by
    have := (List.getElem?_eq_some_iff.mp B.eb).1
    omega) (by decide) (by
    intro d hd
    simp only [List.mem_cons, List.not_mem_nil, or_false] at hd
    rcases hd with rfl | rfl <;> rfl)
  simp only [List.mem_cons, List.not_mem_nil, or_false] at hd'
  rcases hd' with rfl | rfl
  · exact ⟨false, _, e, B1.nx⟩
  · exact ⟨true, _, e, B1.nx⟩
theorem word_draw (k : Nat) {hd hb : Nat} {vs : List Int} {a : Nat} {S : Sto} (B : Bx hd hb vs a S) (L : Nat) (hL : a + L ≤ 40) (ρ : DL.Env) (h1 : ρ[1]? = Option.some (Option.some (.ref hb))) : ∃ (w : List Bool) (S' : Sto), lcD (rngSrc 0 L) (gNm 15) tYesD (fCall (chk 2 (F (k + 2) ._law_pick)) (aCons (fVar 1) (aCons (fCall lstD (aCons (fC (.str ks_15)) (aCons (fC (.str ks_14)) aNil))) aNil))) [15] ρ (rngSrc 0 L).n 0 [] S = Option.some (w.map cD, S') ∧ w.length = L ∧ Bx hd hb vs (a + L) S' := by
  obtain ⟨acc, S', e, w, rfl, hw, B'⟩ := lc_inv (src := rngSrc 0 L) (g := gNm 15) (t := tYesD) (f := fCall (chk 2 (F (k + 2) ._law_pick)) (aCons (fVar 1) (aCons (fCall lstD (aCons (fC (.str ks_15)) (aCons (fC (.str ks_14)) aNil))) aNil))) (vs := [15]) (ρ := ρ) (fun i acc S => ∃ w : List Bool, acc = w.map cD ∧ w.length = i ∧ Bx hd hb vs (a + i) S) (fun i acc S hi ⟨w, e1, e2, B⟩ => by
      subst e1
      have hi' : i < L := hi
      obtain ⟨c, S', ep, B'⟩ := pick_c k B (by omega)
      refine ⟨.int ((0 : Int) + i), [(15, .int ((0 : Int) + i))], by simp [rngSrc], rfl, by simp, .inr ⟨S, cD c, S', rfl, ?_, by simp [LINE]; omega, w ++ [c], by simp, by simp [e2], B'⟩⟩
      have h1' : (ρ.set 15 (Option.some (.int ((0 : Int) + i))))[1]? = Option.some (Option.some (.ref hb)) := by
        rw [List.getElem?_set_ne (by decide)]; exact h1
      simp only [r_ups0, r_ups1, r_call, r_cons, r_var, h1', r_c, r_nil, Option.bind_some, Option.map_some, id]
      simp [LINE, ep]) (fun _ _ _ => rfl) (S := S) ⟨[], rfl, rfl, B⟩
  exact ⟨w, S', e, hw, B'⟩
theorem F_sentences (k : Nat) : F (k + 1) ._law_sentences = defD 8 (b__law_sentences (F k)) := rfl
def sens (c d : Bool) : List Fm := [s1 c, s2 c d, s3 c, s4 d, s5 d, s6 c]
theorem sentences_ok (k : Nat) {hd hb : Nat} {vs : List Int} {a : Nat} {S : Sto} (B : Bx hd hb vs a S) (ha : a ≤ 30) : ∃ (c d : Bool) (S' : Sto), F (k + 3) ._law_sentences [.ref hb] S = Option.some (.ref S'.length, S' ++ [.lst ((sens c d).map enc)]) := by
  obtain ⟨c, S1, e1, B1⟩ := pick_c k B (by omega)
  obtain ⟨d, S2, e2, B2⟩ := pick_c k B1 (by omega)
  refine ⟨c, d, S2, ?_⟩
  rw [F_sentences]
  simp only [defD_eq, b__law_sentences]
  simp [LINE, e1, e2, sens, s1, s2, s3, s4, s5, s6, enc]
structure SenOk (φ : Fm) : Prop where
  lr : ∀ S, F 39 ._law_rounds [enc φ] S = Option.some (.int (qr φ : Int), S)
  ok : OkF φ
  no : OkF (.not φ)
theorem sens_ok (c d : Bool) : ∀ φ ∈ sens c d, SenOk φ := by
  intro φ h
  simp only [sens, List.mem_cons, List.not_mem_nil, or_false] at h
  rcases h with rfl | rfl | rfl | rfl | rfl | rfl
  · exact ⟨fun S => lr_s1 30 S c, ok_s1 c, okn_s1 c⟩
  · exact ⟨fun S => lr_s2 30 S c d, ok_s2 c d, okn_s2 c d⟩
  · exact ⟨fun S => lr_s3 30 S c, ok_s3 c, okn_s3 c⟩
  · exact ⟨fun S => lr_s4 30 S d, ok_s4 d, okn_s4 d⟩
  · exact ⟨fun S => lr_s5 30 S d, ok_s5 d, okn_s5 d⟩
  · exact ⟨fun S => lr_s6 30 S c, ok_s6 c, okn_s6 c⟩
end K39

set_option Elab.async false
set_option linter.all false
set_option maxRecDepth 100000
set_option maxHeartbeats 4000000
/-! K39rk: the steps of the law, with what its calls give -/
namespace K39
open PySem PySem.Spec L2 DL
open PyProof.Rows hiding St
section
variable {x0 x10 x11 x12 x13 x14 x15 : Option D} {hb : Nat} {R Ms N Mm NM Fw F1 N2 lw lo lp ls : Int} {w4 w5 k6 k7 kA kN kM kS kF k0 k0' k2 k2n k2m kL kL' wf wo wf1 wo1 : D} {S : Sto}
theorem lw7 (h0 : N + Mm = NM) (h1 : (∀ S, F 39 .kind_power [k6, .int R, .int NM] S = Option.some (kA, S))) : (sSet 10 (fCall (chk 3 (F 39 .kind_power)) (aCons (fVar 6) (aCons (fVar 2) (aCons (fBin addD (fVar 8) (fVar 9)) aNil))))) [x0, Option.some (.ref hb), Option.some (.int R), Option.some (.int Ms), Option.some w4, Option.some w5, Option.some k6, Option.some k7, Option.some (.int N), Option.some (.int Mm), x10, x11, x12, x13, x14, x15] S = Option.some (.nx, [x0, Option.some (.ref hb), Option.some (.int R), Option.some (.int Ms), Option.some w4, Option.some w5, Option.some k6, Option.some k7, Option.some (.int N), Option.some (.int Mm), Option.some kA, x11, x12, x13, x14, x15], S) := by
  simp [addI, h0, h1]
theorem lw8 (h0 : (∀ S, F 39 .kind_power [k6, .int R, .int N] S = Option.some (kN, S))) (h1 : (∀ S, F 39 .kind_power [k6, .int R, .int Mm] S = Option.some (kM, S))) (h2 : (∀ S, F 39 .kind_sum [kN, kM, .int R] S = Option.some (kS, S))) (h3 : (∀ S, neD kA kS S = Option.some (.bl false, S))) : (sIf (fBl (fBin neD (fVar 10) (fCall (chk 3 (F 39 .kind_sum)) (aCons (fCall (chk 3 (F 39 .kind_power)) (aCons (fVar 6) (aCons (fVar 2) (aCons (fVar 8) aNil)))) (aCons (fCall (chk 3 (F 39 .kind_power)) (aCons (fVar 6) (aCons (fVar 2) (aCons (fVar 9) aNil)))) (aCons (fVar 2) aNil)))))) (sRet (fC (.bl false))) sNx) [x0, Option.some (.ref hb), Option.some (.int R), Option.some (.int Ms), Option.some w4, Option.some w5, Option.some k6, Option.some k7, Option.some (.int N), Option.some (.int Mm), Option.some kA, x11, x12, x13, x14, x15] S = Option.some (.nx, [x0, Option.some (.ref hb), Option.some (.int R), Option.some (.int Ms), Option.some w4, Option.some w5, Option.some k6, Option.some k7, Option.some (.int N), Option.some (.int Mm), Option.some kA, x11, x12, x13, x14, x15], S) := by
  simp [h0, h1, h2, h3]
theorem lw9 (h0 : ∀ S, minD [.int N, .int Ms] S = Option.some (.int Fw, S)) : (sSet 11 (fCall minD (aCons (fVar 8) (aCons (fVar 3) aNil)))) [x0, Option.some (.ref hb), Option.some (.int R), Option.some (.int Ms), Option.some w4, Option.some w5, Option.some k6, Option.some k7, Option.some (.int N), Option.some (.int Mm), Option.some kA, x11, x12, x13, x14, x15] S = Option.some (.nx, [x0, Option.some (.ref hb), Option.some (.int R), Option.some (.int Ms), Option.some w4, Option.some w5, Option.some k6, Option.some k7, Option.some (.int N), Option.some (.int Mm), Option.some kA, Option.some (.int Fw), x12, x13, x14, x15], S) := by
  simp [h0]
theorem lw10 (h0 : (∀ S, F 39 .kind_power [k6, .int R, .int N] S = Option.some (kN, S))) (h1 : (∀ S, mulD w4 (.int Fw) S = Option.some (wf, S))) (h2 : (∀ S, F 39 .kind_of [wf, .int R] S = Option.some (kF, S))) (h3 : (∀ S, neD kN kF S = Option.some (.bl false, S))) (h4 : (∀ S, F 39 .kind_power [k6, .int R, .int 0] S = Option.some (k0, S))) (h5 : (∀ S, F 39 .kind_of [(.tup []), .int R] S = Option.some (k0', S))) (h6 : (∀ S, neD k0 k0' S = Option.some (.bl false, S))) : (sIf (tOr' (fBl (fBin neD (fCall (chk 3 (F 39 .kind_power)) (aCons (fVar 6) (aCons (fVar 2) (aCons (fVar 8) aNil)))) (fCall (chk 2 (F 39 .kind_of)) (aCons (fBin mulD (fVar 4) (fVar 11)) (aCons (fVar 2) aNil))))) (fBl (fBin neD (fCall (chk 3 (F 39 .kind_power)) (aCons (fVar 6) (aCons (fVar 2) (aCons (fC (.int 0)) aNil)))) (fCall (chk 2 (F 39 .kind_of)) (aCons (fCall tupD aNil) (aCons (fVar 2) aNil)))))) (sRet (fC (.bl false))) sNx) [x0, Option.some (.ref hb), Option.some (.int R), Option.some (.int Ms), Option.some w4, Option.some w5, Option.some k6, Option.some k7, Option.some (.int N), Option.some (.int Mm), Option.some kA, Option.some (.int Fw), x12, x13, x14, x15] S = Option.some (.nx, [x0, Option.some (.ref hb), Option.some (.int R), Option.some (.int Ms), Option.some w4, Option.some w5, Option.some k6, Option.some k7, Option.some (.int N), Option.some (.int Mm), Option.some kA, Option.some (.int Fw), x12, x13, x14, x15], S) := by
  simp [LINE, h0, h1, h2, h3, h4, h5, h6]
theorem lw11 (h0 : (∀ S, F 39 .kind_power [k6, .int R, .int 2] S = Option.some (k2, S))) (h1 : (∀ S, F 39 .kind_power [k2, .int R, .int N] S = Option.some (k2n, S))) (h2 : (∀ S, mulD (.int 2) (.int N) S = Option.some (.int N2, S))) (h3 : (∀ S, F 39 .kind_power [k6, .int R, .int N2] S = Option.some (k2m, S))) (h4 : (∀ S, neD k2n k2m S = Option.some (.bl false, S))) : (sIf (fBl (fBin neD (fCall (chk 3 (F 39 .kind_power)) (aCons (fCall (chk 3 (F 39 .kind_power)) (aCons (fVar 6) (aCons (fVar 2) (aCons (fC (.int 2)) aNil)))) (aCons (fVar 2) (aCons (fVar 8) aNil)))) (fCall (chk 3 (F 39 .kind_power)) (aCons (fVar 6) (aCons (fVar 2) (aCons (fBin mulD (fC (.int 2)) (fVar 8)) aNil)))))) (sRet (fC (.bl false))) sNx) [x0, Option.some (.ref hb), Option.some (.int R), Option.some (.int Ms), Option.some w4, Option.some w5, Option.some k6, Option.some k7, Option.some (.int N), Option.some (.int Mm), Option.some kA, Option.some (.int Fw), x12, x13, x14, x15] S = Option.some (.nx, [x0, Option.some (.ref hb), Option.some (.int R), Option.some (.int Ms), Option.some w4, Option.some w5, Option.some k6, Option.some k7, Option.some (.int N), Option.some (.int Mm), Option.some kA, Option.some (.int Fw), x12, x13, x14, x15], S) := by
  simp [h0, h1, h2, h3, h4]
theorem lw12 (h0 : (∀ S, F 39 .kind_power [k6, .int R, .int N] S = Option.some (kN, S))) (h1 : (∀ S, F 39 .kind_sum [kN, k7, .int R] S = Option.some (kL, S))) : (sSet 12 (fCall (chk 3 (F 39 .kind_sum)) (aCons (fCall (chk 3 (F 39 .kind_power)) (aCons (fVar 6) (aCons (fVar 2) (aCons (fVar 8) aNil)))) (aCons (fVar 7) (aCons (fVar 2) aNil))))) [x0, Option.some (.ref hb), Option.some (.int R), Option.some (.int Ms), Option.some w4, Option.some w5, Option.some k6, Option.some k7, Option.some (.int N), Option.some (.int Mm), Option.some kA, Option.some (.int Fw), x12, x13, x14, x15] S = Option.some (.nx, [x0, Option.some (.ref hb), Option.some (.int R), Option.some (.int Ms), Option.some w4, Option.some w5, Option.some k6, Option.some k7, Option.some (.int N), Option.some (.int Mm), Option.some kA, Option.some (.int Fw), Option.some kL, x13, x14, x15], S) := by
  simp [h0, h1]
theorem lw13 (h0 : (∀ S, mulD w4 (.int Fw) S = Option.some (wf, S))) (h1 : (∀ S, addD wf w5 S = Option.some (wo, S))) (h2 : (∀ S, F 39 .kind_of [wo, .int R] S = Option.some (kL', S))) (h3 : (∀ S, neD kL kL' S = Option.some (.bl false, S))) : (sIf (fBl (fBin neD (fVar 12) (fCall (chk 2 (F 39 .kind_of)) (aCons (fBin addD (fBin mulD (fVar 4) (fVar 11)) (fVar 5)) (aCons (fVar 2) aNil))))) (sRet (fC (.bl false))) sNx) [x0, Option.some (.ref hb), Option.some (.int R), Option.some (.int Ms), Option.some w4, Option.some w5, Option.some k6, Option.some k7, Option.some (.int N), Option.some (.int Mm), Option.some kA, Option.some (.int Fw), Option.some kL, x13, x14, x15] S = Option.some (.nx, [x0, Option.some (.ref hb), Option.some (.int R), Option.some (.int Ms), Option.some w4, Option.some w5, Option.some k6, Option.some k7, Option.some (.int N), Option.some (.int Mm), Option.some kA, Option.some (.int Fw), Option.some kL, x13, x14, x15], S) := by
  simp [h0, h1, h2, h3]
theorem lw14 (h0 : (∀ S, mulD w4 (.int Fw) S = Option.some (wf, S))) (h1 : (∀ S, addD wf w5 S = Option.some (wo, S))) (h2 : Fw + 1 = F1) (h3 : (∀ S, mulD w4 (.int F1) S = Option.some (wf1, S))) (h4 : (∀ S, addD wf1 w5 S = Option.some (wo1, S))) (h5 : ∀ S, lenD2 [w4] S = Option.some (.int lw, S)) (h6 : ∀ S, lenD2 [w5] S = Option.some (.int lo, S)) (h7 : ∀ S, mulD (.int lw) (.int F1) S = Option.some (.int lp, S)) (h8 : lp + lo = ls) (h9 : 0 < N → Fw < N → ls ≤ 12 → ∀ S, F 39 .same_kind [wo, wo1, .int R] S = Option.some (.tup [.bl true, .non], S)) : (sIf (tAnd' (fBl (fBin (ltD fun i j => decide (j < i)) (fVar 8) (fC (.int 0)))) (tAnd' (fBl (fBin (ltD fun i j => decide (i < j)) (fVar 11) (fVar 8))) (fBl (fBin (ltD fun i j => decide (i ≤ j)) (fBin addD (fBin mulD (fCall lenD2 (aCons (fVar 4) aNil)) (fBin addD (fVar 11) (fC (.int 1)))) (fCall lenD2 (aCons (fVar 5) aNil))) (fC (.int 12)))))) (sIf (fBl (fBin neD (fCall (chk 3 (F 39 .same_kind)) (aCons (fBin addD (fBin mulD (fVar 4) (fVar 11)) (fVar 5)) (aCons (fBin addD (fBin mulD (fVar 4) (fBin addD (fVar 11) (fC (.int 1)))) (fVar 5)) (aCons (fVar 2) aNil)))) (fCall tupD (aCons (fC (.bl true)) (aCons (fC .non) aNil))))) (sRet (fC (.bl false))) sNx) sNx) [x0, Option.some (.ref hb), Option.some (.int R), Option.some (.int Ms), Option.some w4, Option.some w5, Option.some k6, Option.some k7, Option.some (.int N), Option.some (.int Mm), Option.some kA, Option.some (.int Fw), Option.some kL, x13, x14, x15] S = Option.some (.nx, [x0, Option.some (.ref hb), Option.some (.int R), Option.some (.int Ms), Option.some w4, Option.some w5, Option.some k6, Option.some k7, Option.some (.int N), Option.some (.int Mm), Option.some kA, Option.some (.int Fw), Option.some kL, x13, x14, x15], S) := by
  by_cases c1 : 0 < N
  · by_cases c2 : Fw < N
    · by_cases c3 : ls ≤ 12
      · have sk := h9 c1 c2 c3
        simp [ltS, c1, c2, c3, addI, h0, h1, h2, h3, h4, h5, h6, h7, h8, sk, LINE, neTN]
      · simp [ltS, c1, c2, c3, addI, h2, h5, h6, h7, h8]
    · simp [ltS, c1, c2]
  · simp [ltS, c1]
theorem lw15b {φ : Fm} {q : Int} {b : Bool} (h0 : (∀ S, mulD w4 (.int Fw) S = Option.some (wf, S))) (h1 : (∀ S, addD wf w5 S = Option.some (wo, S))) (h2 : ∀ S, F 39 ._law_rounds [enc φ] S = Option.some (.int q, S)) (h3 : q ≤ R → ∀ S, F 39 .holds_of_word [wo, enc φ] S = Option.some (.bl b, S)) (h4 : q ≤ R → ∀ S, F 39 .holds_of_kind [kL, .int R, enc φ] S = Option.some (.bl b, S)) (h5 : q ≤ R → ∀ S, F 39 .holds_of_kind [kL, .int R, enc (.not φ)] S = Option.some (.bl (!b), S)) : ∃ y14, (sIf (fBl (fBin (ltD fun i j => decide (i ≤ j)) (fCall (chk 1 (F 39 ._law_rounds)) (aCons (fVar 13) aNil)) (fVar 2))) (sSeq (sSet 14 (fCall (chk 2 (F 39 .holds_of_word)) (aCons (fBin addD (fBin mulD (fVar 4) (fVar 11)) (fVar 5)) (aCons (fVar 13) aNil))))
    (sSeq (sIf (tNot' (fTru (fCall (chk 2 (F 39 ._law_same)) (aCons (fCall (chk 3 (F 39 .holds_of_kind)) (aCons (fVar 12) (aCons (fVar 2) (aCons (fVar 13) aNil)))) (aCons (fVar 14) aNil))))) (sRet (fC (.bl false))) sNx)
    (sIf (fBl (fBin eqD (fCall (chk 3 (F 39 .holds_of_kind)) (aCons (fVar 12) (aCons (fVar 2) (aCons (fCall tupD (aCons (fC (.str ks_6)) (aCons (fVar 13) aNil))) aNil)))) (fVar 14))) (sRet (fC (.bl false))) sNx))) sNx) [x0, Option.some (.ref hb), Option.some (.int R), Option.some (.int Ms), Option.some w4, Option.some w5, Option.some k6, Option.some k7, Option.some (.int N), Option.some (.int Mm), Option.some kA, Option.some (.int Fw), Option.some kL, Option.some (enc φ), x14, x15] S = Option.some (.nx, [x0, Option.some (.ref hb), Option.some (.int R), Option.some (.int Ms), Option.some w4, Option.some w5, Option.some k6, Option.some k7, Option.some (.int N), Option.some (.int Mm), Option.some kA, Option.some (.int Fw), Option.some kL, Option.some (enc φ), y14, x15], S) := by
  by_cases c1 : q ≤ R
  · refine ⟨Option.some (.bl b), ?_⟩
    have g3 := h3 c1
    have g4 := h4 c1
    have g5 := h5 c1
    have en : D.tup [.str ks_6, enc φ] = enc (.not φ) := rfl
    have sm : ∀ S, F 39 ._law_same [.bl b, .bl b] S = Option.some (.bl true, S) := fun S => same_ok 38 b S
    simp [ltS, c1, h0, h1, h2, g3, g4, g5, LINE, en, sm, eqBl]
  · exact ⟨x14, by simp [ltS, c1, h2]⟩
end
end K39

set_option Elab.async false
set_option linter.all false
set_option maxRecDepth 100000
set_option maxHeartbeats 4000000
/-! K39rl: the law from its kinds on -/
namespace K39
open PySem PySem.Spec L2 DL
open PyProof.Rows hiding St
theorem pow_len (w : List Bool) (k : Nat) : (pow w k).length = k * w.length := by
  induction k with
  | zero => simp [pow]
  | succ k ih => rw [pow_add, pow_one, List.length_append, ih, Nat.succ_mul]
theorem mulW (w : List Bool) (f : Nat) (hf : f ≤ 10) (hw : w.length ≤ 12) (S : Sto) : mulD (wD w) (.int (f : Int)) S = Option.some (wD (pow w f), S) := by
  simp only [mulD, wD]
  rw [if_pos ⟨⟨by omega, by omega⟩, by rw [List.length_map]; omega⟩]
  have : (List.replicate (f : Int).toNat (w.map cD)).flatten = (pow w f).map cD := by
    simp [pow, List.map_flatten]
  rw [this]
theorem addW (a b : List Bool) (h : a.length + b.length ≤ 100) (S : Sto) : addD (wD a) (wD b) S = Option.some (wD (a ++ b), S) := by
  simp only [addD, wD]
  rw [if_pos (by simp only [List.length_map, LINE]; omega), List.map_append]
theorem minN (n k : Nat) (S : Sto) : minD [.int (n : Int), .int (k : Int)] S = Option.some (.int ((min n k : Nat) : Int), S) := by
  simp only [minD]
  by_cases h : (k : Int) < (n : Int)
  · rw [if_pos h, Nat.min_eq_right (by omega)]
  · rw [if_neg h, Nat.min_eq_left (by omega)]
theorem mulI1 (S : Sto) (i j : Int) (h : small64 i = true) : mulD (.int i) (.int j) S = Option.some (.int (i * j), S) := by
  simp only [mulD, if_pos (Or.inl h : small64 i = true ∨ small64 j = true)]
section
variable {x0 x10 x11 x12 x13 x14 x15 : Option D}
theorem most_le (r : Nat) : most r ≤ 3 := by unfold most; split <;> omega
theorem loop15 {r : Nat} (h1 : 1 ≤ r) (h2 : r ≤ 2) {w o : List Bool} (hw1 : 1 ≤ w.length) (hw3 : w.length ≤ 3) (ho : o.length ≤ 3) (n m : Nat) (hb : Nat) (S : Sto) (c d : Bool) (hh : Nat) (es : S[hh]? = Option.some (.lst ((sens c d).map enc))) :
    ∃ ρ', forD (lstSrc hh 6) (gNm 13) (sIf (fBl (fBin (ltD fun i j => decide (i ≤ j)) (fCall (chk 1 (F 39 ._law_rounds)) (aCons (fVar 13) aNil)) (fVar 2))) (sSeq (sSet 14 (fCall (chk 2 (F 39 .holds_of_word)) (aCons (fBin addD (fBin mulD (fVar 4) (fVar 11)) (fVar 5)) (aCons (fVar 13) aNil))))
    (sSeq (sIf (tNot' (fTru (fCall (chk 2 (F 39 ._law_same)) (aCons (fCall (chk 3 (F 39 .holds_of_kind)) (aCons (fVar 12) (aCons (fVar 2) (aCons (fVar 13) aNil)))) (aCons (fVar 14) aNil))))) (sRet (fC (.bl false))) sNx)
    (sIf (fBl (fBin eqD (fCall (chk 3 (F 39 .holds_of_kind)) (aCons (fVar 12) (aCons (fVar 2) (aCons (fCall tupD (aCons (fC (.str ks_6)) (aCons (fVar 13) aNil))) aNil)))) (fVar 14))) (sRet (fC (.bl false))) sNx))) sNx) (lstSrc hh 6).n 0 [x0, Option.some (.ref hb), Option.some (.int (r : Int)), Option.some (.int (most r : Int)), Option.some (wD w), Option.some (wD o), Option.some (kr r w), Option.some (kr r o), Option.some (.int (n : Int)), Option.some (.int (m : Int)), Option.some (kr r (pow w (n + m))), Option.some (.int ((min n (most r) : Nat) : Int)), Option.some (kr r (pow w (min n (most r)) ++ o)), x13, x14, x15] S = Option.some (.nx, ρ', S) := by
  have hm := most_le r
  have hfew : min n (most r) ≤ 3 := Nat.le_trans (Nat.min_le_right ..) hm
  have hlen : (pow w (min n (most r)) ++ o).length ≤ 12 := by
    rw [List.length_append, pow_len]
    have : min n (most r) * w.length ≤ 3 * 3 := Nat.mul_le_mul hfew hw3
    omega
  obtain ⟨ρ', S', e, y13, y14, e1, e2⟩ := for_inv (src := lstSrc hh 6) (g := gNm 13) (b := (sIf (fBl (fBin (ltD fun i j => decide (i ≤ j)) (fCall (chk 1 (F 39 ._law_rounds)) (aCons (fVar 13) aNil)) (fVar 2))) (sSeq (sSet 14 (fCall (chk 2 (F 39 .holds_of_word)) (aCons (fBin addD (fBin mulD (fVar 4) (fVar 11)) (fVar 5)) (aCons (fVar 13) aNil))))
    (sSeq (sIf (tNot' (fTru (fCall (chk 2 (F 39 ._law_same)) (aCons (fCall (chk 3 (F 39 .holds_of_kind)) (aCons (fVar 12) (aCons (fVar 2) (aCons (fVar 13) aNil)))) (aCons (fVar 14) aNil))))) (sRet (fC (.bl false))) sNx)
    (sIf (fBl (fBin eqD (fCall (chk 3 (F 39 .holds_of_kind)) (aCons (fVar 12) (aCons (fVar 2) (aCons (fCall tupD (aCons (fC (.str ks_6)) (aCons (fVar 13) aNil))) aNil)))) (fVar 14))) (sRet (fC (.bl false))) sNx))) sNx)) (fun i ρ S' => ∃ y13 y14, ρ = [x0, Option.some (.ref hb), Option.some (.int (r : Int)), Option.some (.int (most r : Int)), Option.some (wD w), Option.some (wD o), Option.some (kr r w), Option.some (kr r o), Option.some (.int (n : Int)), Option.some (.int (m : Int)), Option.some (kr r (pow w (n + m))), Option.some (.int ((min n (most r) : Nat) : Int)), Option.some (kr r (pow w (min n (most r)) ++ o)), y13, y14, x15] ∧ S' = S) (fun i ρ S' hi ⟨y13, y14, e1, e2⟩ => by
      subst e1
      subst e2
      have hi' : i < 6 := hi
      have hl : (sens c d).length = 6 := rfl
      have hφ : (sens c d)[i]'(by rw [hl]; exact hi') ∈ sens c d := List.getElem_mem _
      generalize hg : (sens c d)[i]'(by rw [hl]; exact hi') = φ at hφ
      have sk := sens_ok c d φ hφ
      obtain ⟨y14', eb⟩ := lw15b (x0 := x0) (x14 := y14) (x15 := x15) (hb := hb) (R := (r : Int)) (Ms := (most r : Int)) (N := (n : Int)) (Mm := (m : Int)) (Fw := ((min n (most r) : Nat) : Int)) (w4 := wD w) (w5 := wD o) (k6 := kr r w) (k7 := kr r o) (kA := kr r (pow w (n + m))) (kL := kr r (pow w (min n (most r)) ++ o)) (wf := wD (pow w (min n (most r)))) (wo := wD (pow w (min n (most r)) ++ o)) (S := S') (φ := φ) (q := (qr φ : Int)) (b := wt (pow w (min n (most r)) ++ o) φ fun _ => none)
        (mulW w _ (by omega) (by omega)) (addW _ _ (by rw [List.length_append] at hlen; omega)) sk.lr (fun _ S => holds_word_ok 27 hlen sk.ok S) (fun hq S => holds_kind_ok 24 h2 sk.ok (by omega) S) (fun hq S => holds_kind_ok 24 h2 sk.no (by
          have : qr (.not φ) = qr φ := rfl
          omega) S)
      refine ⟨enc φ, [(13, enc φ)], _, _, ?_, rfl, eb, _, _, rfl, rfl⟩
      have W := walks_lst es
      have w' := W.it [] i
      rw [List.append_nil, List.getElem?_map, List.getElem?_eq_getElem (by rw [hl]; exact hi'), hg] at w'
      exact w') (fun ρ S' ⟨y13, y14, e1, e2⟩ => by
      subst e2
      have W := walks_lst es
      have w' := W.ok []
      rw [List.append_nil] at w'
      exact w') (ρ := [x0, Option.some (.ref hb), Option.some (.int (r : Int)), Option.some (.int (most r : Int)), Option.some (wD w), Option.some (wD o), Option.some (kr r w), Option.some (kr r o), Option.some (.int (n : Int)), Option.some (.int (m : Int)), Option.some (kr r (pow w (n + m))), Option.some (.int ((min n (most r) : Nat) : Int)), Option.some (kr r (pow w (min n (most r)) ++ o)), x13, x14, x15]) (S := S) ⟨x13, x14, rfl, rfl⟩
  subst e2
  exact ⟨ρ', e⟩
theorem law_tail {r : Nat} (h1 : 1 ≤ r) (h2 : r ≤ 2) {w o : List Bool} (hw1 : 1 ≤ w.length) (hw3 : w.length ≤ 3) (ho : o.length ≤ 3) (n m : Nat) (hn : n < 2 ^ 125) (hm' : m < 2 ^ 125) {hd hb : Nat} {vs : List Int} {a : Nat} {S : Sto} (B : Bx hd hb vs a S) (ha : a ≤ 30) :
    ∃ ρ' S', (sSeq (sSet 10 (fCall (chk 3 (F 39 .kind_power)) (aCons (fVar 6) (aCons (fVar 2) (aCons (fBin addD (fVar 8) (fVar 9)) aNil))))) (sSeq (sIf (fBl (fBin neD (fVar 10) (fCall (chk 3 (F 39 .kind_sum)) (aCons (fCall (chk 3 (F 39 .kind_power)) (aCons (fVar 6) (aCons (fVar 2) (aCons (fVar 8) aNil)))) (aCons (fCall (chk 3 (F 39 .kind_power)) (aCons (fVar 6) (aCons (fVar 2) (aCons (fVar 9) aNil)))) (aCons (fVar 2) aNil)))))) (sRet (fC (.bl false))) sNx) (sSeq (sSet 11 (fCall minD (aCons (fVar 8) (aCons (fVar 3) aNil)))) (sSeq (sIf (tOr' (fBl (fBin neD (fCall (chk 3 (F 39 .kind_power)) (aCons (fVar 6) (aCons (fVar 2) (aCons (fVar 8) aNil)))) (fCall (chk 2 (F 39 .kind_of)) (aCons (fBin mulD (fVar 4) (fVar 11)) (aCons (fVar 2) aNil))))) (fBl (fBin neD (fCall (chk 3 (F 39 .kind_power)) (aCons (fVar 6) (aCons (fVar 2) (aCons (fC (.int 0)) aNil)))) (fCall (chk 2 (F 39 .kind_of)) (aCons (fCall tupD aNil) (aCons (fVar 2) aNil)))))) (sRet (fC (.bl false))) sNx) (sSeq (sIf (fBl (fBin neD (fCall (chk 3 (F 39 .kind_power)) (aCons (fCall (chk 3 (F 39 .kind_power)) (aCons (fVar 6) (aCons (fVar 2) (aCons (fC (.int 2)) aNil)))) (aCons (fVar 2) (aCons (fVar 8) aNil)))) (fCall (chk 3 (F 39 .kind_power)) (aCons (fVar 6) (aCons (fVar 2) (aCons (fBin mulD (fC (.int 2)) (fVar 8)) aNil)))))) (sRet (fC (.bl false))) sNx) (sSeq (sSet 12 (fCall (chk 3 (F 39 .kind_sum)) (aCons (fCall (chk 3 (F 39 .kind_power)) (aCons (fVar 6) (aCons (fVar 2) (aCons (fVar 8) aNil)))) (aCons (fVar 7) (aCons (fVar 2) aNil))))) (sSeq (sIf (fBl (fBin neD (fVar 12) (fCall (chk 2 (F 39 .kind_of)) (aCons (fBin addD (fBin mulD (fVar 4) (fVar 11)) (fVar 5)) (aCons (fVar 2) aNil))))) (sRet (fC (.bl false))) sNx) (sSeq (sIf (tAnd' (fBl (fBin (ltD fun i j => decide (j < i)) (fVar 8) (fC (.int 0)))) (tAnd' (fBl (fBin (ltD fun i j => decide (i < j)) (fVar 11) (fVar 8))) (fBl (fBin (ltD fun i j => decide (i ≤ j)) (fBin addD (fBin mulD (fCall lenD2 (aCons (fVar 4) aNil)) (fBin addD (fVar 11) (fC (.int 1)))) (fCall lenD2 (aCons (fVar 5) aNil))) (fC (.int 12)))))) (sIf (fBl (fBin neD (fCall (chk 3 (F 39 .same_kind)) (aCons (fBin addD (fBin mulD (fVar 4) (fVar 11)) (fVar 5)) (aCons (fBin addD (fBin mulD (fVar 4) (fBin addD (fVar 11) (fC (.int 1)))) (fVar 5)) (aCons (fVar 2) aNil)))) (fCall tupD (aCons (fC (.bl true)) (aCons (fC .non) aNil))))) (sRet (fC (.bl false))) sNx) sNx) (sSeq (sFor (fSeq (fCall (chk 1 (F 39 ._law_sentences)) (aCons (fVar 1) aNil))) (gNm 13)
      (sIf (fBl (fBin (ltD fun i j => decide (i ≤ j)) (fCall (chk 1 (F 39 ._law_rounds)) (aCons (fVar 13) aNil)) (fVar 2))) (sSeq (sSet 14 (fCall (chk 2 (F 39 .holds_of_word)) (aCons (fBin addD (fBin mulD (fVar 4) (fVar 11)) (fVar 5)) (aCons (fVar 13) aNil))))
    (sSeq (sIf (tNot' (fTru (fCall (chk 2 (F 39 ._law_same)) (aCons (fCall (chk 3 (F 39 .holds_of_kind)) (aCons (fVar 12) (aCons (fVar 2) (aCons (fVar 13) aNil)))) (aCons (fVar 14) aNil))))) (sRet (fC (.bl false))) sNx)
    (sIf (fBl (fBin eqD (fCall (chk 3 (F 39 .holds_of_kind)) (aCons (fVar 12) (aCons (fVar 2) (aCons (fCall tupD (aCons (fC (.str ks_6)) (aCons (fVar 13) aNil))) aNil)))) (fVar 14))) (sRet (fC (.bl false))) sNx))) sNx)) (sRet (fC (.bl true)))))))))))) [x0, Option.some (.ref hb), Option.some (.int (r : Int)), Option.some (.int (most r : Int)), Option.some (wD w), Option.some (wD o), Option.some (kr r w), Option.some (kr r o), Option.some (.int (n : Int)), Option.some (.int (m : Int)), x10, x11, x12, x13, x14, x15] S = Option.some (.rt (.bl true), ρ', S') := by
  have hm := most_le r
  have hfew : min n (most r) ≤ 3 := Nat.le_trans (Nat.min_le_right ..) hm
  have hpl : min n (most r) * w.length ≤ 3 * 3 := Nat.mul_le_mul hfew hw3
  have hlen : (pow w (min n (most r)) ++ o).length ≤ 12 := by
    rw [List.length_append, pow_len]
    omega
  have big1 : n + m < 2 ^ 127 := by
    have : 2 ^ 125 + 2 ^ 125 ≤ 2 ^ 127 := by decide +kernel
    omega
  have big2 : n < 2 ^ 127 := Nat.lt_of_le_of_lt (Nat.le_add_right n m) big1
  have big3 : m < 2 ^ 127 := Nat.lt_of_le_of_lt (Nat.le_add_left m n) big1
  have big4 : 2 * n < 2 ^ 127 := by
    have : 2 * 2 ^ 125 ≤ 2 ^ 127 := by decide +kernel
    omega
  have kp : ∀ (x : List Bool) (i : Nat), i < 2 ^ 127 → ∀ S, F 39 .kind_power [kr r x, .int (r : Int), .int (i : Int)] S = Option.some (kr r (pow x i), S) := fun x i hi S => kind_power_ok 35 h1 h2 x i hi S
  have ksm : ∀ (x y : List Bool) S, F 39 .kind_sum [kr r x, kr r y, .int (r : Int)] S = Option.some (kr r (x ++ y), S) := fun x y S => kind_sum_ok 35 h1 h2 x y S
  have ko : ∀ (x : List Bool), x.length ≤ 12 → ∀ S, F 39 .kind_of [wD x, .int (r : Int)] S = Option.some (kr r x, S) := fun x hx S => kind_of_ok 35 r h2 x hx S
  have eN : kr r (pow w n) = kr r (pow w (min n (most r))) := stab_min h1 h2 hw1 hw3 n
  have eL : kr r (pow w n ++ o) = kr r (pow w (min n (most r)) ++ o) := kr_congr h1 h2 eN rfl
  have pl : ∀ k, (pow w k).length = k * w.length := pow_len w
  have mW := mulW w (min n (most r)) (by omega) (by omega)
  have aW := addW (pow w (min n (most r))) o (by rw [List.length_append] at hlen; omega)
  have z0 : kr r (pow w 0) = kr r [] := rfl
  have z2 : kr r (pow (pow w 2) n) = kr r (pow w (2 * n)) := by rw [pow_mul]
  have s7 := lw7 (x0 := x0) (x10 := x10) (x11 := x11) (x12 := x12) (x13 := x13) (x14 := x14) (x15 := x15) (hb := hb) (R := (r : Int)) (Ms := (most r : Int)) (N := (n : Int)) (Mm := (m : Int)) (NM := ((n + m : Nat) : Int)) (w4 := wD w) (w5 := wD o) (k6 := kr r w) (k7 := kr r o) (S := S) (Int.natCast_add n m).symm (kp w (n + m) big1)
  have s8 := lw8 (x0 := x0) (x11 := x11) (x12 := x12) (x13 := x13) (x14 := x14) (x15 := x15) (hb := hb) (R := (r : Int)) (Ms := (most r : Int)) (N := (n : Int)) (Mm := (m : Int)) (w4 := wD w) (w5 := wD o) (k6 := kr r w) (k7 := kr r o) (S := S) (kp w n big2) (kp w m big3) (ksm _ _) (neKr h2 (show kr r (pow w (n + m)) = _ by rw [pow_add]))
  have s9 := lw9 (x0 := x0) (x11 := x11) (x12 := x12) (x13 := x13) (x14 := x14) (x15 := x15) (hb := hb) (R := (r : Int)) (Ms := (most r : Int)) (N := (n : Int)) (Mm := (m : Int)) (w4 := wD w) (w5 := wD o) (k6 := kr r w) (k7 := kr r o) (kA := kr r (pow w (n + m))) (S := S) (minN n (most r))
  have s10 := lw10 (x0 := x0) (x12 := x12) (x13 := x13) (x14 := x14) (x15 := x15) (hb := hb) (R := (r : Int)) (Ms := (most r : Int)) (N := (n : Int)) (Mm := (m : Int)) (w4 := wD w) (w5 := wD o) (k6 := kr r w) (k7 := kr r o) (kA := kr r (pow w (n + m))) (S := S) (kp w n big2) mW (ko _ (by rw [pl]; omega)) (neKr h2 eN) (kp w 0 (by decide +kernel)) (ko [] (by decide)) (neKr h2 z0)
  have s11 := lw11 (x0 := x0) (x12 := x12) (x13 := x13) (x14 := x14) (x15 := x15) (hb := hb) (R := (r : Int)) (Ms := (most r : Int)) (N := (n : Int)) (Mm := (m : Int)) (Fw := ((min n (most r) : Nat) : Int)) (N2 := ((2 * n : Nat) : Int)) (w4 := wD w) (w5 := wD o) (k6 := kr r w) (k7 := kr r o) (kA := kr r (pow w (n + m))) (S := S) (kp w 2 (by decide +kernel)) (kp (pow w 2) n big2) (fun S => (mulI1 S 2 (n : Int) sm5).trans (by rw [Int.natCast_mul]; rfl)) (kp w (2 * n) big4) (neKr h2 z2)
  have s12 := lw12 (x0 := x0) (x12 := x12) (x13 := x13) (x14 := x14) (x15 := x15) (hb := hb) (R := (r : Int)) (Ms := (most r : Int)) (N := (n : Int)) (Mm := (m : Int)) (Fw := ((min n (most r) : Nat) : Int)) (w4 := wD w) (w5 := wD o) (k6 := kr r w) (k7 := kr r o) (kA := kr r (pow w (n + m))) (S := S) (kp w n big2) (fun S => (ksm (pow w n) o S).trans (by rw [eL]))
  have s13 := lw13 (x0 := x0) (x13 := x13) (x14 := x14) (x15 := x15) (hb := hb) (R := (r : Int)) (Ms := (most r : Int)) (N := (n : Int)) (Mm := (m : Int)) (w4 := wD w) (w5 := wD o) (k6 := kr r w) (k7 := kr r o) (kA := kr r (pow w (n + m))) (S := S) mW aW (ko _ hlen) (neKr h2 (rfl : kr r (pow w (min n (most r)) ++ o) = _))
  have mW1 := mulW w (min n (most r) + 1) (by omega) (by omega)
  have hpl1 : (min n (most r) + 1) * w.length ≤ 4 * 3 := Nat.mul_le_mul (by omega) hw3
  have aW1 := addW (pow w (min n (most r) + 1)) o (by rw [pl]; omega)
  have lnW : ∀ (x : List Bool) S, lenD2 [wD x] S = Option.some (.int (x.length : Int), S) := lenW
  have s14 := lw14 (x0 := x0) (x13 := x13) (x14 := x14) (x15 := x15) (hb := hb) (R := (r : Int)) (Ms := (most r : Int)) (N := (n : Int)) (Mm := (m : Int)) (Fw := ((min n (most r) : Nat) : Int)) (F1 := ((min n (most r) + 1 : Nat) : Int)) (lp := ((w.length * (min n (most r) + 1) : Nat) : Int)) (ls := ((w.length * (min n (most r) + 1) + o.length : Nat) : Int)) (w4 := wD w) (w5 := wD o) (k6 := kr r w) (k7 := kr r o) (kA := kr r (pow w (n + m))) (kL := kr r (pow w (min n (most r)) ++ o)) (S := S) mW aW (Int.natCast_add _ 1).symm mW1 aW1 (lnW w) (lnW o) (fun S => (mulI S _ _ (sm_small (by omega))).trans (by rw [Int.natCast_mul])) (Int.natCast_add _ _).symm (fun c1 c2 c3 S => by
      have c3' : w.length * (min n (most r) + 1) + o.length ≤ 12 := by omega
      have c2' : min n (most r) < n := by omega
      have e3 : min n (most r) = most r := by omega
      refine same_kind_ok 34 h2 hlen (by rw [List.length_append, pl, Nat.mul_comm]; exact c3') ?_ S
      rw [e3]
      exact kr_congr h1 h2 (stab1 h1 h2 hw1 hw3).symm rfl)
  obtain ⟨c, d, S1, es⟩ := sentences_ok 36 B ha
  obtain ⟨ρ', el⟩ := loop15 (x0 := x0) (x13 := x13) (x14 := x14) (x15 := x15) h1 h2 hw1 hw3 ho n m hb (S1 ++ [.lst ((sens c d).map enc)]) c d S1.length (get_end1 _ _)
  have sq : seqS (.ref S1.length) (S1 ++ [.lst ((sens c d).map enc)]) = Option.some (lstSrc S1.length 6, S1 ++ [.lst ((sens c d).map enc)]) := by
    simp only [seqS, get_end1]
    rfl
  have s15 : (sFor (fSeq (fCall (chk 1 (F 39 ._law_sentences)) (aCons (fVar 1) aNil))) (gNm 13)
      (sIf (fBl (fBin (ltD fun i j => decide (i ≤ j)) (fCall (chk 1 (F 39 ._law_rounds)) (aCons (fVar 13) aNil)) (fVar 2))) (sSeq (sSet 14 (fCall (chk 2 (F 39 .holds_of_word)) (aCons (fBin addD (fBin mulD (fVar 4) (fVar 11)) (fVar 5)) (aCons (fVar 13) aNil))))
    (sSeq (sIf (tNot' (fTru (fCall (chk 2 (F 39 ._law_same)) (aCons (fCall (chk 3 (F 39 .holds_of_kind)) (aCons (fVar 12) (aCons (fVar 2) (aCons (fVar 13) aNil)))) (aCons (fVar 14) aNil))))) (sRet (fC (.bl false))) sNx)
    (sIf (fBl (fBin eqD (fCall (chk 3 (F 39 .holds_of_kind)) (aCons (fVar 12) (aCons (fVar 2) (aCons (fCall tupD (aCons (fC (.str ks_6)) (aCons (fVar 13) aNil))) aNil)))) (fVar 14))) (sRet (fC (.bl false))) sNx))) sNx)) [x0, Option.some (.ref hb), Option.some (.int (r : Int)), Option.some (.int (most r : Int)), Option.some (wD w), Option.some (wD o), Option.some (kr r w), Option.some (kr r o), Option.some (.int (n : Int)), Option.some (.int (m : Int)), Option.some (kr r (pow w (n + m))), Option.some (.int ((min n (most r) : Nat) : Int)), Option.some (kr r (pow w (min n (most r)) ++ o)), x13, x14, x15] S = Option.some (.nx, ρ', S1 ++ [.lst ((sens c d).map enc)]) := by
    rw [r_for, r_fseq, r_call, r_cons, r_var]
    simp only [List.getElem?_cons_succ, List.getElem?_cons_zero, Option.bind_some, Option.map_some, id, r_nil, r_chk, List.length_cons, List.length_nil, Nat.zero_add, if_true, es, sq]
    exact el
  refine ⟨ρ', S1 ++ [.lst ((sens c d).map enc)], ?_⟩
  rw [r_seq, s7, Option.bind_some, r_go1, r_seq, s8, Option.bind_some, r_go1, r_seq, s9, Option.bind_some, r_go1, r_seq, s10, Option.bind_some, r_go1, r_seq, s11, Option.bind_some, r_go1, r_seq, s12, Option.bind_some, r_go1, r_seq, s13, Option.bind_some, r_go1, r_seq, s14, Option.bind_some, r_go1, r_seq, s15, Option.bind_some, r_go1, r_ret, r_c, Option.map_some]
end
end K39

set_option Elab.async false
set_option linter.all false
set_option maxRecDepth 100000
set_option maxHeartbeats 4000000
/-! K39rm: the law is true -/
namespace K39
open PySem PySem.Spec L2 DL
open PyProof.Rows hiding St
theorem pow30 : ∃ Z : Nat, (∀ S, powD (.int 10) (.int 30) S = Option.some (.int (Z : Int), S)) ∧ Z + 1 < 2 ^ 125 := ⟨10 ^ 30, fun S => by
  have h : powD (.int 10) (.int 30) [] = Option.some (.int ((10 ^ 30 : Nat) : Int), []) := by kernel_rfl
  have e : powD (.int 10) (.int 30) S = (powD (.int 10) (.int 30) []).map fun p => (p.1, S) := rfl
  rw [e, h]; rfl, by decide +kernel⟩
theorem pow29 : ∃ Z : Nat, (∀ S, powD (.int 10) (.int 29) S = Option.some (.int (Z : Int), S)) ∧ Z < 2 ^ 125 := ⟨10 ^ 29, fun S => by
  have h : powD (.int 10) (.int 29) [] = Option.some (.int ((10 ^ 29 : Nat) : Int), []) := by kernel_rfl
  have e : powD (.int 10) (.int 29) S = (powD (.int 10) (.int 29) []).map fun p => (p.1, S) := rfl
  rw [e, h]; rfl, by decide +kernel⟩
theorem wW (w : List Bool) : D.tup (w.map cD) = wD w := rfl
theorem tupL (S : Sto) (xs : List D) : tupleD [.ref S.length] (S ++ [.lst xs]) = Option.some (.tup xs, S ++ [.lst xs]) := by
  simp only [tupleD, itemsD, get_end1]
theorem fr1 {ns : List Int} {hd hb : Nat} {vs : List Int} {a : Nat} {S : Sto} (B : Bx hd hb vs a S) (ha : a ≤ 20) : ∃ (r : Nat) (S' : Sto), (sSet 2 (fBin addD (fC (.int 1)) (fCall (chk 2 (F 39 ._law_draw)) (aCons (fVar 1) (aCons (fC (.int 2)) aNil))))) [Option.some (.fro (ns.map D.int)), Option.some (.ref hb), none, none, none, none, none, none, none, none, none, none, none, none, none, none] S = Option.some (.nx, [Option.some (.fro (ns.map D.int)), Option.some (.ref hb), Option.some (.int (r : Int)), none, none, none, none, none, none, none, none, none, none, none, none, none], S') ∧ 1 ≤ r ∧ r ≤ 2 ∧ Bx hd hb vs (a + 1) S' := by
  obtain ⟨v, hv, e⟩ := draw_ok 38 B (by omega) (m := 2) (by decide)
  have e' : F 39 ._law_draw [.ref hb, .int 2] S = Option.some (.int (v : Int), nxB hd hb a S) := e
  refine ⟨1 + v, _, ?_, by omega, by omega, B.nx⟩
  have c : (1 : Int) + (v : Int) = ((1 + v : Nat) : Int) := (Int.natCast_add 1 v).symm
  simp only [r_set, r_bin, r_c, r_call, r_cons, r_var, r_nil, List.getElem?_cons_succ, List.getElem?_cons_zero, Option.bind_some, Option.map_some, id, r_chk, List.length_cons, List.length_nil, Nat.zero_add, if_true, e', addI, c, List.set_cons_succ, List.set_cons_zero]
theorem fr2 {ns : List Int} {hd hb : Nat} {vs : List Int} {a : Nat} {S : Sto} (B : Bx hd hb vs a S) {r : Nat} (h1 : 1 ≤ r) (h2 : r ≤ 2) : ∃ (S' : Sto), (sSet 3 (fBin idxD (fCall lstD (aCons (fC (.int 0)) (aCons (fC (.int 1)) (aCons (fC (.int 3)) aNil)))) (fVar 2))) [Option.some (.fro (ns.map D.int)), Option.some (.ref hb), Option.some (.int (r : Int)), none, none, none, none, none, none, none, none, none, none, none, none, none] S = Option.some (.nx, [Option.some (.fro (ns.map D.int)), Option.some (.ref hb), Option.some (.int (r : Int)), Option.some (.int (most r : Int)), none, none, none, none, none, none, none, none, none, none, none, none], S') ∧ Bx hd hb vs a S' := by
  refine ⟨S ++ [.lst [.int 0, .int 1, .int 3]], ?_, B.app _⟩
  have ix : idxD (.ref S.length) (.int (r : Int)) (S ++ [.lst [.int 0, .int 1, .int 3]]) = Option.some (.int (most r : Int), S ++ [.lst [.int 0, .int 1, .int 3]]) := by
    refine idxL (get_end1 _ _) ?_
    obtain rfl | rfl : r = 1 ∨ r = 2 := by omega
    · rfl
    · rfl
  have lst : lstD [.int 0, .int 1, .int 3] S = Option.some (.ref S.length, S ++ [.lst [.int 0, .int 1, .int 3]]) := by rw [r_lst, if_pos (by decide)]
  simp only [r_set, r_bin, r_c, r_call, r_cons, r_var, r_nil, List.getElem?_cons_succ, List.getElem?_cons_zero, Option.bind_some, Option.map_some, id, lst, ix, List.set_cons_succ, List.set_cons_zero]
theorem fr3 {ns : List Int} {hd hb : Nat} {vs : List Int} {a : Nat} {S : Sto} (B : Bx hd hb vs a S) (ha : a ≤ 20) {r : Nat} : ∃ (w : List Bool) (S' : Sto), (sSet 4 (fCall tupleD (aCons (fLc (fRng1 (aCons (fBin addD (fC (.int 1)) (fCall (chk 2 (F 39 ._law_draw)) (aCons (fVar 1) (aCons (fC (.int 3)) aNil)))) aNil)) (gNm 15) tYesD (fCall (chk 2 (F 39 ._law_pick)) (aCons (fVar 1) (aCons (fCall lstD (aCons (fC (.str ks_15)) (aCons (fC (.str ks_14)) aNil))) aNil))) [15]) aNil))) [Option.some (.fro (ns.map D.int)), Option.some (.ref hb), Option.some (.int (r : Int)), Option.some (.int (most r : Int)), none, none, none, none, none, none, none, none, none, none, none, none] S = Option.some (.nx, [Option.some (.fro (ns.map D.int)), Option.some (.ref hb), Option.some (.int (r : Int)), Option.some (.int (most r : Int)), Option.some (wD w), none, none, none, none, none, none, none, none, none, none, none], S') ∧ 1 ≤ w.length ∧ w.length ≤ 3 ∧ ∃ a', a' ≤ a + 4 ∧ Bx hd hb vs a' S' := by
  obtain ⟨v, hv, e⟩ := draw_ok 38 B (by omega) (m := 3) (by decide)
  have e' : F 39 ._law_draw [.ref hb, .int 3] S = Option.some (.int (v : Int), nxB hd hb a S) := e
  have c : (1 : Int) + (v : Int) = ((1 + v : Nat) : Int) := (Int.natCast_add 1 v).symm
  obtain ⟨w, S', ew, hw, B'⟩ := word_draw 37 B.nx (1 + v) (by omega) [Option.some (.fro (ns.map D.int)), Option.some (.ref hb), Option.some (.int (r : Int)), Option.some (.int (most r : Int)), none, none, none, none, none, none, none, none, none, none, none, none] rfl
  refine ⟨w, S' ++ [.lst (w.map cD)], ?_, by omega, by omega, _, ?_, B'.app _⟩
  · have rg := rngW (1 + v) (by omega) (nxB hd hb a S)
    have tl := tupL S' (w.map cD)
    simp only [r_set, r_bin, r_c, r_call, r_cons, r_var, r_nil, r_lc, r_frng1, List.getElem?_cons_succ, List.getElem?_cons_zero, Option.bind_some, Option.map_some, id, r_chk, List.length_cons, List.length_nil, Nat.zero_add, if_true, e', addI, c, rg, r_wipe0, r_wipe1, List.set_cons_succ, List.set_cons_zero, ew, tl, wW]
  · omega
theorem fr4 {ns : List Int} {hd hb : Nat} {vs : List Int} {a : Nat} {S : Sto} (B : Bx hd hb vs a S) (ha : a ≤ 20) {r : Nat} {w : List Bool} : ∃ (o : List Bool) (S' : Sto), (sSet 5 (fCall tupleD (aCons (fLc (fRng1 (aCons (fCall (chk 2 (F 39 ._law_draw)) (aCons (fVar 1) (aCons (fC (.int 4)) aNil))) aNil)) (gNm 15) tYesD (fCall (chk 2 (F 39 ._law_pick)) (aCons (fVar 1) (aCons (fCall lstD (aCons (fC (.str ks_15)) (aCons (fC (.str ks_14)) aNil))) aNil))) [15]) aNil))) [Option.some (.fro (ns.map D.int)), Option.some (.ref hb), Option.some (.int (r : Int)), Option.some (.int (most r : Int)), Option.some (wD w), none, none, none, none, none, none, none, none, none, none, none] S = Option.some (.nx, [Option.some (.fro (ns.map D.int)), Option.some (.ref hb), Option.some (.int (r : Int)), Option.some (.int (most r : Int)), Option.some (wD w), Option.some (wD o), none, none, none, none, none, none, none, none, none, none], S') ∧ o.length ≤ 3 ∧ ∃ a', a' ≤ a + 4 ∧ Bx hd hb vs a' S' := by
  obtain ⟨v, hv, e⟩ := draw_ok 38 B (by omega) (m := 4) (by decide)
  have e' : F 39 ._law_draw [.ref hb, .int 4] S = Option.some (.int (v : Int), nxB hd hb a S) := e
  obtain ⟨w', S', ew, hw, B'⟩ := word_draw 37 B.nx v (by omega) [Option.some (.fro (ns.map D.int)), Option.some (.ref hb), Option.some (.int (r : Int)), Option.some (.int (most r : Int)), Option.some (wD w), none, none, none, none, none, none, none, none, none, none, none] rfl
  refine ⟨w', S' ++ [.lst (w'.map cD)], ?_, by omega, _, ?_, B'.app _⟩
  · have rg := rngW v (by omega) (nxB hd hb a S)
    have tl := tupL S' (w'.map cD)
    simp only [r_set, r_bin, r_c, r_call, r_cons, r_var, r_nil, r_lc, r_frng1, List.getElem?_cons_succ, List.getElem?_cons_zero, Option.bind_some, Option.map_some, id, r_chk, List.length_cons, List.length_nil, Nat.zero_add, if_true, e', addI, rg, r_wipe0, r_wipe1, List.set_cons_succ, List.set_cons_zero, ew, tl, wW]
  · omega
theorem fr5 {ns : List Int} {hb : Nat} {S : Sto} {r : Nat} (h2 : r ≤ 2) {w o : List Bool} (hw : w.length ≤ 3) (ho : o.length ≤ 3) : (sPar 6 7 (aCons (fCall (chk 2 (F 39 .kind_of)) (aCons (fVar 4) (aCons (fVar 2) aNil))) (aCons (fCall (chk 2 (F 39 .kind_of)) (aCons (fVar 5) (aCons (fVar 2) aNil))) aNil))) [Option.some (.fro (ns.map D.int)), Option.some (.ref hb), Option.some (.int (r : Int)), Option.some (.int (most r : Int)), Option.some (wD w), Option.some (wD o), none, none, none, none, none, none, none, none, none, none] S = Option.some (.nx, [Option.some (.fro (ns.map D.int)), Option.some (.ref hb), Option.some (.int (r : Int)), Option.some (.int (most r : Int)), Option.some (wD w), Option.some (wD o), Option.some (kr r w), Option.some (kr r o), none, none, none, none, none, none, none, none], S) := by
  have k1 := fun S => kind_of_ok 35 r h2 w (by omega) S
  have k2 := fun S => kind_of_ok 35 r h2 o (by omega) S
  simp [k1, k2]
theorem fr6 {ns : List Int} {hd hb : Nat} {vs : List Int} {a : Nat} {S : Sto} (B : Bx hd hb vs a S) (ha : a ≤ 20) {r : Nat} {w o : List Bool} : ∃ (n m : Nat) (S' : Sto), (sPar 8 9 (aCons (fCall (chk 2 (F 39 ._law_pick)) (aCons (fVar 1) (aCons (fCall lstD (aCons (fC (.int 0)) (aCons (fC (.int 1)) (aCons (fC (.int 2)) (aCons (fC (.int 3)) (aCons (fC (.int 5)) (aCons (fBin powD (fC (.int 10)) (fC (.int 30))) (aCons (fBin addD (fBin powD (fC (.int 10)) (fC (.int 30))) (fC (.int 1))) aNil)))))))) aNil))) (aCons (fCall (chk 2 (F 39 ._law_pick)) (aCons (fVar 1) (aCons (fCall lstD (aCons (fC (.int 0)) (aCons (fC (.int 1)) (aCons (fC (.int 2)) (aCons (fC (.int 4)) (aCons (fBin powD (fC (.int 10)) (fC (.int 29))) aNil)))))) aNil))) aNil))) [Option.some (.fro (ns.map D.int)), Option.some (.ref hb), Option.some (.int (r : Int)), Option.some (.int (most r : Int)), Option.some (wD w), Option.some (wD o), Option.some (kr r w), Option.some (kr r o), none, none, none, none, none, none, none, none] S = Option.some (.nx, [Option.some (.fro (ns.map D.int)), Option.some (.ref hb), Option.some (.int (r : Int)), Option.some (.int (most r : Int)), Option.some (wD w), Option.some (wD o), Option.some (kr r w), Option.some (kr r o), Option.some (.int (n : Int)), Option.some (.int (m : Int)), none, none, none, none, none, none], S') ∧ n < 2 ^ 125 ∧ m < 2 ^ 125 ∧ ∃ a', a' ≤ a + 2 ∧ Bx hd hb vs a' S' := by
  obtain ⟨Z, hZ, lZ⟩ := pow30
  obtain ⟨Y, hY, lY⟩ := pow29
  have c : (Z : Int) + 1 = ((Z + 1 : Nat) : Int) := (Int.natCast_add Z 1).symm
  have len : hb < S.length := (List.getElem?_eq_some_iff.mp B.eb).1
  obtain ⟨l1, hl1⟩ : ∃ l1 : List D, l1 = [.int 0, .int 1, .int 2, .int 3, .int 5, .int (Z : Int), .int ((Z + 1 : Nat) : Int)] := ⟨_, rfl⟩
  obtain ⟨l2, hl2⟩ : ∃ l2 : List D, l2 = [.int 0, .int 1, .int 2, .int 4, .int (Y : Int)] := ⟨_, rfl⟩
  have in1 : ∀ d ∈ l1, ∃ n : Nat, d = .int (n : Int) ∧ n < 2 ^ 125 := by
    intro d hd
    rw [hl1] at hd
    simp only [List.mem_cons, List.not_mem_nil, or_false] at hd
    rcases hd with rfl | rfl | rfl | rfl | rfl | rfl | rfl
    · exact ⟨0, rfl, by decide +kernel⟩
    · exact ⟨1, rfl, by decide +kernel⟩
    · exact ⟨2, rfl, by decide +kernel⟩
    · exact ⟨3, rfl, by decide +kernel⟩
    · exact ⟨5, rfl, by decide +kernel⟩
    · exact ⟨Z, rfl, Nat.lt_of_succ_lt lZ⟩
    · exact ⟨Z + 1, rfl, lZ⟩
  have in2 : ∀ d ∈ l2, ∃ n : Nat, d = .int (n : Int) ∧ n < 2 ^ 125 := by
    intro d hd
    rw [hl2] at hd
    simp only [List.mem_cons, List.not_mem_nil, or_false] at hd
    rcases hd with rfl | rfl | rfl | rfl | rfl
    · exact ⟨0, rfl, by decide +kernel⟩
    · exact ⟨1, rfl, by decide +kernel⟩
    · exact ⟨2, rfl, by decide +kernel⟩
    · exact ⟨4, rfl, by decide +kernel⟩
    · exact ⟨Y, rfl, lY⟩
  have B1 := B.app [.lst l1]
  obtain ⟨d1, m1, e1⟩ := pick_ok 37 B1 (by omega) (hr := S.length) (ds := l1) (get_end1 _ _) (by omega) (by rw [hl1]; exact Nat.succ_pos _) (fun d hd => by obtain ⟨n, rfl, _⟩ := in1 d hd; rfl)
  obtain ⟨n, rfl, hn⟩ := in1 d1 m1
  have B2 := B1.nx
  obtain ⟨S1, hS1⟩ : ∃ S1, S1 = nxB hd hb a (S ++ [.lst l1]) := ⟨_, rfl⟩
  rw [← hS1] at e1 B2
  have len1 : hb < S1.length := (List.getElem?_eq_some_iff.mp B2.eb).1
  have B3 := B2.app [.lst l2]
  obtain ⟨d2, m2, e2⟩ := pick_ok 37 B3 (by omega) (hr := S1.length) (ds := l2) (get_end1 _ _) (by omega) (by rw [hl2]; exact Nat.succ_pos _) (fun d hd => by obtain ⟨n, rfl, _⟩ := in2 d hd; rfl)
  obtain ⟨m, rfl, hm⟩ := in2 d2 m2
  refine ⟨n, m, _, ?_, hn, hm, a + 1 + 1, by omega, B3.nx⟩
  have L1 : lstD [.int 0, .int 1, .int 2, .int 3, .int 5, .int (Z : Int), .int ((Z + 1 : Nat) : Int)] S = Option.some (.ref S.length, S ++ [.lst l1]) := by rw [r_lst, hl1]; rfl
  have L2 : lstD [.int 0, .int 1, .int 2, .int 4, .int (Y : Int)] S1 = Option.some (.ref S1.length, S1 ++ [.lst l2]) := by rw [r_lst, hl2]; rfl
  simp only [r_par, r_bin, r_c, r_call, r_cons, r_var, r_nil, List.getElem?_cons_succ, List.getElem?_cons_zero, Option.bind_some, Option.map_some, id, r_chk, List.length_cons, List.length_nil, Nat.zero_add, Nat.reduceAdd, if_true, hZ, hY, addI, c, L1, L2, e1, e2, List.set_cons_succ, List.set_cons_zero]
theorem law_true : ∀ ns : List Int, ns.length ≤ 63 → ∃ S', F 40 .law [.fro (ns.map D.int)] [] = Option.some (.bl true, S') := by
  intro ns hl
  obtain ⟨vs, ed, hv⟩ := digits_ok 37 ns hl []
  have ed' : F 39 ._law_digits [.fro (ns.map D.int), .int 0, .int 63] [] = Option.some (.ref 0, [.lst (vs.map D.int)]) := ed
  have B0 : Bx 0 1 vs 0 [.lst (vs.map D.int), .lst [.ref 0, .int 0]] := ⟨rfl, rfl, by decide, hv⟩
  have s0 : (sSet 1 (fCall lstD (aCons (fCall (chk 3 (F 39 ._law_digits)) (aCons (fVar 0) (aCons (fC (.int 0)) (aCons (fC (.int 63)) aNil)))) (aCons (fC (.int 0)) aNil)))) [Option.some (.fro (ns.map D.int)), none, none, none, none, none, none, none, none, none, none, none, none, none, none, none] [] = Option.some (.nx, [Option.some (.fro (ns.map D.int)), Option.some (.ref 1), none, none, none, none, none, none, none, none, none, none, none, none, none, none], [.lst (vs.map D.int), .lst [.ref 0, .int 0]]) := by
    have L : lstD [.ref 0, .int 0] [.lst (vs.map D.int)] = Option.some (.ref 1, [.lst (vs.map D.int), .lst [.ref 0, .int 0]]) := rfl
    simp only [r_set, r_c, r_call, r_cons, r_var, r_nil, List.getElem?_cons_succ, List.getElem?_cons_zero, Option.bind_some, Option.map_some, id, r_chk, List.length_cons, List.length_nil, Nat.zero_add, Nat.reduceAdd, if_true, ed', L, List.set_cons_succ, List.set_cons_zero]
  obtain ⟨r, S1, s1, h1, h2, B1⟩ := fr1 (ns := ns) B0 (by omega)
  obtain ⟨S2, s2, B2⟩ := fr2 (ns := ns) B1 h1 h2
  obtain ⟨w, S3, s3, hw1, hw3, a3, ha3, B3⟩ := fr3 (ns := ns) (r := r) B2 (by omega)
  obtain ⟨o, S4, s4, ho, a4, ha4, B4⟩ := fr4 (ns := ns) (r := r) (w := w) B3 (by omega)
  have s5 := fr5 (ns := ns) (hb := 1) (S := S4) h2 hw3 ho
  obtain ⟨n, m, S6, s6, hn, hm, a6, ha6, B6⟩ := fr6 (ns := ns) (r := r) (w := w) (o := o) B4 (by omega)
  obtain ⟨ρ', S7, s7⟩ := law_tail (x0 := Option.some (.fro (ns.map D.int))) (x10 := none) (x11 := none) (x12 := none) (x13 := none) (x14 := none) (x15 := none) h1 h2 hw1 hw3 ho n m hn hm B6 (by omega)
  refine ⟨S7, ?_⟩
  have F_law : F 40 .law = defD 16 (b_law (F 39)) := rfl
  rw [F_law, defD_eq]
  have e0 : ([D.fro (ns.map D.int)].map Option.some ++ List.replicate (16 - [D.fro (ns.map D.int)].length) none) = [Option.some (.fro (ns.map D.int)), none, none, none, none, none, none, none, none, none, none, none, none, none, none, none] := rfl
  rw [e0]
  unfold b_law
  rw [r_seq, s0, Option.bind_some, r_go1, r_seq, s1, Option.bind_some, r_go1, r_seq, s2, Option.bind_some, r_go1, r_seq, s3, Option.bind_some, r_go1, r_seq, s4, Option.bind_some, r_go1, r_seq, s5, Option.bind_some, r_go1, r_seq, s6, Option.bind_some, r_go1, s7]
  rfl
end K39

set_option Elab.async false
set_option linter.all false
set_option maxRecDepth 100000
set_option maxHeartbeats 4000000
namespace K39
open PySem PySem.Spec L2 DL
open PyProof.Rows hiding St
theorem frz_of {K : PySem.W.Frag} {H : Hp} {a : Addr} {vs : List V} (ho : Only H) (hS : SqL K H a vs) : (∃ o, H a = some (.frz o (.lst vs))) ∨ ∀ H', SqL K H' a vs := by
  rcases hS with (h | h) | h
  · exact absurd h (by
      intro e
      rcases ho a with z | ⟨o, xs, z⟩ <;> rw [z] at e <;> cases e)
  · exact .inl h
  · exact .inr fun H' => .inr h
theorem walk {l : PySem.W.OpenLaw} {q : Program} {loose : List Str} {XP : (Str → Option Value) → Heap → Prop} {YP : World → Heap → Prop} {d : DefRec} {K : Params → PySem.W.Frag} (hn : l.most = some 63) (hdf : d.params.defaults = [])
    (hY : ∀ (w : World) (h : Heap), YP w h → (K w.params).In h)
    (F : ∀ (w : World) (mg : Str → Option Value) (fa : Addr) (h : Heap), (K w.params).In h → h.Ns mainGlobals mg → mg d.name = some (.ref fa) →
      ∃ fd : FuncData, (∀ (s : Shared) (u : Value), BindsTo s fd ⟨[u], []⟩ [("script", u)]) ∧ ∀ base : Heap, (K w.params).In base → base.Ns mainGlobals mg → FnOk l.prog w (K w.params) mg base CX0 43 fa fd ["script"] (spLaw (K w.params))) :
    PySem.W.WalkO q loose XP YP l.row.toRowW d [] (fun f vs => PySem.call f vs) :=
  L2.walk_of (n := 63) (k := 43) (x := "script") (CX := fun _ => CX0) (sp := fun w => spLaw (K w.params)) hn (by decide) hdf ⟨rfl, by decide, by decide⟩ hY F (fun w H a ns hl ho hS => ⟨a, ns, rfl, frz_of ho hS, hl, fun _ => rfl⟩) fun _ _ _ _ _ z => z
end K39
open PySem PySem.W PyProof.Rows in
set_option maxRecDepth 100000 in
set_option maxHeartbeats 0 in
theorem PySem.Challenge.cw_allorsome_k39_orders_far_holds : PySem.Challenge.rw_allorsome_k39_orders_far.Holds := by
  w_on; o_law; k_head; (case hw => w_witness2)
  k_fill
  refine K39.walk (l := PySem.Challenge.rw_allorsome_k39_orders_far) rfl rfl (fun w h Y => PySem.W.kIn_of Y) ?F
  case F =>
    intro w mg fa h KX G hmg
    refine' K39.all_mk K39.law_true KX G hmg ?aC_Adder ?a_0 ?l_0 ?c_0 ?k_0 ?a_1 ?l_1 ?c_1 ?k_1 ?a_2 ?l_2 ?c_2 ?k_2 ?a_3 ?l_3 ?c_3 ?k_3 ?a_4 ?l_4 ?c_4 ?k_4 ?a_5 ?l_5 ?c_5 ?k_5 ?a_6 ?l_6 ?c_6 ?k_6 ?a_7 ?l_7 ?c_7 ?k_7 ?a_8 ?l_8 ?c_8 ?k_8 ?a_9 ?l_9 ?c_9 ?k_9 ?a_10 ?l_10 ?c_10 ?k_10 ?a_11 ?l_11 ?c_11 ?k_11 ?a_12 ?i_12 ?l_12 ?c_12 ?k_12 ?a_13 ?i_13 ?l_13 ?c_13 ?k_13 ?a_14 ?l_14 ?c_14 ?k_14 ?a_15 ?l_15 ?c_15 ?k_15 ?a_16 ?l_16 ?c_16 ?k_16 ?a_17 ?l_17 ?c_17 ?k_17 ?a_18 ?l_18 ?c_18 ?k_18 ?a_19 ?l_19 ?c_19 ?k_19 ?a_20 ?l_20 ?c_20 ?k_20 ?a_21 ?l_21 ?c_21 ?k_21 ?a_22 ?l_22 ?c_22 ?k_22 ?a_23 ?l_23 ?c_23 ?k_23 ?a_24 ?l_24 ?c_24 ?k_24 ?a_25 ?l_25 ?c_25 ?k_25 ?a_26 ?l_26 ?c_26 ?k_26 ?a_27 ?l_27 ?c_27 ?k_27 ?a_28 ?l_28 ?c_28 ?k_28 ?a_29 ?l_29 ?c_29 ?k_29 ?a_30 ?l_30 ?c_30 ?k_30 ?pg_Adder ?hd_Adder ?po_Adder ?sa_Adder ?mk_Adder ?kc_Adder ?n_Adder_known ?z_all ?z_any ?z_dict ?z_enumerate ?z_int ?z_isinstance ?z_len ?z_max ?z_min ?z_range ?z_repr ?z_sorted ?z_str ?z_tuple ?g_FIGURES ?g_KINDS_MOST ?g_LONG ?g_ROUNDS_MOST ?g_SMALL ?g_TURNS ?h_TURNS ?g_WORDS ?h_WORDS
    (case aC_Adder => k_is)
    (case a_0 => k_is)
    (case l_0 => k_is)
    (case c_0 => k_is)
    (case k_0 => k_is)
    (case a_1 => k_is)
    (case l_1 => k_is)
    (case c_1 => k_is)
    (case k_1 => k_is)
    (case a_2 => k_is)
    (case l_2 => k_is)
    (case c_2 => k_is)
    (case k_2 => k_is)
    (case a_3 => k_is)
    (case l_3 => k_is)
    (case c_3 => k_is)
    (case k_3 => k_is)
    (case a_4 => k_is)
    (case l_4 => k_is)
    (case c_4 => k_is)
    (case k_4 => k_is)
    (case a_5 => k_is)
    (case l_5 => k_is)
    (case c_5 => k_is)
    (case k_5 => k_is)
    (case a_6 => k_is)
    (case l_6 => k_is)
    (case c_6 => k_is)
    (case k_6 => k_is)
    (case a_7 => k_is)
    (case l_7 => k_is)
    (case c_7 => k_is)
    (case k_7 => k_is)
    (case a_8 => k_is)
    (case l_8 => k_is)
    (case c_8 => k_is)
    (case k_8 => k_is)
    (case a_9 => k_is)
    (case l_9 => k_is)
    (case c_9 => k_is)
    (case k_9 => k_is)
    (case a_10 => k_is)
    (case l_10 => k_is)
    (case c_10 => k_is)
    (case k_10 => k_is)
    (case a_11 => k_is)
    (case l_11 => k_is)
    (case c_11 => k_is)
    (case k_11 => k_is)
    (case a_12 => k_is)
    (case i_12 => k_is)
    (case l_12 => k_is)
    (case c_12 => k_is)
    (case k_12 => k_is)
    (case a_13 => k_is)
    (case i_13 => k_is)
    (case l_13 => k_is)
    (case c_13 => k_is)
    (case k_13 => k_is)
    (case a_14 => k_is)
    (case l_14 => k_is)
    (case c_14 => k_is)
    (case k_14 => k_is)
    (case a_15 => k_is)
    (case l_15 => k_is)
    (case c_15 => k_is)
    (case k_15 => k_is)
    (case a_16 => k_is)
    (case l_16 => k_is)
    (case c_16 => k_is)
    (case k_16 => k_is)
    (case a_17 => k_is)
    (case l_17 => k_is)
    (case c_17 => k_is)
    (case k_17 => k_is)
    (case a_18 => k_is)
    (case l_18 => k_is)
    (case c_18 => k_is)
    (case k_18 => k_is)
    (case a_19 => k_is)
    (case l_19 => k_is)
    (case c_19 => k_is)
    (case k_19 => k_is)
    (case a_20 => k_is)
    (case l_20 => k_is)
    (case c_20 => k_is)
    (case k_20 => k_is)
    (case a_21 => k_is)
    (case l_21 => k_is)
    (case c_21 => k_is)
    (case k_21 => k_is)
    (case a_22 => k_is)
    (case l_22 => k_is)
    (case c_22 => k_is)
    (case k_22 => k_is)
    (case a_23 => k_is)
    (case l_23 => k_is)
    (case c_23 => k_is)
    (case k_23 => k_is)
    (case a_24 => k_is)
    (case l_24 => k_is)
    (case c_24 => k_is)
    (case k_24 => k_is)
    (case a_25 => k_is)
    (case l_25 => k_is)
    (case c_25 => k_is)
    (case k_25 => k_is)
    (case a_26 => k_is)
    (case l_26 => k_is)
    (case c_26 => k_is)
    (case k_26 => k_is)
    (case a_27 => k_is)
    (case l_27 => k_is)
    (case c_27 => k_is)
    (case k_27 => k_is)
    (case a_28 => k_is)
    (case l_28 => k_is)
    (case c_28 => k_is)
    (case k_28 => k_is)
    (case a_29 => k_is)
    (case l_29 => k_is)
    (case c_29 => k_is)
    (case k_29 => k_is)
    (case a_30 => k_is)
    (case l_30 => k_is)
    (case c_30 => k_is)
    (case k_30 => k_is)
    (case pg_Adder => k_is)
    (case hd_Adder => k_is)
    (case po_Adder => k_is)
    (case sa_Adder => k_is)
    (case mk_Adder => k_is)
    (case kc_Adder => k_is)
    (case n_Adder_known => k_is)
    (case z_all => k_is)
    (case z_any => k_is)
    (case z_dict => k_is)
    (case z_enumerate => k_is)
    (case z_int => k_is)
    (case z_isinstance => k_is)
    (case z_len => k_is)
    (case z_max => k_is)
    (case z_min => k_is)
    (case z_range => k_is)
    (case z_repr => k_is)
    (case z_sorted => k_is)
    (case z_str => k_is)
    (case z_tuple => k_is)
    (case g_FIGURES => k_is)
    (case g_KINDS_MOST => k_is)
    (case g_LONG => k_is)
    (case g_ROUNDS_MOST => k_is)
    (case g_SMALL => k_is)
    (case g_TURNS => k_is)
    (case h_TURNS => k_is)
    (case g_WORDS => k_is)
    (case h_WORDS => k_is)
