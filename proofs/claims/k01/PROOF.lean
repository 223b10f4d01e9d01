import PyProof.Rows.All
import Wide.All
import OpenK.AllK
import Wide.FinOn
import HandS.ForMost
import HandS.ExcInit
import HandS.ExcCtx
import HandS.HotCalls
import HandS.ExcInitHot
import HandS.Lambda
import HandS.SortOrd
import HandS.SortRule
import HandS.SortInts
import HandS.DictTup
import HandS.Conv
import HandS.Flow
import HandS.Wide
import HandS.Style
import HandS.TupAny
import HandS.TupMul
import HandS.ExcIs
import HandS.IsInst
import KE.GoesMore
import KE.GoesEnum
import HandS.HeadHook4
import HandS.HeadWalk
import HandS.HeadEnd
import HandS.TupLe
import HandS.Deep
import HandS.Small
import HandS.TupLen
import HandS.WordsDict
import KE.DataMinMax
import HandS.TupSets
import KE.SortData
import HandS.SortKw
import HandS.Head2
import PySem.Challenge.RW_turnsonce_k01_nets_by_form
set_option Elab.async false
set_option linter.all false
set_option maxRecDepth 100000
set_option maxHeartbeats 4000000
namespace G
open PySem PySem.Spec PyProof.Rows L2
abbrev St := L2.St

/-! # plain data, a store of changing things, and what an evaluation comes to -/
inductive D where
  | non | bl (b : Bool) | int (i : Int) | str (x : PySem.Str) | tup (xs : List D) | loc (l : Nat) | kl (a : Addr) (xs : List Int)
inductive Cell where
  | lst (xs : List D)
  | ro (xs : List D)
  | dK (kvs : List (Key × D))
  | dT (kvs : List (List Key × D))
abbrev Store := List Cell
abbrev Env := List (Option D)
inductive R (α : Type) where
  | ok (a : α) (S : Store)
  | exc (c : Nat) (w : D) (S : Store)
  | bad
def R.bind {α β : Type} : R α → (α → Store → R β) → R β
  | .ok a S, f => f a S
  | .exc c w S, _ => .exc c w S
  | .bad, _ => .bad
def ofO {α : Type} : Option (α × Store) → R α
  | some (a, S) => .ok a S
  | none => .bad
@[simp] theorem R.bind_ok {α β : Type} (a : α) (S : Store) (f : α → Store → R β) : (R.ok a S).bind f = f a S := rfl
@[simp] theorem R.bind_exc {α β : Type} (c : Nat) (w : D) (S : Store) (f : α → Store → R β) : (R.exc c w S : R α).bind f = .exc c w S := rfl
@[simp] theorem R.bind_bad {α β : Type} (f : α → Store → R β) : (R.bad : R α).bind f = .bad := rfl
@[simp] theorem ofO_some {α : Type} (a : α) (S : Store) : ofO (some (a, S)) = .ok a S := rfl
@[simp] theorem ofO_none {α : Type} : ofO (none : Option (α × Store)) = .bad := rfl

/-! ## how data lies in the abstract heap -/
section
variable (K : PySem.W.Frag) (m : Nat → Addr) (n : Nat) (H : Hp)
/-- a tuple that is tracked -/
abbrev TupH (_ : PySem.W.Frag) (H : Hp) (a : Addr) (vs : List V) : Prop := H a = some (.tup vs)
theorem tsq {K : PySem.W.Frag} {H : Hp} {a : Addr} {vs : List V} (h : TupH K H a vs) : SqT K H a vs := .inl (.inl h)
/-- a list that stands in the written part -/
def KLst (K : PySem.W.Frag) (a : Addr) (xs : List V) : Prop := ∃ (o : Obj) (its : Array Value) (n : Nat), K.lookup a = some o ∧ o.cls = .type "list" ∧ o.dict = none ∧ o.data = .seq its n ∧ its.size ≤ sizeLine ∧ Vals xs its.toList
mutual
def Rep : D → V → Prop
  | .non, v => v = .non
  | .bl b, v => v = .bl b
  | .int i, v => v = .int i
  | .str x, v => v = .str x
  | .loc l, v => l < n ∧ v = .ref (m l)
  | .kl a xs, v => v = .ref a ∧ KLst K a (xs.map V.int)
  | .tup ds, v => ∃ a vs, v = .ref a ∧ TupH K H a vs ∧ RepL ds vs
def RepL : List D → List V → Prop
  | [], vs => vs = []
  | d :: ds, vs => ∃ v vs', vs = v :: vs' ∧ Rep d v ∧ RepL ds vs'
end
/-- keys and values -/
def RepK {κ : Type} : List (κ × D) → List (κ × V) → Prop
  | [], vs => vs = []
  | (k, d) :: ds, vs => ∃ v vs', vs = (k, v) :: vs' ∧ Rep K m n H d v ∧ RepK ds vs'
def CellOk (a : Addr) : Cell → Prop
  | .lst xs => ∃ vs, H a = some (.lst vs) ∧ RepL K m n H xs vs
  | .ro xs => ∃ vs o, H a = some (.frz o (.lst vs)) ∧ RepL K m n H xs vs
  | .dK kvs => ∃ vs, H a = some (.dK vs) ∧ RepK K m n H kvs vs
  | .dT kvs => ∃ vs, H a = some (.dT vs) ∧ RepK K m n H kvs vs
end
/-- tables of code objects; the dicts of exceptions that are handled, with what they keep -/
structure Tz where
  tb : List (Addr × PySem.Str) := []
  xs : List (Addr × D) := []
  fx : List (Nat × V) := []
  ev : List (St × Env) := []
  co : List (Addr × PySem.Str) := []
/-- the slots' data stand in the state -/
def EvOk (K : PySem.W.Frag) (m : Nat → Addr) (n : Nat) (H : Hp) (ρ : Env) (σ : St) : Prop := ρ.length = σ.length ∧ ∀ (i : Nat) (d : D), ρ[i]? = some (some d) → ∃ v, σ[i]? = some (some v) ∧ Rep K m n H d v
structure Sim (K : PySem.W.Frag) (T : Tz) (m : Nat → Addr) (S : Store) (H : Hp) : Prop where
  inj : ∀ l l', l < S.length → l' < S.length → m l = m l' → l = l'
  cell : ∀ l c, S[l]? = some c → CellOk K m S.length H (m l) c
  tabs : LamX.Tabs T.tb H
  exs : ∀ p ∈ T.xs, ∃ v, H p.1 = some (.xd [(("what" : PySem.Str), v)]) ∧ Rep K m S.length H p.2 v
  evs : ∀ p ∈ T.ev, EvOk K m S.length H p.2 p.1
  cos : ∀ p ∈ T.co, H p.1 = some (LamX.CodeO p.1 p.2)
/-- from one state to a later one -/
structure Nx (m : Nat → Addr) (n : Nat) (H : Hp) (m' : Nat → Addr) (n' : Nat) (H' : Hp) : Prop where
  le : n ≤ n'
  eq : ∀ l, l < n → m' l = m l
  fresh : ∀ l, n ≤ l → l < n' → ∀ o, H (m' l) = some o → ∃ ps, o = .tbl ps
  frame : ∀ b o, H b = some o → (∀ l, l < n → m l ≠ b) → (∀ ps, o ≠ .tbl ps) → H' b = some o
  keep : ∀ b o, H b = some o → (∀ ps, o ≠ .tbl ps) → ∃ o', H' b = some o' ∧ ∀ ps, o' ≠ .tbl ps
theorem Nx.refl {m : Nat → Addr} {n : Nat} {H : Hp} : Nx m n H m n H :=
  ⟨Nat.le_refl _, fun _ _ => rfl, fun _ h1 h2 => absurd (Nat.lt_of_lt_of_le h2 h1) (Nat.lt_irrefl _), fun _ _ h _ _ => h, fun _ o h z => ⟨o, h, z⟩⟩
theorem Nx.trans {m m1 m2 : Nat → Addr} {n n1 n2 : Nat} {H H1 H2 : Hp} (a : Nx m n H m1 n1 H1) (b : Nx m1 n1 H1 m2 n2 H2) : Nx m n H m2 n2 H2 where
  le := Nat.le_trans a.le b.le
  eq := fun l hl => (b.eq l (Nat.lt_of_lt_of_le hl a.le)).trans (a.eq l hl)
  fresh := fun l h1 h2 o e => by
    by_cases h : l < n1
    · rw [b.eq l h] at e; exact a.fresh l h1 h o e
    · by_cases ht : ∃ ps, o = .tbl ps
      · exact ht
      · obtain ⟨o', z, nt⟩ := a.keep _ _ e fun ps q => ht ⟨ps, q⟩
        obtain ⟨ps, q⟩ := b.fresh l (Nat.le_of_not_lt h) h2 _ z
        exact absurd q (nt ps)
  frame := fun b' o h1 h2 h3 => by
    refine b.frame b' o (a.frame b' o h1 h2 h3) (fun l hl z => ?_) h3
    by_cases h : l < n
    · rw [a.eq l h] at z; exact h2 l h z
    · obtain ⟨ps, q⟩ := a.fresh l (Nat.le_of_not_lt h) hl o (by rw [z]; exact h1)
      exact h3 ps q
  keep := fun b' o h z => by
    obtain ⟨o1, h1, z1⟩ := a.keep b' o h z
    exact b.keep b' o1 h1 z1

theorem CellOk.notTup {K : PySem.W.Frag} {m : Nat → Addr} {n : Nat} {H : Hp} {a : Addr} {c : Cell} (h : CellOk K m n H a c) : ∃ o, H a = some o ∧ (∀ xs, o ≠ .tup xs) ∧ (∀ u xs, o ≠ .frz u (.tup xs)) ∧ (∀ ps, o ≠ .tbl ps) ∧ ∀ fs, o ≠ .xd fs := by
  cases c with
  | lst xs => obtain ⟨vs, e, _⟩ := h; exact ⟨_, e, (by intro _ z; cases z), (by intro _ _ z; cases z), (by intro _ z; cases z), (by intro _ z; cases z)⟩
  | ro xs => obtain ⟨vs, o, e, _⟩ := h; exact ⟨_, e, (by intro _ z; cases z), (by intro _ _ z; cases z), (by intro _ z; cases z), (by intro _ z; cases z)⟩
  | dK xs => obtain ⟨vs, e, _⟩ := h; exact ⟨_, e, (by intro _ z; cases z), (by intro _ _ z; cases z), (by intro _ z; cases z), (by intro _ z; cases z)⟩
  | dT xs => obtain ⟨vs, e, _⟩ := h; exact ⟨_, e, (by intro _ z; cases z), (by intro _ _ z; cases z), (by intro _ z; cases z), (by intro _ z; cases z)⟩
section
variable {K : PySem.W.Frag} {T : Tz} {m m' : Nat → Addr} {n n' : Nat} {S S' : Store} {H H' : Hp}
theorem Sim.at (s : Sim K T m S H) {l : Nat} (hl : l < S.length) : ∃ c, S[l]? = some c ∧ CellOk K m S.length H (m l) c :=
  ⟨S[l], List.getElem?_eq_getElem hl, s.cell l _ (List.getElem?_eq_getElem hl)⟩
theorem Sim.out (s : Sim K T m S H) {b : Addr} {o : HO} (e : H b = some o) (h : (∃ xs, o = .tup xs) ∨ (∃ u xs, o = .frz u (.tup xs)) ∨ ∃ fs, o = .xd fs) : ∀ l, l < S.length → m l ≠ b := fun l hl z => by
  obtain ⟨c, _, hc⟩ := s.at hl
  obtain ⟨o', e', h1, h2, _, h3⟩ := hc.notTup
  rw [z, e] at e'; cases e'
  rcases h with ⟨xs, rfl⟩ | ⟨u, xs, rfl⟩ | ⟨fs, rfl⟩
  · exact h1 _ rfl
  · exact h2 _ _ rfl
  · exact h3 _ rfl
theorem Nx.sqT (x : Nx m S.length H m' n' H') (s : Sim K T m S H) {a : Addr} {vs : List V} (h : TupH K H a vs) : TupH K H' a vs :=
  x.frame _ _ h (s.out h (.inl ⟨_, rfl⟩)) (by intro _ z; cases z)
/-- what is needed to carry data over -/
structure Mv (K : PySem.W.Frag) (m : Nat → Addr) (n : Nat) (H : Hp) (m' : Nat → Addr) (n' : Nat) (H' : Hp) : Prop where
  le : n ≤ n'
  eq : ∀ l, l < n → m' l = m l
  tup : ∀ a vs, TupH K H a vs → TupH K H' a vs
theorem Nx.mv (x : Nx m S.length H m' n' H') (s : Sim K T m S H) : Mv K m S.length H m' n' H' := ⟨x.le, x.eq, fun _ _ h => x.sqT s h⟩
mutual
theorem Rep.mv (x : Mv K m n H m' n' H') : ∀ {d : D} {v : V}, Rep K m n H d v → Rep K m' n' H' d v
  | .non, _, h => by simpa only [Rep] using h
  | .bl _, _, h => by simpa only [Rep] using h
  | .int _, _, h => by simpa only [Rep] using h
  | .str _, _, h => by simpa only [Rep] using h
  | .kl _ _, _, h => by simpa only [Rep] using h
  | .loc l, _, h => by
    simp only [Rep] at h ⊢
    exact ⟨Nat.lt_of_lt_of_le h.1 x.le, by rw [x.eq l h.1]; exact h.2⟩
  | .tup ds, _, h => by
    simp only [Rep] at h ⊢
    obtain ⟨a, vs, e, q, r⟩ := h
    exact ⟨a, vs, e, x.tup _ _ q, RepL.mv x r⟩
theorem RepL.mv (x : Mv K m n H m' n' H') : ∀ {ds : List D} {vs : List V}, RepL K m n H ds vs → RepL K m' n' H' ds vs
  | [], _, h => by simpa only [RepL] using h
  | d :: ds, _, h => by
    simp only [RepL] at h ⊢
    obtain ⟨v, vs', e, q, r⟩ := h
    exact ⟨v, vs', e, Rep.mv x q, RepL.mv x r⟩
end
theorem RepK.mv {κ : Type} (x : Mv K m n H m' n' H') : ∀ {ds : List (κ × D)} {vs : List (κ × V)}, RepK K m n H ds vs → RepK K m' n' H' ds vs
  | [], _, h => h
  | (k, d) :: ds, _, h => by
    obtain ⟨v, vs', e, q, r⟩ := h
    exact ⟨v, vs', e, q.mv x, RepK.mv x r⟩
theorem RepL.len : ∀ {ds : List D} {vs : List V}, RepL K m n H ds vs → vs.length = ds.length
  | [], _, h => by simp only [RepL] at h; subst h; rfl
  | d :: ds, _, h => by
    simp only [RepL] at h
    obtain ⟨v, vs', e, q, r⟩ := h
    subst e
    simp [RepL.len r]
theorem RepL.get : ∀ {ds : List D} {vs : List V} {i : Nat} {d : D}, RepL K m n H ds vs → ds[i]? = some d → ∃ v, vs[i]? = some v ∧ Rep K m n H d v
  | [], _, _, _, _, e => by simp at e
  | d :: ds, _, 0, d', h, e => by
    simp only [RepL] at h
    obtain ⟨v, vs', rfl, q, r⟩ := h
    simp at e; subst e
    exact ⟨v, rfl, q⟩
  | d :: ds, _, i + 1, d', h, e => by
    simp only [RepL] at h
    obtain ⟨v, vs', rfl, q, r⟩ := h
    obtain ⟨v', h1, h2⟩ := RepL.get (i := i) r (by simpa using e)
    exact ⟨v', by simpa using h1, h2⟩
theorem RepL.append : ∀ {a b : List D} {vs ws : List V}, RepL K m n H a vs → RepL K m n H b ws → RepL K m n H (a ++ b) (vs ++ ws)
  | [], _, _, _, h, h2 => by simp only [RepL] at h; subst h; exact h2
  | d :: ds, b, _, ws, h, h2 => by
    simp only [RepL, List.cons_append] at h ⊢
    obtain ⟨v, vs', rfl, q, r⟩ := h
    exact ⟨v, vs' ++ ws, rfl, q, RepL.append r h2⟩
theorem RepL.take : ∀ {ds : List D} {vs : List V} (i : Nat), RepL K m n H ds vs → RepL K m n H (ds.take i) (vs.take i)
  | _, _, 0, _ => by simp only [List.take_zero, RepL]
  | [], _, _ + 1, h => by simp only [RepL] at h; subst h; simp only [List.take_nil, RepL]
  | d :: ds, _, i + 1, h => by
    simp only [RepL] at h
    obtain ⟨v, vs', rfl, q, r⟩ := h
    simp only [List.take_succ_cons, RepL]
    exact ⟨v, _, rfl, q, RepL.take i r⟩
theorem RepL.drop : ∀ {ds : List D} {vs : List V} (i : Nat), RepL K m n H ds vs → RepL K m n H (ds.drop i) (vs.drop i)
  | _, _, 0, h => h
  | [], _, _ + 1, h => by simp only [RepL] at h; subst h; simp only [List.drop_nil, RepL]
  | d :: ds, _, i + 1, h => by
    simp only [RepL] at h
    obtain ⟨v, vs', rfl, q, r⟩ := h
    simpa using RepL.drop i r
theorem RepL.reverse : ∀ {ds : List D} {vs : List V}, RepL K m n H ds vs → RepL K m n H ds.reverse vs.reverse
  | [], _, h => by simp only [RepL] at h; subst h; simp [RepL]
  | d :: ds, _, h => by
    simp only [RepL] at h
    obtain ⟨v, vs', rfl, q, r⟩ := h
    simp only [List.reverse_cons]
    exact (RepL.reverse r).append (by simp only [RepL]; exact ⟨v, [], rfl, q, rfl⟩)
theorem RepL.set : ∀ {ds : List D} {vs : List V} {d : D} {v : V} (i : Nat), RepL K m n H ds vs → Rep K m n H d v → RepL K m n H (ds.set i d) (vs.set i v)
  | [], _, _, _, _, h, _ => by simp only [RepL] at h; subst h; simp [RepL]
  | d0 :: ds, _, d, v, 0, h, q => by
    simp only [RepL] at h
    obtain ⟨v0, vs', rfl, q0, r⟩ := h
    simp only [List.set_cons_zero, RepL]
    exact ⟨v, vs', rfl, q, r⟩
  | d0 :: ds, _, d, v, i + 1, h, q => by
    simp only [RepL] at h
    obtain ⟨v0, vs', rfl, q0, r⟩ := h
    simp only [List.set_cons_succ, RepL]
    exact ⟨v0, _, rfl, q0, RepL.set i r q⟩
theorem RepL.nil : RepL K m n H [] [] := by simp only [RepL]
theorem RepL.cons {d : D} {ds : List D} {v : V} {vs : List V} (h : Rep K m n H d v) (r : RepL K m n H ds vs) : RepL K m n H (d :: ds) (v :: vs) := by
  simp only [RepL]; exact ⟨v, vs, rfl, h, r⟩
theorem RepL.nil_inv {vs : List V} (h : RepL K m n H [] vs) : vs = [] := by simpa only [RepL] using h
theorem RepL.cons_inv {d : D} {ds : List D} {vs : List V} (h : RepL K m n H (d :: ds) vs) : ∃ v vs', vs = v :: vs' ∧ Rep K m n H d v ∧ RepL K m n H ds vs' := by simpa only [RepL] using h
theorem Rep.tup_inv {ds : List D} {v : V} (h : Rep K m n H (.tup ds) v) : ∃ a vs, v = .ref a ∧ TupH K H a vs ∧ RepL K m n H ds vs := by simpa only [Rep] using h
theorem Rep.loc_inv {l : Nat} {v : V} (h : Rep K m n H (.loc l) v) : l < n ∧ v = .ref (m l) := by simpa only [Rep] using h
theorem Rep.int_inv {i : Int} {v : V} (h : Rep K m n H (.int i) v) : v = .int i := by simpa only [Rep] using h
theorem Rep.bl_inv {i : Bool} {v : V} (h : Rep K m n H (.bl i) v) : v = .bl i := by simpa only [Rep] using h
theorem Rep.str_inv {i : PySem.Str} {v : V} (h : Rep K m n H (.str i) v) : v = .str i := by simpa only [Rep] using h
theorem Rep.kl_inv {a : Addr} {xs : List Int} {v : V} (h : Rep K m n H (.kl a xs) v) : v = .ref a ∧ KLst K a (xs.map V.int) := by simpa only [Rep] using h
theorem Rep.kl {a : Addr} {xs : List Int} (h : KLst K a (xs.map V.int)) : Rep K m n H (.kl a xs) (.ref a) := by simp only [Rep]; exact ⟨trivial, h⟩
theorem Rep.non_inv {v : V} (h : Rep K m n H .non v) : v = .non := by simpa only [Rep] using h
theorem Rep.int {i : Int} : Rep K m n H (.int i) (.int i) := by simp only [Rep]
theorem Rep.bl {i : Bool} : Rep K m n H (.bl i) (.bl i) := by simp only [Rep]
theorem Rep.str {i : PySem.Str} : Rep K m n H (.str i) (.str i) := by simp only [Rep]
theorem Rep.non : Rep K m n H .non .non := by simp only [Rep]
theorem Rep.tup {ds : List D} {a : Addr} {vs : List V} (h : TupH K H a vs) (r : RepL K m n H ds vs) : Rep K m n H (.tup ds) (.ref a) := by simp only [Rep]; exact ⟨a, vs, rfl, h, r⟩
theorem Rep.loc {l : Nat} (h : l < n) : Rep K m n H (.loc l) (.ref (m l)) := by rw [Rep]; exact ⟨h, rfl⟩
theorem RepK.len {κ : Type} : ∀ {ds : List (κ × D)} {vs : List (κ × V)}, RepK K m n H ds vs → vs.length = ds.length
  | [], _, h => by have e : _ = [] := h; subst e; rfl
  | (k, d) :: ds, _, h => by
    obtain ⟨v, vs', e, q, r⟩ := h
    subst e
    simp [RepK.len r]
end

/-! ## the environment -/
def EnvOk (K : PySem.W.Frag) (T : Tz) (m : Nat → Addr) (n : Nat) (H : Hp) (ρ : Env) (σ : St) : Prop :=
  ρ.length = σ.length ∧ (∀ (i : Nat) (d : D), ρ[i]? = some (some d) → ∃ v, σ[i]? = some (some v) ∧ Rep K m n H d v) ∧ ∀ p ∈ T.fx, σ[p.1]? = some (some p.2)
/-- the slot may be written -/
def Tz.fr (T : Tz) (i : Nat) : Prop := ∀ p ∈ T.fx, p.1 ≠ i
section
variable {K : PySem.W.Frag} {T : Tz} {m m' : Nat → Addr} {n n' : Nat} {H H' : Hp} {ρ : Env} {σ : St}
theorem EvOk.mv (x : Mv K m n H m' n' H') (h : EvOk K m n H ρ σ) : EvOk K m' n' H' ρ σ := ⟨h.1, fun i d e => by
  obtain ⟨v, e', r⟩ := h.2 i d e
  exact ⟨v, e', r.mv x⟩⟩
theorem EnvOk.mv (x : Mv K m n H m' n' H') (h : EnvOk K T m n H ρ σ) : EnvOk K T m' n' H' ρ σ := ⟨h.1, fun i d e => by
  obtain ⟨v, e', r⟩ := h.2.1 i d e
  exact ⟨v, e', r.mv x⟩, h.2.2⟩
theorem EnvOk.set (h : EnvOk K T m n H ρ σ) {d : D} {v : V} (r : Rep K m n H d v) (i : Nat) (hi : T.fr i) : EnvOk K T m n H (ρ.set i (some d)) (σ.set i (some v)) := ⟨by simp [h.1], fun j d' e => by
  by_cases hj : i = j
  · subst hj
    rw [List.getElem?_set] at e
    simp at e
    obtain ⟨hl, e⟩ := e
    subst e
    exact ⟨v, by rw [List.getElem?_set]; simp [← h.1, hl], r⟩
  · rw [List.getElem?_set_ne hj] at e
    obtain ⟨v', e', r'⟩ := h.2.1 j d' e
    exact ⟨v', by rw [List.getElem?_set_ne hj]; exact e', r'⟩, fun p hp => by
  rw [List.getElem?_set_ne (Ne.symm (hi p hp))]; exact h.2.2 p hp⟩
theorem EnvOk.unset (h : EnvOk K T m n H ρ σ) (i : Nat) (x : Option V) (hi : T.fr i) : EnvOk K T m n H (ρ.set i none) (σ.set i x) := ⟨by simp [h.1], fun j d' e => by
  by_cases hj : i = j
  · subst hj
    rw [List.getElem?_set] at e
    simp at e
  · rw [List.getElem?_set_ne hj] at e
    obtain ⟨v', e', r'⟩ := h.2.1 j d' e
    exact ⟨v', by rw [List.getElem?_set_ne hj]; exact e', r'⟩, fun p hp => by
  rw [List.getElem?_set_ne (Ne.symm (hi p hp))]; exact h.2.2 p hp⟩
end

/-! ## what is wanted behind an evaluation -/
section
variable {K : PySem.W.Frag} {T : Tz} {ca : Nat → Addr}
/-- how results lie -/
abbrev RA (α β : Type) := (Nat → Addr) → Nat → Hp → α → β → Prop
def Post {α β : Type} (K : PySem.W.Frag) (T : Tz) (ca : Nat → Addr) (W : WX) (r : R α) (m : Nat → Addr) (S : Store) (H : Hp) (σ : St) (ra : RA α β) (Q : β → Hp → Prop) : Prop :=
  match r with
  | .ok a S' => ∀ m' H' b, Nx m S.length H m' S'.length H' → Sim K T m' S' H' → ra m' S'.length H' a b → Q b H'
  | .exc c w S' => ∀ m' H' x v, Nx m S.length H m' S'.length H' → Sim K T m' S' H' → H' x = some (.xd [(("what" : PySem.Str), v)]) → Rep K m' S'.length H' w v → W (.ref (ca c)) (some x) σ H'
  | .bad => False
def PostO {α β : Type} (K : PySem.W.Frag) (T : Tz) (r : Option (α × Store)) (m : Nat → Addr) (S : Store) (H : Hp) (ra : RA α β) (Q : β → Hp → Prop) : Prop :=
  match r with
  | some (a, S') => ∀ m' H' b, Nx m S.length H m' S'.length H' → Sim K T m' S' H' → ra m' S'.length H' a b → Q b H'
  | none => False
variable {α β γ δ : Type} {W : WX} {m m' : Nat → Addr} {S S' : Store} {H H' : Hp} {σ : St} {ra : RA α β} {rb : RA γ δ} {Q : β → Hp → Prop} {Q2 : δ → Hp → Prop}
theorem Post.shift {r : R α} (x : Nx m S.length H m' S'.length H') (h : Post K T ca W r m S H σ ra Q) : Post K T ca W r m' S' H' σ ra Q := by
  cases r with
  | ok a S1 => exact fun m1 H1 b nx => h m1 H1 b (x.trans nx)
  | exc c w S1 => exact fun m1 H1 b v nx => h m1 H1 b v (x.trans nx)
  | bad => exact h
theorem Post.bind {r : R α} {f : α → Store → R γ} (h : Post K T ca W (r.bind f) m S H σ rb Q2) :
    Post K T ca W r m S H σ ra (fun x H1 => ∃ m1 S1 a, Nx m S.length H m1 S1.length H1 ∧ Sim K T m1 S1 H1 ∧ ra m1 S1.length H1 a x ∧ Post K T ca W (f a S1) m1 S1 H1 σ rb Q2) := by
  cases r with
  | ok a S1 => exact fun m1 H1 b nx sm rr => ⟨m1, S1, a, nx, sm, rr, Post.shift nx h⟩
  | exc c w S1 => exact h
  | bad => exact h
theorem Post.mono {r : R α} {Q' : β → Hp → Prop} (h : Post K T ca W r m S H σ ra Q) (hq : ∀ b H', Q b H' → Q' b H') : Post K T ca W r m S H σ ra Q' := by
  cases r with
  | ok a S1 => exact fun m1 H1 b nx sm rr => hq _ _ (h m1 H1 b nx sm rr)
  | exc c w S1 => exact h
  | bad => exact h
theorem Post.ofO {r : Option (α × Store)} (h : Post K T ca W (ofO r) m S H σ ra Q) : PostO K T r m S H ra Q := by
  cases r with
  | some p => obtain ⟨a, S1⟩ := p; exact h
  | none => exact h
theorem Post.here {a : α} {b : β} (h : Post K T ca W (.ok a S) m S H σ ra Q) (s : Sim K T m S H) (r : ra m S.length H a b) : Q b H := h m H b Nx.refl s r
theorem Post.there {a : α} {b : β} {S1 : Store} (h : Post K T ca W (.ok a S1) m S H σ ra Q) (x : Nx m S.length H m' S1.length H') (s : Sim K T m' S1 H') (r : ra m' S1.length H' a b) : Q b H' := h m' H' b x s r
/-- over another heap: m' H' b etc. -/
theorem PostO.here {a : α} {b : β} (h : PostO K T (some (a, S)) m S H ra Q) (s : Sim K T m S H) (r : ra m S.length H a b) : Q b H := h m H b Nx.refl s r
end

/-! ## the judgements: an expression, a test, arguments -/
abbrev F := Env → Store → R D
abbrev FB := Env → Store → R Bool
abbrev FL := Env → Store → R (List D)
def rEqB : RA Bool Bool := fun _ _ _ a b => a = b
section
variable (K : PySem.W.Frag) (T : Tz) (ca : Nat → Addr) (W : WX)
def tV (f : F) : TE := fun σ H Q => ∃ m ρ S, Sim K T m S H ∧ EnvOk K T m S.length H ρ σ ∧ Post K T ca W (f ρ S) m S H σ (Rep K) Q
def tT (f : FB) : TT := fun σ H Q => ∃ m ρ S, Sim K T m S H ∧ EnvOk K T m S.length H ρ σ ∧ Post K T ca W (f ρ S) m S H σ rEqB Q
def tA (f : FL) : TA := fun σ H Q => ∃ m ρ S, Sim K T m S H ∧ EnvOk K T m S.length H ρ σ ∧ Post K T ca W (f ρ S) m S H σ (RepL K) Q
end
theorem pe_imp {X : Cx} {e : Expr} {t t' : TE} (h : PE X e t) (q : ∀ σ H Q, t' σ H Q → t σ H Q) : PE X e t' := ⟨fun pins s σ H Q I z => h.run pins s σ H Q I (q σ H Q z)⟩
theorem pt_imp {X : Cx} {e : Expr} {t t' : TT} (h : PT X e t) (q : ∀ σ H Q, t' σ H Q → t σ H Q) : PT X e t' := ⟨fun pins s σ H Q I z => h.run pins s σ H Q I (q σ H Q z)⟩
theorem pw_imp {X : Cx} {e : Expr} {t t' : TT} (h : PW X e t) (q : ∀ σ H Q, t' σ H Q → t σ H Q) : PW X e t' := ⟨fun wh pins s σ H Q I z => h.run wh pins s σ H Q I (q σ H Q z)⟩
theorem pa_imp {X : Cx} {e : List Expr} {t t' : TA} (h : PA X e t) (q : ∀ σ H Q, t' σ H Q → t σ H Q) : PA X e t' := ⟨fun p pins s σ H Q I z => h.run p pins s σ H Q I (q σ H Q z)⟩
theorem ps_imp {X : Cx} {e : Stmt} {t t' : TS} (h : PS X e t) (q : ∀ Dn σ H, t' Dn σ H → t Dn σ H) : PS X e t' := ⟨fun pins s σ H Dn I z => h.run pins s σ H Dn I (q Dn σ H z)⟩
theorem pss_imp {X : Cx} {e : List Stmt} {t t' : TS} (h : PSs X e t) (q : ∀ Dn σ H, t' Dn σ H → t Dn σ H) : PSs X e t' := ⟨fun pins s σ H Dn I z => h.run pins s σ H Dn I (q Dn σ H z)⟩

/-! ## new things -/
section
variable {K : PySem.W.Frag} {T : Tz} {m : Nat → Addr} {S : Store} {H : Hp}
/-- m with one more place -/
def mPush (m : Nat → Addr) (n : Nat) (p : Addr) : Nat → Addr := fun l => if l = n then p else m l
theorem mPush_old {n l : Nat} {p : Addr} (h : l < n) : mPush m n p l = m l := if_neg (Nat.ne_of_lt h)
theorem mPush_new {n : Nat} {p : Addr} : mPush m n p n = p := if_pos rfl
theorem sqT_upd {a p : Addr} {o : HO} {vs : List V} (hp : H p = none) (h : TupH K H a vs) : TupH K (upd H p o) a vs := by
  show upd H p o a = _
  rw [upd_ne (ne_of_none h hp)]; exact h
theorem mv_fresh {p : Addr} {o : HO} {n : Nat} (hp : H p = none) : Mv K m n H m n (upd H p o) := ⟨Nat.le_refl _, fun _ _ => rfl, fun _ _ h => sqT_upd hp h⟩
theorem mv_push {p : Addr} {o : HO} {n : Nat} (hp : H p = none) : Mv K m n H (mPush m n p) (n + 1) (upd H p o) := ⟨Nat.le_succ _, fun _ h => mPush_old h, fun _ _ h => sqT_upd hp h⟩
theorem CellOk.mv {m' : Nat → Addr} {n n' : Nat} {H' : Hp} {a : Addr} {c : Cell} (x : Mv K m n H m' n' H') (he : H' a = H a) (h : CellOk K m n H a c) : CellOk K m' n' H' a c := by
  cases c with
  | lst xs => obtain ⟨vs, e, r⟩ := h; exact ⟨vs, he.trans e, r.mv x⟩
  | ro xs => obtain ⟨vs, o, e, r⟩ := h; exact ⟨vs, o, he.trans e, r.mv x⟩
  | dK xs => obtain ⟨vs, e, r⟩ := h; exact ⟨vs, he.trans e, r.mv x⟩
  | dT xs => obtain ⟨vs, e, r⟩ := h; exact ⟨vs, he.trans e, r.mv x⟩
theorem Sim.ne_fresh (s : Sim K T m S H) {p : Addr} (hp : H p = none) {l : Nat} (hl : l < S.length) : m l ≠ p := fun z => by
  obtain ⟨c, _, hc⟩ := s.at hl
  obtain ⟨o, e, _⟩ := hc.notTup
  rw [z, hp] at e; cases e
/-- something that is in no cell, at a new place -/
theorem Sim.aside (s : Sim K T m S H) {p : Addr} {o : HO} (hp : H p = none) : Sim K T m S (upd H p o) where
  inj := s.inj
  cell := fun l c e => by
    have hl : l < S.length := (List.getElem?_eq_some_iff.mp e).1
    exact (s.cell l c e).mv (mv_fresh hp) (upd_ne (s.ne_fresh hp hl))
  tabs := s.tabs.ext fun b u e => by rw [upd_ne (ne_of_none e hp)]; exact e
  exs := fun q hq => let ⟨v, e, r⟩ := s.exs q hq; ⟨v, by rw [upd_ne (ne_of_none e hp)]; exact e, r.mv (mv_fresh hp)⟩
  evs := fun q hq => (s.evs q hq).mv (mv_fresh hp)
  cos := fun q hq => by rw [upd_ne (ne_of_none (s.cos q hq) hp)]; exact s.cos q hq
theorem nx_aside {n : Nat} {p : Addr} {o : HO} (hp : H p = none) : Nx m n H m n (upd H p o) :=
  ⟨Nat.le_refl _, fun _ _ => rfl, fun _ h1 h2 => absurd (Nat.lt_of_lt_of_le h2 h1) (Nat.lt_irrefl _), fun b u e _ _ => by rw [upd_ne (ne_of_none e hp)]; exact e, fun b u e z => ⟨u, by rw [upd_ne (ne_of_none e hp)]; exact e, z⟩⟩
/-- a new cell -/
theorem Sim.push (s : Sim K T m S H) {p : Addr} {o : HO} {c : Cell} (hp : H p = none) (hc : CellOk K (mPush m S.length p) (S.length + 1) (upd H p o) p c) : Sim K T (mPush m S.length p) (S ++ [c]) (upd H p o) where
  inj := fun l l' h h' e => by
    simp only [List.length_append, List.length_singleton] at h h'
    by_cases z : l < S.length
    · by_cases z' : l' < S.length
      · rw [mPush_old z, mPush_old z'] at e; exact s.inj l l' z z' e
      · have q : l' = S.length := by omega
        subst q
        rw [mPush_old z, mPush_new] at e
        exact absurd e (s.ne_fresh hp z)
    · have q : l = S.length := by omega
      subst q
      by_cases z' : l' < S.length
      · rw [mPush_old z', mPush_new] at e
        exact absurd e.symm (s.ne_fresh hp z')
      · omega
  cell := fun l c' e => by
    simp only [List.length_append, List.length_singleton]
    by_cases z : l < S.length
    · rw [List.getElem?_append_left z] at e
      rw [mPush_old z]
      exact (s.cell l c' e).mv (mv_push hp) (upd_ne (s.ne_fresh hp z))
    · rw [List.getElem?_append_right (Nat.le_of_not_lt z)] at e
      have hl := (List.getElem?_eq_some_iff.mp e).1
      simp at hl
      have q : l = S.length := by omega
      subst q
      simp at e
      subst e
      rw [mPush_new]
      exact hc
  tabs := s.tabs.ext fun b u e => by rw [upd_ne (ne_of_none e hp)]; exact e
  exs := fun q hq => let ⟨v, e, r⟩ := s.exs q hq; ⟨v, by rw [upd_ne (ne_of_none e hp)]; exact e, by
    have z : (S ++ [c]).length = S.length + 1 := by simp
    rw [z]; exact r.mv (mv_push hp)⟩
  evs := fun q hq => by
    have z : (S ++ [c]).length = S.length + 1 := by simp
    rw [z]; exact (s.evs q hq).mv (mv_push hp)
  cos := fun q hq => by rw [upd_ne (ne_of_none (s.cos q hq) hp)]; exact s.cos q hq
theorem nx_push {n : Nat} {p : Addr} {o : HO} (hp : H p = none) : Nx m n H (mPush m n p) (n + 1) (upd H p o) where
  le := Nat.le_succ _
  eq := fun _ h => mPush_old h
  fresh := fun l h1 h2 => by
    have q : l = n := by omega
    subst q
    intro o e
    rw [mPush_new, hp] at e; cases e
  frame := fun b u e _ _ => by rw [upd_ne (ne_of_none e hp)]; exact e
  keep := fun b u e z => ⟨u, by rw [upd_ne (ne_of_none e hp)]; exact e, z⟩
/-- a cell changed -/
theorem mv_set {a : Addr} {o u : HO} {n : Nat} (ha : H a = some u) (h1 : ∀ xs, u ≠ .tup xs) (h2 : ∀ w xs, u ≠ .frz w (.tup xs)) : Mv K m n H m n (upd H a o) := ⟨Nat.le_refl _, fun _ _ => rfl, fun b vs h => by
  show upd H a o b = _
  rw [upd_ne fun z => by subst z; rw [show H b = _ from h] at ha; cases ha; exact h1 _ rfl]; exact h⟩
theorem tabs_set {T : List (Addr × PySem.Str)} {a : Addr} {o u : HO} (t : LamX.Tabs T H) (ha : H a = some u) (h3 : ∀ ps, u ≠ .tbl ps) (h4 : ∀ φ, u ≠ .ext φ) : LamX.Tabs T (upd H a o) := fun p hp => by
  obtain ⟨ps, e, ok, k⟩ := t p hp
  refine ⟨ps, ?_, ok, fun pos cv q => ?_⟩
  · rw [upd_ne fun z => by rw [z, ha] at e; cases e; exact h3 _ rfl]; exact e
  · obtain ⟨c, ec, hc⟩ := k pos cv q
    exact ⟨c, ec, by rw [upd_ne fun z => by rw [z, ha] at hc; cases hc; exact h4 _ rfl]; exact hc⟩
/-- the changing kinds -/
def Chg (u : HO) : Prop := (∃ xs, u = .lst xs) ∨ (∃ xs, u = .dK xs) ∨ ∃ xs, u = .dT xs
theorem Sim.set (s : Sim K T m S H) {l : Nat} {u o : HO} {c : Cell} (hl : l < S.length) (ha : H (m l) = some u) (hu : Chg u) (hc : CellOk K m S.length (upd H (m l) o) (m l) c) : Sim K T m (S.set l c) (upd H (m l) o) where
  inj := fun a b h h' e => s.inj a b (by simpa using h) (by simpa using h') e
  cell := fun j c' e => by
    rw [List.length_set]
    have x : Mv K m S.length H m S.length (upd H (m l) o) := mv_set ha (by rcases hu with ⟨_, rfl⟩ | ⟨_, rfl⟩ | ⟨_, rfl⟩ <;> (intros; intro z; cases z)) (by rcases hu with ⟨_, rfl⟩ | ⟨_, rfl⟩ | ⟨_, rfl⟩ <;> (intros; intro z; cases z))
    by_cases z : l = j
    · subst z
      rw [List.getElem?_set] at e
      simp [hl] at e
      subst e
      exact hc
    · rw [List.getElem?_set_ne z] at e
      have hj : j < S.length := (List.getElem?_eq_some_iff.mp e).1
      exact (s.cell j c' e).mv x (upd_ne fun q => z (s.inj _ _ hl hj q.symm))
  tabs := tabs_set s.tabs ha (by rcases hu with ⟨_, rfl⟩ | ⟨_, rfl⟩ | ⟨_, rfl⟩ <;> (intros; intro z; cases z)) (by rcases hu with ⟨_, rfl⟩ | ⟨_, rfl⟩ | ⟨_, rfl⟩ <;> (intros; intro z; cases z))
  exs := fun q hq => by
    obtain ⟨v, e, r⟩ := s.exs q hq
    have x : Mv K m S.length H m S.length (upd H (m l) o) := mv_set ha (by rcases hu with ⟨_, rfl⟩ | ⟨_, rfl⟩ | ⟨_, rfl⟩ <;> (intros; intro z; cases z)) (by rcases hu with ⟨_, rfl⟩ | ⟨_, rfl⟩ | ⟨_, rfl⟩ <;> (intros; intro z; cases z))
    refine ⟨v, ?_, by rw [List.length_set]; exact r.mv x⟩
    rw [upd_ne fun z => by rw [z, ha] at e; rcases hu with ⟨_, rfl⟩ | ⟨_, rfl⟩ | ⟨_, rfl⟩ <;> cases e]
    exact e
  evs := fun q hq => by
    rw [List.length_set]
    exact (s.evs q hq).mv (mv_set ha (by rcases hu with ⟨_, rfl⟩ | ⟨_, rfl⟩ | ⟨_, rfl⟩ <;> (intros; intro z; cases z)) (by rcases hu with ⟨_, rfl⟩ | ⟨_, rfl⟩ | ⟨_, rfl⟩ <;> (intros; intro z; cases z)))
  cos := fun q hq => by
    have e := s.cos q hq
    rw [upd_ne fun z => by rw [z, ha] at e; rcases hu with ⟨_, rfl⟩ | ⟨_, rfl⟩ | ⟨_, rfl⟩ <;> cases e]
    exact e
theorem nx_set {n l : Nat} {o u : HO} (hl : l < n) (ha : H (m l) = some u) (ho : ∀ ps, o ≠ .tbl ps := by intro _ z; cases z) : Nx m n H m n (upd H (m l) o) :=
  ⟨Nat.le_refl _, fun _ _ => rfl, fun _ h1 h2 => absurd (Nat.lt_of_lt_of_le h2 h1) (Nat.lt_irrefl _), fun b w e h _ => by rw [upd_ne (Ne.symm (h l hl))]; exact e, fun b w e z => by
    by_cases q : b = m l
    · subst q; exact ⟨_, upd_same, ho⟩
    · exact ⟨w, by rw [upd_ne q]; exact e, z⟩⟩
theorem Sim.set_mv (s : Sim K T m S H) {l : Nat} {u o : HO} (ha : H (m l) = some u) (hu : Chg u) : Mv K m S.length H m S.length (upd H (m l) o) :=
  mv_set ha (by rcases hu with ⟨_, rfl⟩ | ⟨_, rfl⟩ | ⟨_, rfl⟩ <;> (intros; intro z; cases z)) (by rcases hu with ⟨_, rfl⟩ | ⟨_, rfl⟩ | ⟨_, rfl⟩ <;> (intros; intro z; cases z))
end
end G

set_option maxRecDepth 100000
set_option maxHeartbeats 4000000
namespace G
open PySem PySem.Spec PyProof.Rows L2
/-! # rules: expressions -/
section
variable {X : Cx} {T : Tz} {ca : Nat → Addr} {W : WX}
abbrev VE (X : Cx) (T : Tz) (ca : Nat → Addr) (W : WX) (e : Expr) (f : F) : Prop := PE X e (tV X.K T ca W f)
abbrev VT (X : Cx) (T : Tz) (ca : Nat → Addr) (W : WX) (e : Expr) (f : FB) : Prop := PT X e (tT X.K T ca W f)
abbrev VW (X : Cx) (T : Tz) (ca : Nat → Addr) (W : WX) (e : Expr) (f : FB) : Prop := PW X e (tT X.K T ca W f)
abbrev VA (X : Cx) (T : Tz) (ca : Nat → Addr) (W : WX) (e : List Expr) (f : FL) : Prop := PA X e (tA X.K T ca W f)

/-! ### the programs of plain steps -/
def fVar (i : Nat) : F := fun ρ S => match ρ[i]? with
  | some (some d) => .ok d S
  | _ => .bad
def fCon (d : D) : F := fun _ S => .ok d S
def fB2 (g : D → D → Store → Option (D × Store)) (a b : F) : F := fun ρ S => (a ρ S).bind fun x S1 => (b ρ S1).bind fun y S2 => ofO (g x y S2)
def fU (g : D → Store → Option (D × Store)) (a : F) : F := fun ρ S => (a ρ S).bind fun x S1 => ofO (g x S1)
def fNil : FL := fun _ S => .ok [] S
def fCons (a : F) (r : FL) : FL := fun ρ S => (a ρ S).bind fun x S1 => (r ρ S1).bind fun xs S2 => .ok (x :: xs) S2
def fTup (r : FL) : F := fun ρ S => (r ρ S).bind fun xs S1 => if xs.length ≤ sizeLine then .ok (.tup xs) S1 else .bad
def fLst (r : FL) : F := fun ρ S => (r ρ S).bind fun xs S1 => if xs.length ≤ sizeLine then .ok (.loc S1.length) (S1 ++ [.lst xs]) else .bad
def fCall (g : List D → Store → Option (D × Store)) (r : FL) : F := fun ρ S => (r ρ S).bind fun xs S1 => ofO (g xs S1)
def fIf (t : FB) (a b : F) : F := fun ρ S => (t ρ S).bind fun c S1 => if c = true then a ρ S1 else b ρ S1
/-- truth -/
def tru (d : D) (S : Store) : Option Bool := match d with
  | .non => some false
  | .bl b => some b
  | .int i => some (i != 0)
  | .str x => if x.length ≤ sizeLine then some ((x.length : Int) != 0) else none
  | .tup xs => some (!xs.isEmpty)
  | .loc l => match S[l]? with
    | some (.lst xs) => some (!xs.isEmpty)
    | some (.ro xs) => some (!xs.isEmpty)
    | some (.dK kvs) => some (!kvs.isEmpty)
    | _ => none
  | .kl _ _ => none
def ofB : Option Bool → Store → R Bool
  | some b, S => .ok b S
  | none, _ => .bad
def fTru (a : F) : FB := fun ρ S => (a ρ S).bind fun x S1 => ofB (tru x S1) S1
def fNotB (t : FB) : FB := fun ρ S => (t ρ S).bind fun c S1 => .ok (!c) S1
def fAndB (t u : FB) : FB := fun ρ S => (t ρ S).bind fun c S1 => if c = true then u ρ S1 else .ok false S1
def fOrB (t u : FB) : FB := fun ρ S => (t ρ S).bind fun c S1 => if c = true then .ok true S1 else u ρ S1
def fAnd (a b : F) : F := fun ρ S => (a ρ S).bind fun x S1 => (ofB (tru x S1) S1).bind fun c S2 => if c = true then b ρ S2 else .ok x S2
def fOr (a b : F) : F := fun ρ S => (a ρ S).bind fun x S1 => (ofB (tru x S1) S1).bind fun c S2 => if c = true then .ok x S2 else b ρ S2
def fNot (a : F) : F := fun ρ S => (a ρ S).bind fun x S1 => (ofB (tru x S1) S1).bind fun c S2 => .ok (.bl (!c)) S2
/-- a comparison's answer as a test's -/
def toB (d : D) (S : Store) : R Bool := match d with
  | .bl b => .ok b S
  | _ => .bad
def fAsB (a : F) : FB := fun ρ S => (a ρ S).bind toB

/-! ### their soundness -/
theorem ve_var {i : Nat} {x : PySem.Str} {pos : Pos} (hN : X.N[i]? = some x) (hv : Vis X.env.scope x) (hd : (x == ("__debug__" : PySem.Str)) = false) (hcd : (x == ("__classdict__" : PySem.Str)) = false) : VE X T ca W (.Name x pos) (fVar i) :=
  pe_imp (pe_var hN hv hd hcd) fun σ H Q ⟨m, ρ, S, sm, en, p⟩ => by
    unfold fVar at p
    cases e : ρ[i]? with
    | none => rw [e] at p; exact p.elim
    | some o =>
      cases o with
      | none => rw [e] at p; exact p.elim
      | some d =>
        rw [e] at p
        obtain ⟨v, ev, r⟩ := en.2.1 i d e
        exact ⟨v, ev, Post.here p sm r⟩
theorem ve_con {e : Expr} {v : V} {d : D} (h : PE X e (tC v)) (r : ∀ m n H, Rep X.K m n H d v) : VE X T ca W e (fCon d) :=
  pe_imp h fun σ H Q ⟨m, ρ, S, sm, en, p⟩ => Post.here p sm (r m S.length H)
/-- what an operation by values asks -/
def rB (K : PySem.W.Frag) (T : Tz) (g : D → D → Store → Option (D × Store)) : R2 := fun x y H Q => ∃ m S a b, Sim K T m S H ∧ Rep K m S.length H a x ∧ Rep K m S.length H b y ∧ PostO K T (g a b S) m S H (Rep K) Q
def rU1 (K : PySem.W.Frag) (T : Tz) (g : D → Store → Option (D × Store)) : V → Hp → VK → Prop := fun x H Q => ∃ m S a, Sim K T m S H ∧ Rep K m S.length H a x ∧ PostO K T (g a S) m S H (Rep K) Q
def rC (K : PySem.W.Frag) (T : Tz) (g : List D → Store → Option (D × Store)) : List V → Hp → VK → Prop := fun xs H Q => ∃ m S as, Sim K T m S H ∧ RepL K m S.length H as xs ∧ PostO K T (g as S) m S H (Rep K) Q
theorem tV_bind {f : F} {σ : St} {H : Hp} {α β : Type} {g : D → Store → R α} {ra : RA α β} {m : Nat → Addr} {ρ : Env} {S : Store} {Q : β → Hp → Prop} (sm : Sim X.K T m S H) (en : EnvOk X.K T m S.length H ρ σ) (p : Post X.K T ca W ((f ρ S).bind g) m S H σ ra Q) :
    tV X.K T ca W f σ H fun x H1 => ∃ m1 S1 d, Nx m S.length H m1 S1.length H1 ∧ Sim X.K T m1 S1 H1 ∧ EnvOk X.K T m1 S1.length H1 ρ σ ∧ Rep X.K m1 S1.length H1 d x ∧ Post X.K T ca W (g d S1) m1 S1 H1 σ ra Q :=
  ⟨m, ρ, S, sm, en, (Post.bind p).mono fun x H1 ⟨m1, S1, d, nx, sm1, r, q⟩ => ⟨m1, S1, d, nx, sm1, en.mv (nx.mv sm), r, q⟩⟩
theorem tT_bind {f : FB} {σ : St} {H : Hp} {α β : Type} {g : Bool → Store → R α} {ra : RA α β} {m : Nat → Addr} {ρ : Env} {S : Store} {Q : β → Hp → Prop} (sm : Sim X.K T m S H) (en : EnvOk X.K T m S.length H ρ σ) (p : Post X.K T ca W ((f ρ S).bind g) m S H σ ra Q) :
    tT X.K T ca W f σ H fun b H1 => ∃ m1 S1, Nx m S.length H m1 S1.length H1 ∧ Sim X.K T m1 S1 H1 ∧ EnvOk X.K T m1 S1.length H1 ρ σ ∧ Post X.K T ca W (g b S1) m1 S1 H1 σ ra Q :=
  ⟨m, ρ, S, sm, en, (Post.bind p).mono fun x H1 ⟨m1, S1, d, nx, sm1, r, q⟩ => by have r' : d = x := r; subst r'; exact ⟨m1, S1, nx, sm1, en.mv (nx.mv sm), q⟩⟩
theorem tA_bind {f : FL} {σ : St} {H : Hp} {α β : Type} {g : List D → Store → R α} {ra : RA α β} {m : Nat → Addr} {ρ : Env} {S : Store} {Q : β → Hp → Prop} (sm : Sim X.K T m S H) (en : EnvOk X.K T m S.length H ρ σ) (p : Post X.K T ca W ((f ρ S).bind g) m S H σ ra Q) :
    tA X.K T ca W f σ H fun xs H1 => ∃ m1 S1 ds, Nx m S.length H m1 S1.length H1 ∧ Sim X.K T m1 S1 H1 ∧ EnvOk X.K T m1 S1.length H1 ρ σ ∧ RepL X.K m1 S1.length H1 ds xs ∧ Post X.K T ca W (g ds S1) m1 S1 H1 σ ra Q :=
  ⟨m, ρ, S, sm, en, (Post.bind p).mono fun x H1 ⟨m1, S1, d, nx, sm1, r, q⟩ => ⟨m1, S1, d, nx, sm1, en.mv (nx.mv sm), r, q⟩⟩
theorem tV_mono {f : F} {σ : St} {H : Hp} {Q Q' : VK} (h : tV X.K T ca W f σ H Q) (q : ∀ v H', Q v H' → Q' v H') : tV X.K T ca W f σ H Q' :=
  let ⟨m, ρ, S, sm, en, p⟩ := h; ⟨m, ρ, S, sm, en, p.mono q⟩
theorem tT_mono {f : FB} {σ : St} {H : Hp} {Q Q' : Bool → Hp → Prop} (h : tT X.K T ca W f σ H Q) (q : ∀ v H', Q v H' → Q' v H') : tT X.K T ca W f σ H Q' :=
  let ⟨m, ρ, S, sm, en, p⟩ := h; ⟨m, ρ, S, sm, en, p.mono q⟩
theorem tA_mono {f : FL} {σ : St} {H : Hp} {Q Q' : List V → Hp → Prop} (h : tA X.K T ca W f σ H Q) (q : ∀ v H', Q v H' → Q' v H') : tA X.K T ca W f σ H Q' :=
  let ⟨m, ρ, S, sm, en, p⟩ := h; ⟨m, ρ, S, sm, en, p.mono q⟩
theorem t_b2 {g : D → D → Store → Option (D × Store)} {fa fb : F} {σ : St} {H : Hp} {Q : VK} (h : tV X.K T ca W (fB2 g fa fb) σ H Q) : tOp (rB X.K T g) (tV X.K T ca W fa) (tV X.K T ca W fb) σ H Q := by
  obtain ⟨m, ρ, S, sm, en, p⟩ := h
  refine tV_mono (tV_bind sm en p) fun x H1 ⟨m1, S1, d, nx, sm1, en1, r, q⟩ => ?_
  refine tV_mono (tV_bind sm1 en1 q) fun y H2 ⟨m2, S2, d2, nx2, sm2, en2, r2, q2⟩ => ?_
  exact ⟨m2, S2, d, d2, sm2, r.mv (nx2.mv sm1), r2, q2.ofO⟩
theorem ve_op {op : Operator} {g : D → D → Store → Option (D × Store)} {fa fb : F} {a b : Expr} {pos : Pos} (ho : OpR X (binaryOp op) (rB X.K T g)) (ha : VE X T ca W a fa) (hb : VE X T ca W b fb) : VE X T ca W (.BinOp a op b pos) (fB2 g fa fb) :=
  pe_imp (pe_op ho ha hb) fun σ H Q h => t_b2 h
theorem ve_cmp {op : CmpOp} {g : D → D → Store → Option (D × Store)} {fa fb : F} {a b : Expr} {pos : Pos} (ho : OpR X (compareOp op) (rB X.K T g)) (ha : VE X T ca W a fa) (hb : VE X T ca W b fb) (hm : behindInMarks op b = false) : VE X T ca W (.Compare a [op] [b] pos) (fB2 g fa fb) :=
  pe_imp (pe_cmpR ho ha hb hm) fun σ H Q h => t_b2 h
theorem vt_cmp {op : CmpOp} {g : D → D → Store → Option (D × Store)} {fa fb : F} {a b : Expr} {pos : Pos} (ho : OpR X (compareOp op) (rB X.K T g)) (ha : VE X T ca W a fa) (hb : VE X T ca W b fb) (hm : behindInMarks op b = false) : VT X T ca W (.Compare a [op] [b] pos) (fAsB (fB2 g fa fb)) :=
  pt_imp (pt_cmpR ho ha hb hm) fun σ H Q h => by
    obtain ⟨m, ρ, S, sm, en, p⟩ := h
    refine t_b2 (tV_mono (tV_bind sm en p) fun x H1 ⟨m1, S1, d, nx, sm1, en1, r, q⟩ => ?_)
    cases d with
    | bl b => exact ⟨b, r.bl_inv, Post.here q sm1 rfl⟩
    | _ => exact q.elim
theorem ve_un {op : UnaryOp} {g : D → Store → Option (D × Store)} {fa : F} {a : Expr} {pos : Pos} (ho : UnR X (unaryOp op) (rU1 X.K T g)) (ha : VE X T ca W a fa) : VE X T ca W (.UnaryOp op a pos) (fU g fa) :=
  pe_imp (pe_un ho ha) fun σ H Q h => by
    obtain ⟨m, ρ, S, sm, en, p⟩ := h
    exact tV_mono (tV_bind sm en p) fun x H1 ⟨m1, S1, d, nx, sm1, en1, r, q⟩ => ⟨m1, S1, d, sm1, r, q.ofO⟩
theorem va_nil : VA X T ca W [] fNil := pa_imp pa_nil fun σ H Q ⟨m, ρ, S, sm, en, p⟩ => Post.here p sm RepL.nil
theorem va_cons {a : Expr} {es : List Expr} {fa : F} {fr : FL} (ha : VE X T ca W a fa) (hr : VA X T ca W es fr) (hs : starEach (a :: es) X.env = (false, eval a X.env) :: starEach es X.env) : VA X T ca W (a :: es) (fCons fa fr) :=
  pa_imp (pa_cons ha hr hs) fun σ H Q h => by
    obtain ⟨m, ρ, S, sm, en, p⟩ := h
    refine tV_mono (tV_bind sm en p) fun x H1 ⟨m1, S1, d, nx, sm1, en1, r, q⟩ => ?_
    refine tA_mono (tA_bind sm1 en1 q) fun xs H2 ⟨m2, S2, ds, nx2, sm2, en2, r2, q2⟩ => ?_
    exact Post.here q2 sm2 (RepL.cons (r.mv (nx2.mv sm1)) r2)
theorem ve_tup {es : List Expr} {fr : FL} {k : Nat} {pos : Pos} (h : VA X T ca W es fr) : VE X T ca W (.Tuple es k pos) (fTup fr) :=
  pe_imp (pe_tup h) fun σ H Q h => by
    obtain ⟨m, ρ, S, sm, en, p⟩ := h
    refine tA_mono (tA_bind sm en p) fun xs H1 ⟨m1, S1, ds, nx, sm1, en1, r, q⟩ => ?_
    have e := r.len
    by_cases hz : ds.length ≤ sizeLine
    · rw [if_pos hz] at q
      refine ⟨by rw [e]; exact hz, fun p hp => ?_⟩
      exact Post.there q (nx_aside hp) (sm1.aside hp) (Rep.tup upd_same (r.mv (mv_fresh hp)))
    · rw [if_neg hz] at q; exact q.elim
/-- a new list -/
theorem new_lst {m : Nat → Addr} {S : Store} {H : Hp} {K : PySem.W.Frag} {xs : List D} {vs : List V} (s : Sim K T m S H) (r : RepL K m S.length H xs vs) {p : Addr} (hp : H p = none) :
    Nx m S.length H (mPush m S.length p) (S ++ [Cell.lst xs]).length (upd H p (.lst vs)) ∧ Sim K T (mPush m S.length p) (S ++ [Cell.lst xs]) (upd H p (.lst vs)) ∧ Rep K (mPush m S.length p) (S ++ [Cell.lst xs]).length (upd H p (.lst vs)) (.loc S.length) (.ref p) := by
  have e : (S ++ [Cell.lst xs]).length = S.length + 1 := by simp
  refine ⟨by rw [e]; exact nx_push hp, s.push hp ⟨vs, upd_same, r.mv (mv_push hp)⟩, ?_⟩
  rw [e]
  have z : mPush m S.length p S.length = p := mPush_new
  have q : Rep K (mPush m S.length p) (S.length + 1) (upd H p (.lst vs)) (.loc S.length) (.ref (mPush m S.length p S.length)) := Rep.loc (Nat.lt_succ_self _)
  rwa [z] at q
theorem ve_lst {es : List Expr} {fr : FL} {pos : Pos} (h : VA X T ca W es fr) : VE X T ca W (.List es pos) (fLst fr) :=
  pe_imp (pe_lst h) fun σ H Q h => by
    obtain ⟨m, ρ, S, sm, en, p⟩ := h
    refine tA_mono (tA_bind sm en p) fun xs H1 ⟨m1, S1, ds, nx, sm1, en1, r, q⟩ => ?_
    have e := r.len
    by_cases hz : ds.length ≤ sizeLine
    · rw [if_pos hz] at q
      refine ⟨by rw [e]; exact hz, fun p hp => ?_⟩
      obtain ⟨n1, n2, n3⟩ := new_lst sm1 r hp
      exact Post.there q n1 n2 n3
    · rw [if_neg hz] at q; exact q.elim
theorem t_call {g : List D → Store → Option (D × Store)} {fr : FL} {σ : St} {H : Hp} {Q : VK} (h : tV X.K T ca W (fCall g fr) σ H Q) : tCB (rC X.K T g) (tA X.K T ca W fr) σ H Q := by
  obtain ⟨m, ρ, S, sm, en, p⟩ := h
  exact tA_mono (tA_bind sm en p) fun xs H1 ⟨m1, S1, ds, nx, sm1, en1, r, q⟩ => ⟨m1, S1, ds, sm1, r, q.ofO⟩
theorem ve_callB {x : PySem.Str} {p pos : Pos} {e : Expr} {es : List Expr} {fr : FL} {id : String} {g : List D → Store → Option (D × Store)} (hc : CallR X (.builtin id) (rC X.K T g)) (hg : Gl X x) (hm : X.mg x = none) (hv : bootBuiltins x = some (.builtin id)) (ha : VA X T ca W (e :: es) fr)
    (hn : x ≠ "__name__") (hdb : (x == ("__debug__" : PySem.Str)) = false) (he : starEach (e :: es) X.env = (false, eval e X.env) :: starEach es X.env) (hpl : (backTo pos (starEach es X.env)).any (·.1) = false) : VE X T ca W (.Call (.Name x p) (e :: es) [] pos) (fCall g fr) :=
  pe_imp (pe_callB hc hg hm hv ha hn hdb he hpl) fun σ H Q h => t_call h
theorem ve_callTy {x : PySem.Str} {p pos : Pos} {e : Expr} {es : List Expr} {fr : FL} {id : String} {g : List D → Store → Option (D × Store)} (hc : CallR X (.type id) (rC X.K T g)) (hg : Gl X x) (hm : X.mg x = none) (hv : bootBuiltins x = some (.type id)) (ha : VA X T ca W (e :: es) fr)
    (hn : x ≠ "__name__") (hdb : (x == ("__debug__" : PySem.Str)) = false) (he : starEach (e :: es) X.env = (false, eval e X.env) :: starEach es X.env) (hpl : (backTo pos (starEach es X.env)).any (·.1) = false) : VE X T ca W (.Call (.Name x p) (e :: es) [] pos) (fCall g fr) :=
  pe_imp (pe_callTy hc hg hm hv ha hn hdb he hpl) fun σ H Q h => t_call h

/-! ### truth, and, or, not, if -/
theorem tru_ok {K : PySem.W.Frag} {m : Nat → Addr} {S : Store} {H : Hp} {d : D} {v : V} {b : Bool} (s : Sim K T m S H) (r : Rep K m S.length H d v) (h : tru d S = some b) : TruV K v H b := by
  cases d with
  | non => rw [r.non_inv]; simpa [tru, TruV] using h.symm
  | bl k => rw [r.bl_inv]; simpa [tru, TruV] using h.symm
  | int i => rw [r.int_inv]; simpa [tru, TruV] using h.symm
  | str x =>
    rw [r.str_inv]
    simp only [tru] at h
    split at h
    · rename_i hz
      simp at h
      exact ⟨hz, h.symm⟩
    · cases h
  | tup xs =>
    obtain ⟨a, vs, rfl, q, rr⟩ := r.tup_inv
    have h2 : (!xs.isEmpty) = b := Option.some.inj h
    refine .inr (.inl ⟨vs, tsq q, ?_⟩)
    rw [← h2]
    have e := rr.len
    cases xs <;> cases vs <;> simp at e ⊢
  | kl a xs => simp [tru] at h
  | loc l =>
    obtain ⟨hl, rfl⟩ := r.loc_inv
    simp only [tru] at h
    split at h
    · rename_i xs e
      obtain ⟨vs, ev, rr⟩ := s.cell l _ e
      have h2 := Option.some.inj h
      refine .inl ⟨vs, .inl (.inl ev), ?_⟩
      rw [← h2]
      have e := rr.len
      cases xs <;> cases vs <;> simp at e ⊢
    · rename_i xs e
      obtain ⟨vs, o, ev, rr⟩ := s.cell l _ e
      have h2 := Option.some.inj h
      refine .inl ⟨vs, .inl (.inr ⟨o, ev⟩), ?_⟩
      rw [← h2]
      have e := rr.len
      cases xs <;> cases vs <;> simp at e ⊢
    · rename_i xs e
      obtain ⟨vs, ev, rr⟩ := s.cell l _ e
      have h2 := Option.some.inj h
      refine .inr (.inr ⟨vs, ev, ?_⟩)
      rw [← h2]
      have e := rr.len
      cases xs <;> cases vs <;> simp at e ⊢
    · cases h
theorem post_ofB {α β : Type} {o : Option Bool} {S : Store} {f : Bool → Store → R α} {m : Nat → Addr} {H : Hp} {σ : St} {ra : RA α β} {Q : β → Hp → Prop} {K : PySem.W.Frag} (p : Post K T ca W ((ofB o S).bind f) m S H σ ra Q) : ∃ b, o = some b ∧ Post K T ca W (f b S) m S H σ ra Q := by
  cases o with
  | none => exact p.elim
  | some b => exact ⟨b, rfl, p⟩
theorem vt_tru {e : Expr} {f : F} (h : VE X T ca W e f) (he : ∀ whole, isTrue e X.env whole = (do let v ← whole; standAt e.pos; holding [v] (truthy v))) : VT X T ca W e (fTru f) :=
  pt_imp (pt_truth h he) fun σ H Q h => by
    obtain ⟨m, ρ, S, sm, en, p⟩ := h
    refine tV_mono (tV_bind sm en p) fun x H1 ⟨m1, S1, d, nx, sm1, en1, r, q⟩ => ?_
    cases e : tru d S1 with
    | none => rw [e] at q; exact q.elim
    | some b => rw [e] at q; exact ⟨b, tru_ok sm1 r e, Post.here q sm1 rfl⟩
theorem vt_not {e : Expr} {f : FB} {pos : Pos} (h : VT X T ca W e f) : VT X T ca W (.UnaryOp .Not e pos) (fNotB f) :=
  pt_imp (pt_not h) fun σ H Q h => by
    obtain ⟨m, ρ, S, sm, en, p⟩ := h
    exact tT_mono (tT_bind sm en p) fun b H1 ⟨m1, S1, nx, sm1, en1, q⟩ => Post.here q sm1 rfl
theorem vw_and1 {e : Expr} {f : FB} {pos : Pos} (h : VT X T ca W e f) : VW X T ca W (.BoolOp .And [e] pos) f := pw_and1 h
theorem vw_or1 {e : Expr} {f : FB} {pos : Pos} (h : VT X T ca W e f) : VW X T ca W (.BoolOp .Or [e] pos) f := pw_or1 h
theorem vw_and {a b : Expr} {rest : List Expr} {f g : FB} {pos : Pos} (h : VT X T ca W a f) (hb : VW X T ca W (.BoolOp .And (b :: rest) pos) g) : VW X T ca W (.BoolOp .And (a :: b :: rest) pos) (fAndB f g) :=
  pw_imp (pw_and h hb) fun σ H Q h => by
    obtain ⟨m, ρ, S, sm, en, p⟩ := h
    refine tT_mono (tT_bind sm en p) fun c H1 ⟨m1, S1, nx, sm1, en1, q⟩ => ?_
    cases c with
    | true => exact ⟨m1, ρ, S1, sm1, en1, q⟩
    | false => exact Post.here q sm1 rfl
theorem vw_or {a b : Expr} {rest : List Expr} {f g : FB} {pos : Pos} (h : VT X T ca W a f) (hb : VW X T ca W (.BoolOp .Or (b :: rest) pos) g) : VW X T ca W (.BoolOp .Or (a :: b :: rest) pos) (fOrB f g) :=
  pw_imp (pw_or h hb) fun σ H Q h => by
    obtain ⟨m, ρ, S, sm, en, p⟩ := h
    refine tT_mono (tT_bind sm en p) fun c H1 ⟨m1, S1, nx, sm1, en1, q⟩ => ?_
    cases c with
    | false => exact ⟨m1, ρ, S1, sm1, en1, q⟩
    | true => exact Post.here q sm1 rfl
theorem ve_and {a b : Expr} {rest : List Expr} {f g : F} {pos : Pos} (h : VE X T ca W a f) (hb : VE X T ca W (.BoolOp .And (b :: rest) pos) g) : VE X T ca W (.BoolOp .And (a :: b :: rest) pos) (fAnd f g) :=
  pe_imp (pe_andT h hb) fun σ H Q h => by
    obtain ⟨m, ρ, S, sm, en, p⟩ := h
    refine tV_mono (tV_bind sm en p) fun x H1 ⟨m1, S1, d, nx, sm1, en1, r, q⟩ => ?_
    obtain ⟨c, e, q⟩ := post_ofB q
    refine ⟨c, tru_ok sm1 r e, ?_⟩
    cases c with
    | true => exact ⟨m1, ρ, S1, sm1, en1, q⟩
    | false => exact Post.here q sm1 r
theorem ve_or {a b : Expr} {rest : List Expr} {f g : F} {pos : Pos} (h : VE X T ca W a f) (hb : VE X T ca W (.BoolOp .Or (b :: rest) pos) g) : VE X T ca W (.BoolOp .Or (a :: b :: rest) pos) (fOr f g) :=
  pe_imp (pe_orT h hb) fun σ H Q h => by
    obtain ⟨m, ρ, S, sm, en, p⟩ := h
    refine tV_mono (tV_bind sm en p) fun x H1 ⟨m1, S1, d, nx, sm1, en1, r, q⟩ => ?_
    obtain ⟨c, e, q⟩ := post_ofB q
    refine ⟨c, tru_ok sm1 r e, ?_⟩
    cases c with
    | false => exact ⟨m1, ρ, S1, sm1, en1, q⟩
    | true => exact Post.here q sm1 r
theorem ve_one {op : BoolOp} {a : Expr} {f : F} {pos : Pos} (h : VE X T ca W a f) : VE X T ca W (.BoolOp op [a] pos) f := pe_one h
theorem ve_not {a : Expr} {f : F} {pos : Pos} (h : VE X T ca W a f) : VE X T ca W (.UnaryOp .Not a pos) (fNot f) :=
  pe_imp (pe_notT h) fun σ H Q h => by
    obtain ⟨m, ρ, S, sm, en, p⟩ := h
    refine tV_mono (tV_bind sm en p) fun x H1 ⟨m1, S1, d, nx, sm1, en1, r, q⟩ => ?_
    obtain ⟨c, e, q⟩ := post_ofB q
    exact ⟨c, tru_ok sm1 r e, Post.here q sm1 Rep.bl⟩
theorem ve_if {c a b : Expr} {t : FB} {f g : F} {pos : Pos} (hc : VT X T ca W c t) (ha : VE X T ca W a f) (hb : VE X T ca W b g) : VE X T ca W (.IfExp c a b pos) (fIf t f g) :=
  pe_imp (pe_ifExp hc ha hb) fun σ H Q h => by
    obtain ⟨m, ρ, S, sm, en, p⟩ := h
    refine tT_mono (tT_bind sm en p) fun c H1 ⟨m1, S1, nx, sm1, en1, q⟩ => ?_
    cases c with
    | true => exact ⟨m1, ρ, S1, sm1, en1, q⟩
    | false => exact ⟨m1, ρ, S1, sm1, en1, q⟩
/-- a op1 b op2 c -/
def fChain (g h : D → D → Store → Option (D × Store)) (a b c : F) : F := fun ρ S => (a ρ S).bind fun x S1 => (b ρ S1).bind fun y S2 => (ofO (g x y S2)).bind fun z S3 => (toB z S3).bind fun k S4 =>
  if k = true then (c ρ S4).bind fun w S5 => ofO (h y w S5) else .ok (.bl false) S4
theorem t_chain {g h : D → D → Store → Option (D × Store)} {fa fb fc : F} {σ : St} {H : Hp} {Q : VK} (hh : tV X.K T ca W (fChain g h fa fb fc) σ H Q) : tChain (rB X.K T g) (rB X.K T h) (tV X.K T ca W fa) (tV X.K T ca W fb) (tV X.K T ca W fc) σ H Q := by
  obtain ⟨m, ρ, S, sm, en, p⟩ := hh
  refine tV_mono (tV_bind sm en p) fun x H1 ⟨m1, S1, d, nx, sm1, en1, r, q⟩ => ?_
  refine tV_mono (tV_bind sm1 en1 q) fun y H2 ⟨m2, S2, d2, nx2, sm2, en2, r2, q2⟩ => ?_
  refine ⟨m2, S2, d, d2, sm2, r.mv (nx2.mv sm1), r2, ?_⟩
  cases eg : g d d2 S2 with
  | none => rw [eg] at q2; exact q2.elim
  | some z =>
    obtain ⟨dz, S3⟩ := z
    rw [eg] at q2
    intro m3 H3 v3 nx3 sm3 r3
    have q3 := Post.shift nx3 q2
    cases dz with
    | bl k =>
      refine ⟨k, r3.bl_inv, ?_⟩
      cases k with
      | false => exact Post.here q3 sm3 Rep.bl
      | true =>
        refine tV_mono (tV_bind sm3 (en2.mv (nx3.mv sm2)) q3) fun w H4 ⟨m4, S4, d4, nx4, sm4, en4, r4, q4⟩ => ?_
        exact ⟨m4, S4, d2, d4, sm4, (r2.mv (nx3.mv sm2)).mv (nx4.mv sm3), r4, q4.ofO⟩
    | _ => exact q3.elim
theorem ve_chain {op op' : CmpOp} {g h : D → D → Store → Option (D × Store)} {fa fb fc : F} {a b c : Expr} {pos : Pos} (ho : OpR X (compareOp op) (rB X.K T g)) (ho' : OpR X (compareOp op') (rB X.K T h)) (ha : VE X T ca W a fa) (hb : VE X T ca W b fb) (hc : VE X T ca W c fc)
    (hm : lastMarks [op, op'] [b, c] = false) : VE X T ca W (.Compare a [op, op'] [b, c] pos) (fChain g h fa fb fc) :=
  pe_imp (pe_chain ho ho' ha hb hc hm) fun σ H Q h => t_chain h
theorem vt_chain {op op' : CmpOp} {g h : D → D → Store → Option (D × Store)} {fa fb fc : F} {a b c : Expr} {pos : Pos} (ho : OpR X (compareOp op) (rB X.K T g)) (ho' : OpR X (compareOp op') (rB X.K T h)) (ha : VE X T ca W a fa) (hb : VE X T ca W b fb) (hc : VE X T ca W c fc)
    (hm : lastMarks [op, op'] [b, c] = false) : VT X T ca W (.Compare a [op, op'] [b, c] pos) (fAsB (fChain g h fa fb fc)) :=
  pt_imp (pt_chain ho ho' ha hb hc hm) fun σ H Q h => by
    obtain ⟨m, ρ, S, sm, en, p⟩ := h
    refine t_chain (tV_mono (tV_bind sm en p) fun x H1 ⟨m1, S1, d, nx, sm1, en1, r, q⟩ => ?_)
    cases d with
    | bl b => exact ⟨b, r.bl_inv, Post.here q sm1 rfl⟩
    | _ => exact q.elim
end
end G

set_option maxRecDepth 100000
set_option maxHeartbeats 4000000
namespace G
open PySem PySem.Spec PyProof.Rows L2
/-! # statements -/
inductive Fl where
  | nx (ρ : Env) (S : Store)
  | ret (d : D) (S : Store)
  | bk (ρ : Env) (S : Store)
  | ct (ρ : Env) (S : Store)
  | exc (c : Nat) (w : D) (ρ : Env) (S : Store)
  | bad
abbrev FS := Env → Store → Fl
def R.toFl {α : Type} (r : R α) (ρ : Env) (k : α → Store → Fl) : Fl := match r with
  | .ok a S => k a S
  | .exc c w S => .exc c w ρ S
  | .bad => .bad
@[simp] theorem R.toFl_ok {α : Type} (a : α) (S : Store) (ρ : Env) (k : α → Store → Fl) : (R.ok a S).toFl ρ k = k a S := rfl
@[simp] theorem R.toFl_exc {α : Type} (c : Nat) (w : D) (S : Store) (ρ : Env) (k : α → Store → Fl) : (R.exc c w S : R α).toFl ρ k = .exc c w ρ S := rfl
@[simp] theorem R.toFl_bad {α : Type} (ρ : Env) (k : α → Store → Fl) : (R.bad : R α).toFl ρ k = .bad := rfl
def Fl.seq (r : Fl) (k : Env → Store → Fl) : Fl := match r with
  | .nx ρ S => k ρ S
  | r => r
@[simp] theorem Fl.seq_nx (ρ : Env) (S : Store) (k : Env → Store → Fl) : (Fl.nx ρ S).seq k = k ρ S := rfl
@[simp] theorem Fl.seq_ret (d : D) (S : Store) (k : Env → Store → Fl) : (Fl.ret d S).seq k = .ret d S := rfl
@[simp] theorem Fl.seq_bk (ρ : Env) (S : Store) (k : Env → Store → Fl) : (Fl.bk ρ S).seq k = .bk ρ S := rfl
@[simp] theorem Fl.seq_ct (ρ : Env) (S : Store) (k : Env → Store → Fl) : (Fl.ct ρ S).seq k = .ct ρ S := rfl
@[simp] theorem Fl.seq_exc (c : Nat) (w : D) (ρ : Env) (S : Store) (k : Env → Store → Fl) : (Fl.exc c w ρ S).seq k = .exc c w ρ S := rfl
@[simp] theorem Fl.seq_bad (k : Env → Store → Fl) : Fl.bad.seq k = .bad := rfl
section
variable {K : PySem.W.Frag} {T : Tz} {ca : Nat → Addr} {W : WX}
def PostS (K : PySem.W.Frag) (T : Tz) (ca : Nat → Addr) (W : WX) (r : Fl) (m : Nat → Addr) (S : Store) (H : Hp) (Dn : Ends) : Prop :=
  match r with
  | .nx ρ S' => ∀ m' H' σ', Nx m S.length H m' S'.length H' → Sim K T m' S' H' → EnvOk K T m' S'.length H' ρ σ' → Dn.nx σ' H'
  | .bk ρ S' => ∀ m' H' σ', Nx m S.length H m' S'.length H' → Sim K T m' S' H' → EnvOk K T m' S'.length H' ρ σ' → Dn.bk σ' H'
  | .ct ρ S' => ∀ m' H' σ', Nx m S.length H m' S'.length H' → Sim K T m' S' H' → EnvOk K T m' S'.length H' ρ σ' → Dn.ct σ' H'
  | .ret d S' => ∀ m' H' v, Nx m S.length H m' S'.length H' → Sim K T m' S' H' → Rep K m' S'.length H' d v → Dn.rt v H'
  | .exc c w ρ S' => ∀ m' H' σ' x v, Nx m S.length H m' S'.length H' → Sim K T m' S' H' → EnvOk K T m' S'.length H' ρ σ' → H' x = some (.xd [(("what" : PySem.Str), v)]) → Rep K m' S'.length H' w v → W (.ref (ca c)) (some x) σ' H'
  | .bad => False
def tS (K : PySem.W.Frag) (T : Tz) (ca : Nat → Addr) (W : WX) (f : FS) : TS := fun Dn σ H => ∃ m ρ S, Sim K T m S H ∧ EnvOk K T m S.length H ρ σ ∧ PostS K T ca W (f ρ S) m S H Dn
variable {m m' : Nat → Addr} {S S' : Store} {H H' : Hp} {σ : St} {ρ : Env} {Dn Dn' : Ends}
theorem PostS.shift {r : Fl} (x : Nx m S.length H m' S'.length H') (h : PostS K T ca W r m S H Dn) : PostS K T ca W r m' S' H' Dn := by
  cases r with
  | nx ρ S1 => exact fun m1 H1 b nx => h m1 H1 b (x.trans nx)
  | bk ρ S1 => exact fun m1 H1 b nx => h m1 H1 b (x.trans nx)
  | ct ρ S1 => exact fun m1 H1 b nx => h m1 H1 b (x.trans nx)
  | ret ρ S1 => exact fun m1 H1 b nx => h m1 H1 b (x.trans nx)
  | exc c w ρ S1 => exact fun m1 H1 b v u nx => h m1 H1 b v u (x.trans nx)
  | bad => exact h
theorem PostS.nx {r : Fl} {S1 : Store} (h : PostS K T ca W (.nx ρ S1) m S H Dn) (x : Nx m S.length H m' S1.length H') (s : Sim K T m' S1 H') (e : EnvOk K T m' S1.length H' ρ σ) : Dn.nx σ H' := h m' H' σ x s e
/-- behind an expression -/
theorem Post.ofFl {α β : Type} {r : R α} {k : α → Store → Fl} {ra : RA α β} (sm : Sim K T m S H) (en : EnvOk K T m S.length H ρ σ) (p : PostS K T ca W (r.toFl ρ k) m S H Dn) :
    Post K T ca W r m S H σ ra (fun x H1 => ∃ m1 S1 a, Nx m S.length H m1 S1.length H1 ∧ Sim K T m1 S1 H1 ∧ EnvOk K T m1 S1.length H1 ρ σ ∧ ra m1 S1.length H1 a x ∧ PostS K T ca W (k a S1) m1 S1 H1 Dn) := by
  cases r with
  | ok a S1 => exact fun m1 H1 b nx sm1 rr => ⟨m1, S1, a, nx, sm1, en.mv (nx.mv sm), rr, PostS.shift nx p⟩
  | exc c w S1 => exact fun m1 H1 x v nx sm1 e rr => p m1 H1 σ x v nx sm1 (en.mv (nx.mv sm)) e rr
  | bad => exact p
end
section
variable {X : Cx} {T : Tz} {ca : Nat → Addr} {W : WX}
abbrev VS (X : Cx) (T : Tz) (ca : Nat → Addr) (W : WX) (s : Stmt) (f : FS) : Prop := PS X s (tS X.K T ca W f)
abbrev VSs (X : Cx) (T : Tz) (ca : Nat → Addr) (W : WX) (s : List Stmt) (f : FS) : Prop := PSs X s (tS X.K T ca W f)
def sNil : FS := fun ρ S => .nx ρ S
def sSeq (f g : FS) : FS := fun ρ S => (f ρ S).seq g
def sRet (f : F) : FS := fun ρ S => (f ρ S).toFl ρ fun d S1 => .ret d S1
def sRetN : FS := fun _ S => .ret .non S
def sDrop (f : F) : FS := fun ρ S => (f ρ S).toFl ρ fun _ S1 => .nx ρ S1
def sIf (t : FB) (f g : FS) : FS := fun ρ S => (t ρ S).toFl ρ fun b S1 => if b = true then f ρ S1 else g ρ S1
def sBk : FS := fun ρ S => .bk ρ S
def sCt : FS := fun ρ S => .ct ρ S
/-- a target -/
abbrev FG := D → Env → Store → R Env
def sAsg (f : F) (g : FG) : FS := fun ρ S => (f ρ S).toFl ρ fun d S1 => (g d ρ S1).toFl ρ fun ρ' S2 => .nx ρ' S2
def tG (K : PySem.W.Frag) (T : Tz) (ca : Nat → Addr) (W : WX) (g : FG) : TG := fun v σ H Q => ∃ m ρ S d, Sim K T m S H ∧ EnvOk K T m S.length H ρ σ ∧ Rep K m S.length H d v ∧ Post K T ca W (g d ρ S) m S H σ (EnvOk K T) Q
abbrev VG (X : Cx) (T : Tz) (ca : Nat → Addr) (W : WX) (e : Expr) (g : FG) : Prop := PG X e (tG X.K T ca W g)
theorem pg_imp {X : Cx} {e : Expr} {t t' : TG} (h : PG X e t) (q : ∀ v σ H Q, t' v σ H Q → t v σ H Q) : PG X e t' := ⟨fun pins s σ H v u Q I r z => h.run pins s σ H v u Q I r (q v σ H Q z)⟩
theorem vs_nil : VSs X T ca W [] sNil := pss_imp pss_nil fun Dn σ H ⟨m, ρ, S, sm, en, p⟩ => p m H σ Nx.refl sm en
theorem vs_pass {pos : Pos} : VS X T ca W (.Pass pos) sNil := ps_imp ps_pass fun Dn σ H ⟨m, ρ, S, sm, en, p⟩ => p m H σ Nx.refl sm en
theorem vs_break {pos : Pos} : VS X T ca W (.Break pos) sBk := ps_imp ps_break fun Dn σ H ⟨m, ρ, S, sm, en, p⟩ => p m H σ Nx.refl sm en
theorem vs_continue {pos : Pos} : VS X T ca W (.Continue pos) sCt := ps_imp ps_continue fun Dn σ H ⟨m, ρ, S, sm, en, p⟩ => p m H σ Nx.refl sm en
theorem vs_cons {st : Stmt} {rest : List Stmt} {f g : FS} (h1 : VS X T ca W st f) (h2 : VSs X T ca W rest g) : VSs X T ca W (st :: rest) (sSeq f g) :=
  pss_imp (pss_cons h1 h2) fun Dn σ H ⟨m, ρ, S, sm, en, p⟩ => by
    refine ⟨m, ρ, S, sm, en, ?_⟩
    have p' : PostS X.K T ca W ((f ρ S).seq g) m S H Dn := p
    cases e : f ρ S with
    | nx ρ1 S1 => rw [e] at p'; exact fun m1 H1 σ1 nx sm1 en1 => ⟨m1, ρ1, S1, sm1, en1, PostS.shift nx p'⟩
    | bk ρ1 S1 => rw [e] at p'; exact p'
    | ct ρ1 S1 => rw [e] at p'; exact p'
    | ret ρ1 S1 => rw [e] at p'; exact p'
    | exc c w ρ1 S1 => rw [e] at p'; exact p'
    | bad => rw [e] at p'; exact p'
theorem vs_ret {e : Expr} {f : F} {pos : Pos} (h : VE X T ca W e f) : VS X T ca W (.Return (some e) pos) (sRet f) :=
  ps_imp (ps_ret h) fun Dn σ H ⟨m, ρ, S, sm, en, p⟩ => ⟨m, ρ, S, sm, en, (Post.ofFl sm en p).mono fun x H1 ⟨m1, S1, d, nx, sm1, en1, r, q⟩ => q m1 H1 x Nx.refl sm1 r⟩
theorem vs_retN {pos : Pos} : VS X T ca W (.Return none pos) sRetN :=
  ps_imp ps_retN fun Dn σ H ⟨m, ρ, S, sm, en, p⟩ => p m H .non Nx.refl sm Rep.non
theorem vs_expr {e : Expr} {f : F} {pos : Pos} (h : VE X T ca W e f) (hs : swapsWith e none pos.line X.env = pure false) : VS X T ca W (.Expr e pos) (sDrop f) :=
  ps_imp (ps_expr h hs) fun Dn σ H ⟨m, ρ, S, sm, en, p⟩ => ⟨m, ρ, S, sm, en, (Post.ofFl sm en p).mono fun x H1 ⟨m1, S1, d, nx, sm1, en1, r, q⟩ => q m1 H1 σ Nx.refl sm1 en1⟩
theorem vs_if {c : Expr} {a b : List Stmt} {t : FB} {f g : FS} {pos : Pos} (hc : VT X T ca W c t) (ha : VSs X T ca W a f) (hb : VSs X T ca W b g) : VS X T ca W (.If c a b pos) (sIf t f g) :=
  ps_imp (ps_if hc ha hb) fun Dn σ H ⟨m, ρ, S, sm, en, p⟩ => by
    refine ⟨m, ρ, S, sm, en, (Post.ofFl (ra := rEqB) sm en p).mono fun b' H1 ⟨m1, S1, d, nx, sm1, en1, r, q⟩ => ?_⟩
    have r' : d = b' := r
    subst r'
    cases d with
    | true => exact ⟨m1, ρ, S1, sm1, en1, q⟩
    | false => exact ⟨m1, ρ, S1, sm1, en1, q⟩
/-! ### targets -/
def gNm (i : Nat) : FG := fun d ρ S => .ok (ρ.set i (some d)) S
def gTp (n : Nat) (gs : List D → Env → Store → R Env) : FG := fun d ρ S => match d with
  | .tup xs => if xs.length = n then gs xs ρ S else .bad
  | _ => .bad
abbrev FGs := List D → Env → Store → R Env
def gNl : FGs := fun ds ρ S => match ds with
  | [] => .ok ρ S
  | _ => .bad
def gCn (g : FG) (r : FGs) : FGs := fun ds ρ S => match ds with
  | d :: ds => (g d ρ S).bind fun ρ' S1 => r ds ρ' S1
  | [] => .bad
theorem post_env {α : Type} {r : R Env} {m : Nat → Addr} {S : Store} {H : Hp} {σ : St} {Q : St → Hp → Prop} {K : PySem.W.Frag} {f : Env → Store → R Env} (p : Post K T ca W (r.bind f) m S H σ (EnvOk K T) Q) (hW : ∀ c x σ σ' H, W c x σ H → W c x σ' H) :
    Post K T ca W r m S H σ (EnvOk K T) (fun σ1 H1 => ∃ m1 S1 ρ1, Nx m S.length H m1 S1.length H1 ∧ Sim K T m1 S1 H1 ∧ EnvOk K T m1 S1.length H1 ρ1 σ1 ∧ Post K T ca W (f ρ1 S1) m1 S1 H1 σ1 (EnvOk K T) Q) :=
  (Post.bind p).mono fun σ1 H1 ⟨m1, S1, ρ1, nx, sm1, en1, q⟩ => ⟨m1, S1, ρ1, nx, sm1, en1, by
    cases e : f ρ1 S1 with
    | ok a S2 => rw [e] at q; exact q
    | exc c w S2 => rw [e] at q; exact fun m' H' x v nx' sm' ex rr => hW _ _ _ _ _ (q m' H' x v nx' sm' ex rr)
    | bad => rw [e] at q; exact q⟩
theorem vg_name {i : Nat} {x : PySem.Str} {pos : Pos} (hfr : T.fr i) (hN : X.N.Nodup) (hi : X.N[i]? = some x) (hx : Loc X.env.scope x) (hf : X.fn x = true ∨ X.env.scope.names.lookup x = some .local) : VG X T ca W (.Name x pos) (gNm i) :=
  pg_imp (pg_name hN hi hx hf) fun v σ H Q ⟨m, ρ, S, d, sm, en, r, p⟩ => Post.here p sm (en.set r i hfr)
def tGs (K : PySem.W.Frag) (T : Tz) (ca : Nat → Addr) (g : FGs) : TGs := fun vs σ H Q => ∃ m ρ S ds, Sim K T m S H ∧ EnvOk K T m S.length H ρ σ ∧ RepL K m S.length H ds vs ∧ Post K T ca (fun _ _ _ _ => False) (g ds ρ S) m S H σ (EnvOk K T) Q
theorem pgs_imp {X : Cx} {e : List Expr} {t t' : TGs} (h : PGs X e t) (q : ∀ v σ H Q, t' v σ H Q → t v σ H Q) : PGs X e t' := ⟨fun pins s σ H v u Q I r z => h.run pins s σ H v u Q I r (q v σ H Q z)⟩
abbrev VGs (X : Cx) (T : Tz) (ca : Nat → Addr) (e : List Expr) (g : FGs) : Prop := PGs X e (tGs X.K T ca g)
theorem vgs_nil : VGs X T ca [] gNl :=
  pgs_imp pgs_nil fun vs σ H Q ⟨m, ρ, S, ds, sm, en, r, p⟩ => by
    cases ds with
    | nil => exact ⟨r.nil_inv, Post.here p sm en⟩
    | cons d ds => exact p.elim
theorem vgs_cons {e : Expr} {es : List Expr} {g : FG} {r : FGs} (h1 : VG X T ca (fun _ _ _ _ => False) e g) (h2 : VGs X T ca es r)
    (hs : (assignEach (e :: es) X.env).map (·.2) = assign e X.env :: (assignEach es X.env).map (·.2)) : VGs X T ca (e :: es) (gCn g r) :=
  pgs_imp (pgs_cons h1 h2 hs) fun vs σ H Q ⟨m, ρ, S, ds, sm, en, rr, p⟩ => by
    cases ds with
    | nil => exact p.elim
    | cons d ds =>
      obtain ⟨v, vs', rfl, q, rr⟩ := rr.cons_inv
      refine ⟨v, vs', rfl, m, ρ, S, d, sm, en, q, (post_env (α := Unit) p (fun _ _ _ _ _ z => z)).mono fun σ1 H1 ⟨m1, S1, ρ1, nx, sm1, en1, q1⟩ => ?_⟩
      exact ⟨m1, ρ1, S1, ds, sm1, en1, rr.mv (nx.mv sm), q1⟩
theorem vg_noexc {e : Expr} {g : FG} (h : VG X T ca (fun _ _ _ _ => False) e g) (hn : ∀ d ρ S c w S', g d ρ S ≠ .exc c w S') : VG X T ca W e g :=
  pg_imp h fun v σ H Q ⟨m, ρ, S, d, sm, en, r, p⟩ => ⟨m, ρ, S, d, sm, en, r, by
    cases e : g d ρ S with
    | ok a S2 => rw [e] at p; exact p
    | exc c w S2 => exact absurd e (hn _ _ _ _ _ _)
    | bad => rw [e] at p; exact p⟩
theorem vg_tup {es : List Expr} {k : Nat} {pos : Pos} {gs : FGs} {n : Nat} (hc : X.calm = true) (h : VGs X T ca es gs) (hn : (assignEach es X.env).length = n) (hst : (assignEach es X.env).findIdx? (·.1) = none) : VG X T ca (fun _ _ _ _ => False) (.Tuple es k pos) (gTp n gs) :=
  pg_imp (pg_tup hc h hn hst) fun v σ H Q ⟨m, ρ, S, d, sm, en, r, p⟩ => by
    cases d with
    | tup xs =>
      obtain ⟨a, vs, rfl, q, rr⟩ := r.tup_inv
      have p' : Post X.K T ca (fun _ _ _ _ => False) (if xs.length = n then gs xs ρ S else .bad) m S H σ (EnvOk X.K T) Q := p
      by_cases hl : xs.length = n
      · rw [if_pos hl] at p'
        exact ⟨a, vs, rfl, tsq q, by rw [rr.len]; exact hl, m, ρ, S, xs, sm, en, rr, p'⟩
      · rw [if_neg hl] at p'; exact p'.elim
    | _ => exact p.elim
theorem vs_asg {tg e : Expr} {f : F} {g : FG} {pos : Pos} (he : VE X T ca W e f) (hg : VG X T ca W tg g) (hs : swapsWithSole [tg] e pos.line X.env = pure false) (hw : swappedStores [tg] e X.env = pure none)
    (h1 : (assignEach [tg] X.env).map (·.2) = [assign tg X.env]) : VS X T ca W (.Assign [tg] e pos) (sAsg f g) :=
  ps_imp (ps_asg he hg hs hw h1) fun Dn σ H ⟨m, ρ, S, sm, en, p⟩ => by
    refine ⟨m, ρ, S, sm, en, (Post.ofFl sm en p).mono fun x H1 ⟨m1, S1, d, nx, sm1, en1, r, q⟩ => ?_⟩
    refine ⟨m1, ρ, S1, d, sm1, en1, r, ?_⟩
    cases e : g d ρ S1 with
    | ok ρ2 S2 => rw [e] at q; exact fun m2 H2 σ2 nx2 sm2 en2 => q m2 H2 σ2 nx2 sm2 en2
    | exc c w S2 => rw [e] at q; exact fun m2 H2 x v nx2 sm2 ex rr => q m2 H2 σ x v nx2 sm2 (en1.mv (nx2.mv sm1)) ex rr
    | bad => rw [e] at q; exact q.elim
/-- name = e, by ps_set -/
theorem vs_set {i : Nat} {x : PySem.Str} {e : Expr} {f : F} {pos pos' : Pos} (hfr : T.fr i) (hN : X.N.Nodup) (hi : X.N[i]? = some x) (hx : Loc X.env.scope x) (he : VE X T ca W e f) (hs : swapsWith e (some (.Name x pos')) pos.line X.env = pure false) (hf : X.fn x = true ∨ X.env.scope.names.lookup x = some .local) :
    VS X T ca W (.Assign [.Name x pos'] e pos) (sAsg f (gNm i)) :=
  ps_imp (ps_set hN hi hx he hs hf) fun Dn σ H ⟨m, ρ, S, sm, en, p⟩ => by
    refine ⟨m, ρ, S, sm, en, (Post.ofFl sm en p).mono fun x H1 ⟨m1, S1, d, nx, sm1, en1, r, q⟩ => ?_⟩
    exact q m1 H1 _ Nx.refl sm1 (en1.set r i hfr)
/-- a, b = x, y -/
def sPar2 (i j : Nat) (a : FL) : FS := fun ρ S => (a ρ S).toFl ρ fun ds S1 => match ds with
  | [x, y] => .nx ((ρ.set i (some x)).set j (some y)) S1
  | _ => .bad
theorem vs_par2 {i j : Nat} {x y : PySem.Str} {a b : Expr} {fa : FL} {px py pt pos : Pos} {kt k2 pt2} (hfi : T.fr i) (hfj : T.fr j) (hc : X.calm = true) (hN : X.N.Nodup) (hi : X.N[i]? = some x) (hj : X.N[j]? = some y) (hij : i ≠ j) (hx : X.env.scope.names.lookup x = some .local) (hy : X.env.scope.names.lookup y = some .local)
    (ha : VA X T ca W [a, b] fa) (hw : swappedStores [.Tuple [.Name x px, .Name y py] kt pt] (.Tuple [a, b] k2 pt2) X.env = pure (some [x, y])) (hs : swapsWithSole [.Tuple [.Name x px, .Name y py] kt pt] (.Tuple [a, b] k2 pt2) pos.line X.env = pure false) :
    VS X T ca W (.Assign [.Tuple [.Name x px, .Name y py] kt pt] (.Tuple [a, b] k2 pt2) pos) (sPar2 i j fa) :=
  ps_imp (ps_par hc hN hi hj hij hx hy ha hw hs) fun Dn σ H ⟨m, ρ, S, sm, en, p⟩ => by
    refine ⟨m, ρ, S, sm, en, (Post.ofFl sm en p).mono fun vs H1 ⟨m1, S1, ds, nx, sm1, en1, r, q⟩ => ?_⟩
    match ds, r, q with
    | [d1, d2], r, q =>
      obtain ⟨v1, vs1, rfl, r1, r⟩ := r.cons_inv
      obtain ⟨v2, vs2, rfl, r2, r⟩ := r.cons_inv
      obtain rfl := r.nil_inv
      exact ⟨v1, v2, rfl, q m1 H1 _ Nx.refl sm1 ((en1.set r1 i hfi).set r2 j hfj)⟩
    | [], _, q => exact q.elim
    | [_], _, q => exact q.elim
    | _ :: _ :: _ :: _, _, q => exact q.elim
/-! ### loops -/
/-- what a loop walks: so many turns, the item at a turn, whether the end is as it should be -/
structure Wk where
  n : Nat
  get : Store → Nat → Option D
  fin : Store → Bool
/-- behind a turn -/
def forK (next : Env → Store → Fl) (r : Fl) : Fl := match r with
  | .nx ρ S => next ρ S
  | .ct ρ S => next ρ S
  | .bk ρ S => .nx ρ S
  | r => r
@[simp] theorem forK_nx (n : Env → Store → Fl) (ρ : Env) (S : Store) : forK n (.nx ρ S) = n ρ S := rfl
@[simp] theorem forK_ct (n : Env → Store → Fl) (ρ : Env) (S : Store) : forK n (.ct ρ S) = n ρ S := rfl
@[simp] theorem forK_bk (n : Env → Store → Fl) (ρ : Env) (S : Store) : forK n (.bk ρ S) = .nx ρ S := rfl
@[simp] theorem forK_ret (n : Env → Store → Fl) (d : D) (S : Store) : forK n (.ret d S) = .ret d S := rfl
@[simp] theorem forK_exc (n : Env → Store → Fl) (c : Nat) (w : D) (ρ : Env) (S : Store) : forK n (.exc c w ρ S) = .exc c w ρ S := rfl
@[simp] theorem forK_bad (n : Env → Store → Fl) : forK n .bad = .bad := rfl
def forGo (w : Wk) (body : D → Env → Store → Fl) : Nat → Nat → Env → Store → Fl
  | 0, _, ρ, S => if w.fin S = true then .nx ρ S else .bad
  | k + 1, i, ρ, S => match w.get S i with
    | none => .bad
    | some d => forK (forGo w body k (i + 1)) (body d ρ S)
def tgt (g : FG) (f : FS) : D → Env → Store → Fl := fun d ρ S => (g d ρ S).toFl ρ fun ρ' S1 => f ρ' S1
def sFor (w : Env → Store → R Wk) (g : FG) (f : FS) : FS := fun ρ S => (w ρ S).toFl ρ fun wk S1 => forGo wk (tgt g f) wk.n 0 ρ S1
/-- how a walk lies -/
structure WkOk (K : PySem.W.Frag) (T : Tz) (m : Nat → Addr) (n : Nat) (H : Hp) (w : Wk) (J : It) : Prop where
  stop : ∀ m1 S1 H1, Nx m n H m1 S1.length H1 → Sim K T m1 S1 H1 → w.fin S1 = true → J.stop w.n H1
  go : ∀ m1 S1 H1 i d, Nx m n H m1 S1.length H1 → Sim K T m1 S1 H1 → i < w.n → w.get S1 i = some d → J.go i H1 ∧ ∀ x H2, J.yld i H1 x H2 → Nx m1 S1.length H1 m1 S1.length H2 ∧ Sim K T m1 S1 H2 ∧ Rep K m1 S1.length H2 d x
def iW (K : PySem.W.Frag) (T : Tz) (ca : Nat → Addr) (W : WX) (w : Env → Store → R Wk) : TI := fun σ H R' => ∃ m ρ S, Sim K T m S H ∧ EnvOk K T m S.length H ρ σ ∧ Post K T ca W (w ρ S) m S H σ (WkOk K T) R'
abbrev VI (X : Cx) (T : Tz) (ca : Nat → Addr) (W : WX) (tg e : Expr) (w : Env → Store → R Wk) : Prop := PI X tg e (iW X.K T ca W w)
theorem vs_for {tg iter : Expr} {body : List Stmt} {w : Env → Store → R Wk} {g : FG} {f : FS} {pos : Pos} (hp : PassesOwn (model X.prog X.w) X.A X.env X.xe) (hc : X.calm = true) (hi : VI X T ca W tg iter w) (hg : VG X T ca W tg g) (hb : VSs X T ca W body f) (hs : ∀ x, foldedSetIterable iter X.env x = pure x) :
    VS X T ca W (.For tg iter body [] pos) (sFor w g f) :=
  ps_imp (ps_for hp hc hi hg hb hs) fun Dn σ H ⟨m, ρ, S, sm, en, p⟩ => by
    refine ⟨m, ρ, S, sm, en, (Post.ofFl sm en p).mono fun J H1 ⟨m1, S1, wk, nx, sm1, en1, wok, q⟩ => ?_⟩
    refine ⟨fun i k σ H => i + k = wk.n ∧ ∃ m2 ρ2 S2, Nx m1 S1.length H1 m2 S2.length H ∧ Sim X.K T m2 S2 H ∧ EnvOk X.K T m2 S2.length H ρ2 σ ∧ PostS X.K T ca W (forGo wk (tgt g f) k i ρ2 S2) m2 S2 H Dn, ⟨wk.n, by omega, m1, ρ, S1, Nx.refl, sm1, en1, q⟩, ?_⟩
    rintro i k σ2 H2 ⟨hk, m2, ρ2, S2, nx2, sm2, en2, q2⟩
    cases k with
    | zero =>
      have hi : i = wk.n := by omega
      subst hi
      have q2' : PostS X.K T ca W (if wk.fin S2 = true then .nx ρ2 S2 else .bad) m2 S2 H2 Dn := q2
      by_cases hf : wk.fin S2 = true
      · rw [if_pos hf] at q2'
        exact .inl ⟨wok.stop m2 S2 H2 nx2 sm2 hf, q2' m2 H2 σ2 Nx.refl sm2 en2⟩
      · rw [if_neg hf] at q2'; exact q2'.elim
    | succ k =>
      unfold forGo at q2
      cases eg : wk.get S2 i with
      | none => rw [eg] at q2; exact q2.elim
      | some d =>
        rw [eg] at q2
        obtain ⟨go, yl⟩ := wok.go m2 S2 H2 i d nx2 sm2 (by omega) eg
        refine .inr ⟨go, fun σ' H' => i + 1 + k = wk.n ∧ ∃ m3 ρ3 S3, Nx m1 S1.length H1 m3 S3.length H' ∧ Sim X.K T m3 S3 H' ∧ EnvOk X.K T m3 S3.length H' ρ3 σ' ∧ PostS X.K T ca W (forGo wk (tgt g f) k (i + 1) ρ3 S3) m3 S3 H' Dn, fun σ' H' z => ⟨k, by omega, z⟩, fun x H3 hy => ?_⟩
        obtain ⟨nx3, sm3, r3⟩ := yl x H3 hy
        have en3 : EnvOk X.K T m2 S2.length H3 ρ2 σ2 := en2.mv (nx3.mv sm2)
        refine ⟨m2, ρ2, S2, d, sm3, en3, r3, ?_⟩
        have nx13 : Nx m1 S1.length H1 m2 S2.length H3 := nx2.trans nx3
        have q3 : PostS X.K T ca W (forK (forGo wk (tgt g f) k (i + 1)) (tgt g f d ρ2 S2)) m2 S2 H3 Dn := PostS.shift nx3 q2
        cases e2 : g d ρ2 S2 with
        | bad => rw [show tgt g f d ρ2 S2 = .bad by unfold tgt; rw [e2]; rfl] at q3; exact q3.elim
        | exc c w' S4 => rw [show tgt g f d ρ2 S2 = .exc c w' ρ2 S4 by unfold tgt; rw [e2]; rfl] at q3; exact fun m4 H4 x v nx4 sm4 ex rr => q3 m4 H4 σ2 x v nx4 sm4 (en3.mv (nx4.mv sm3)) ex rr
        | ok ρ4 S4 =>
          intro m4 H4 σ4 nx4 sm4 en4
          refine ⟨m4, ρ4, S4, sm4, en4, ?_⟩
          have e3 : tgt g f d ρ2 S2 = f ρ4 S4 := by unfold tgt; rw [e2]; rfl
          rw [e3] at q3
          have q4 := PostS.shift nx4 q3
          have nx14 : Nx m1 S1.length H1 m4 S4.length H4 := nx13.trans nx4
          cases e4 : f ρ4 S4 with
          | nx ρ5 S5 => rw [e4] at q4; exact fun m5 H5 σ5 nx5 sm5 en5 => ⟨by omega, m5, ρ5, S5, nx14.trans nx5, sm5, en5, PostS.shift nx5 q4⟩
          | ct ρ5 S5 => rw [e4] at q4; exact fun m5 H5 σ5 nx5 sm5 en5 => ⟨by omega, m5, ρ5, S5, nx14.trans nx5, sm5, en5, PostS.shift nx5 q4⟩
          | bk ρ5 S5 => rw [e4] at q4; exact q4
          | ret d5 S5 => rw [e4] at q4; exact q4
          | exc c w' ρ5 S5 => rw [e4] at q4; exact q4
          | bad => rw [e4] at q4; exact q4
def whileGo (t : FB) (f : FS) : Nat → Env → Store → Fl
  | 0, _, _ => .bad
  | k + 1, ρ, S => (t ρ S).toFl ρ fun b S1 => if b = true then forK (whileGo t f k) (f ρ S1) else .nx ρ S1
def sWhile (fuel : Nat) (t : FB) (f : FS) : FS := fun ρ S => whileGo t f fuel ρ S
theorem vs_while {c : Expr} {body : List Stmt} {t : FB} {f : FS} {pos : Pos} {fuel : Nat} (hp : PassesOwn (model X.prog X.w) X.A X.env X.xe) (hc : VT X T ca W c t) (hb : VSs X T ca W body f) : VS X T ca W (.While c body [] pos) (sWhile fuel t f) :=
  ps_imp (ps_while hp hc hb) fun Dn σ H ⟨m, ρ, S, sm, en, p⟩ => by
    refine ⟨fun k σ H => ∃ m2 ρ2 S2, Sim X.K T m2 S2 H ∧ EnvOk X.K T m2 S2.length H ρ2 σ ∧ PostS X.K T ca W (whileGo t f k ρ2 S2) m2 S2 H Dn, ⟨fuel, m, ρ, S, sm, en, p⟩, ?_⟩
    rintro k σ2 H2 ⟨m2, ρ2, S2, sm2, en2, q2⟩
    cases k with
    | zero => exact q2.elim
    | succ k =>
      unfold whileGo at q2
      refine ⟨m2, ρ2, S2, sm2, en2, (Post.ofFl (ra := rEqB) sm2 en2 q2).mono fun b H3 ⟨m3, S3, b', nx3, sm3, en3, r3, q3⟩ => ?_⟩
      have r' : b' = b := r3
      subst r'
      cases b' with
      | false => exact q3 m3 H3 σ2 Nx.refl sm3 en3
      | true =>
        refine ⟨fun σ' H' => ∃ m2 ρ2 S2, Sim X.K T m2 S2 H' ∧ EnvOk X.K T m2 S2.length H' ρ2 σ' ∧ PostS X.K T ca W (whileGo t f k ρ2 S2) m2 S2 H' Dn, fun σ' H' z => ⟨k, Nat.lt_succ_self _, z⟩, m3, ρ2, S3, sm3, en3, ?_⟩
        rw [if_pos rfl] at q3
        cases e4 : f ρ2 S3 with
        | nx ρ5 S5 => rw [e4] at q3; exact fun m5 H5 σ5 nx5 sm5 en5 => ⟨m5, ρ5, S5, sm5, en5, PostS.shift nx5 q3⟩
        | ct ρ5 S5 => rw [e4] at q3; exact fun m5 H5 σ5 nx5 sm5 en5 => ⟨m5, ρ5, S5, sm5, en5, PostS.shift nx5 q3⟩
        | bk ρ5 S5 => rw [e4] at q3; exact q3
        | ret d5 S5 => rw [e4] at q3; exact q3
        | exc c w' ρ5 S5 => rw [e4] at q3; exact q3
        | bad => rw [e4] at q3; exact q3
end
end G

set_option maxRecDepth 100000
set_option maxHeartbeats 4000000
namespace G
open PySem PySem.Spec PyProof.Rows L2
/-! # what is walked -/
def wkT (xs : List D) : Wk := ⟨xs.length, fun _ i => xs[i]?, fun _ => true⟩
def wkL (l n : Nat) : Wk := ⟨n, fun S i => match S[l]? with
  | some (.lst ys) => if ys.length = n then ys[i]? else none
  | _ => none, fun S => match S[l]? with
  | some (.lst ys) => decide (ys.length = n)
  | _ => false⟩
def wkR (l n : Nat) : Wk := ⟨n, fun S i => match S[l]? with
  | some (.ro ys) => if ys.length = n then ys[i]? else none
  | _ => none, fun S => match S[l]? with
  | some (.ro ys) => decide (ys.length = n)
  | _ => false⟩
def wkN (lo : Int) (n : Nat) : Wk := ⟨n, fun _ i => some (.int (lo + i)), fun _ => true⟩
/-- the items with their places -/
def wkE (w : Wk) : Wk := ⟨w.n, fun S i => (w.get S i).map fun d => .tup [.int (i : Nat), d], w.fin⟩
def wkOf (d : D) (S : Store) : Option Wk := match d with
  | .tup xs => some (wkT xs)
  | .loc l => match S[l]? with
    | some (.lst xs) => some (wkL l xs.length)
    | some (.ro xs) => some (wkR l xs.length)
    | _ => none
  | _ => none
def ofW : Option Wk → Store → R Wk
  | some w, S => .ok w S
  | none, _ => .bad
def wSeq (f : F) : Env → Store → R Wk := fun ρ S => (f ρ S).bind fun d S1 => ofW (wkOf d S1) S1
def wEnum (f : FL) : Env → Store → R Wk := fun ρ S => (f ρ S).bind fun ds S1 => match ds with
  | [d] => ofW ((wkOf d S1).map wkE) S1
  | _ => .bad
def wR1 (f : FL) : Env → Store → R Wk := fun ρ S => (f ρ S).bind fun ds S1 => match ds with
  | [.int j] => if -(2 ^ 62) ≤ j ∧ j < 2 ^ 62 then .ok (wkN 0 j.toNat) S1 else .bad
  | _ => .bad
def wR2 (f : FL) : Env → Store → R Wk := fun ρ S => (f ρ S).bind fun ds S1 => match ds with
  | [.int i, .int j] => if (-(2 ^ 62) ≤ i ∧ i < 2 ^ 62) ∧ -(2 ^ 62) ≤ j ∧ j < 2 ^ 62 then .ok (wkN i (j - i).toNat) S1 else .bad
  | _ => .bad
section
variable {K : PySem.W.Frag} {T : Tz} {m : Nat → Addr} {S : Store} {H : Hp}
theorem RepL.get_none {n : Nat} {ds : List D} {vs : List V} {i : Nat} (r : RepL K m n H ds vs) (e : ds[i]? = none) : vs[i]? = none := by
  have h := r.len
  rw [List.getElem?_eq_none_iff] at e ⊢
  omega
theorem wkT_ok (sm : Sim K T m S H) {a : Addr} {vs : List V} {xs : List D} (q : TupH K H a vs) (r : RepL K m S.length H xs vs) : WkOk K T m S.length H (wkT xs) (Itt K a) where
  stop := fun m1 S1 H1 nx sm1 _ => ⟨vs, tsq (nx.sqT sm q), by have := r.len; simp [wkT]; omega⟩
  go := fun m1 S1 H1 i d nx sm1 hi hg => by
    have q1 := tsq (nx.sqT sm q)
    obtain ⟨v, hv, rv⟩ := (r.mv (nx.mv sm)).get (show xs[i]? = some d from hg)
    refine ⟨⟨vs, v, q1, hv⟩, fun x H2 y => ?_⟩
    obtain ⟨rfl, y⟩ := y
    have e := y vs q1
    rw [hv] at e
    cases e
    exact ⟨Nx.refl, sm1, rv⟩
theorem wkL_ok {l : Nat} {n : Nat} (hl : l < S.length) : WkOk K T m S.length H (wkL l n) (Itl K (m l)) where
  stop := fun m1 S1 H1 nx sm1 hf => by
    have hf' : (match S1[l]? with | some (.lst ys) => decide (ys.length = n) | _ => false) = true := hf
    split at hf'
    · rename_i ys e
      obtain ⟨vs, ev, rr⟩ := sm1.cell l _ e
      refine ⟨vs, by rw [← nx.eq l hl]; exact .inl (.inl ev), ?_⟩
      have := rr.len
      have := of_decide_eq_true hf'
      simp [wkL]; omega
    · cases hf'
  go := fun m1 S1 H1 i d nx sm1 hi hg => by
    have hg' : (match S1[l]? with | some (.lst ys) => if ys.length = n then ys[i]? else none | _ => none) = some d := hg
    split at hg'
    · rename_i ys e
      obtain ⟨vs, ev, rr⟩ := sm1.cell l _ e
      rw [nx.eq l hl] at ev
      split at hg'
      · obtain ⟨v, hv, rv⟩ := rr.get hg'
        refine ⟨⟨vs, v, .inl (.inl ev), hv⟩, fun x H2 y => ?_⟩
        obtain ⟨rfl, y⟩ := y
        have e := y vs (.inl (.inl ev))
        rw [hv] at e
        cases e
        exact ⟨Nx.refl, sm1, rv⟩
      · cases hg'
    · cases hg'
theorem wkR_ok {l : Nat} {n : Nat} (hl : l < S.length) : WkOk K T m S.length H (wkR l n) (Itl K (m l)) where
  stop := fun m1 S1 H1 nx sm1 hf => by
    have hf' : (match S1[l]? with | some (.ro ys) => decide (ys.length = n) | _ => false) = true := hf
    split at hf'
    · rename_i ys e
      obtain ⟨vs, o, ev, rr⟩ := sm1.cell l _ e
      refine ⟨vs, by rw [← nx.eq l hl]; exact .inl (.inr ⟨o, ev⟩), ?_⟩
      have := rr.len
      have := of_decide_eq_true hf'
      simp [wkR]; omega
    · cases hf'
  go := fun m1 S1 H1 i d nx sm1 hi hg => by
    have hg' : (match S1[l]? with | some (.ro ys) => if ys.length = n then ys[i]? else none | _ => none) = some d := hg
    split at hg'
    · rename_i ys e
      obtain ⟨vs, o, ev, rr⟩ := sm1.cell l _ e
      rw [nx.eq l hl] at ev
      split at hg'
      · obtain ⟨v, hv, rv⟩ := rr.get hg'
        refine ⟨⟨vs, v, .inl (.inr ⟨o, ev⟩), hv⟩, fun x H2 y => ?_⟩
        obtain ⟨rfl, y⟩ := y
        have e := y vs (.inl (.inr ⟨o, ev⟩))
        rw [hv] at e
        cases e
        exact ⟨Nx.refl, sm1, rv⟩
      · cases hg'
    · cases hg'
theorem wkN_ok {lo : Int} {n : Nat} : WkOk K T m S.length H (wkN lo n) (Itr lo n) where
  stop := fun m1 S1 H1 nx sm1 _ => Nat.le_refl _
  go := fun m1 S1 H1 i d nx sm1 hi hg => by
    have e : D.int (lo + i) = d := Option.some.inj hg
    subst e
    refine ⟨hi, fun x H2 y => ?_⟩
    obtain ⟨rfl, rfl⟩ := y
    exact ⟨Nx.refl, sm1, Rep.int⟩
/-- a walk in new pairs -/
theorem pair_ok (sm : Sim K T m S H) {p : Addr} (hp : H p = none) {i : Nat} {d : D} {v : V} (r : Rep K m S.length H d v) :
    Nx m S.length H m S.length (upd H p (.tup [.int (i : Nat), v])) ∧ Sim K T m S (upd H p (.tup [.int (i : Nat), v])) ∧ Rep K m S.length (upd H p (.tup [.int (i : Nat), v])) (.tup [.int (i : Nat), d]) (.ref p) :=
  ⟨nx_aside hp, sm.aside hp, Rep.tup upd_same (RepL.cons Rep.int (RepL.cons (r.mv (mv_fresh hp)) RepL.nil))⟩
end
section
variable {X : Cx} {T : Tz} {ca : Nat → Addr} {W : WX} {tg : Expr}
theorem pi_imp {e : Expr} {t t' : TI} (h : PI X tg e t) (q : ∀ σ H R, t' σ H R → t σ H R) : PI X tg e t' := ⟨fun pins s σ H R I z => h.run pins s σ H R I (q σ H R z)⟩
theorem pi_or {e : Expr} {t t' u : TI} (h : PI X tg e t) (h' : PI X tg e t') (q : ∀ σ H R, u σ H R → t σ H R ∨ t' σ H R) : PI X tg e u :=
  ⟨fun pins s σ H R I z => (q σ H R z).elim (h.run pins s σ H R I) (h'.run pins s σ H R I)⟩
theorem wkOf_cases {d : D} {S : Store} {w : Wk} (h : wkOf d S = some w) : (∃ xs, d = .tup xs ∧ w = wkT xs) ∨ (∃ l xs, d = .loc l ∧ S[l]? = some (.lst xs) ∧ w = wkL l xs.length) ∨ ∃ l xs, d = .loc l ∧ S[l]? = some (.ro xs) ∧ w = wkR l xs.length := by
  cases d with
  | tup xs => exact .inl ⟨xs, rfl, (Option.some.inj h).symm⟩
  | loc l =>
    simp only [wkOf] at h
    split at h
    · rename_i xs e; exact .inr (.inl ⟨l, xs, rfl, e, (Option.some.inj h).symm⟩)
    · rename_i xs e; exact .inr (.inr ⟨l, xs, rfl, e, (Option.some.inj h).symm⟩)
    · cases h
  | _ => cases h
theorem vi_seq {e : Expr} {f : F} (h : VE X T ca W e f) : VI X T ca W tg e (wSeq f) :=
  pi_or (pi_list h) (pi_tup h) fun σ H R' ⟨m, ρ, S, sm, en, p⟩ => by
    have p0 : Post X.K T ca W ((f ρ S).bind fun d S1 => ofW (wkOf d S1) S1) m S H σ (WkOk X.K T) R' := p
    cases ef : f ρ S with
    | bad => rw [ef] at p0; exact p0.elim
    | exc c w S1 => rw [ef] at p0; exact .inl ⟨m, ρ, S, sm, en, by rw [ef]; exact p0⟩
    | ok d S1 =>
      rw [ef, R.bind_ok] at p0
      cases ew : wkOf d S1 with
      | none => rw [ew] at p0; exact p0.elim
      | some w =>
        rw [ew] at p0
        rcases wkOf_cases ew with ⟨xs, rfl, rfl⟩ | ⟨l, xs, rfl, e1, rfl⟩ | ⟨l, xs, rfl, e1, rfl⟩
        · refine .inr ⟨m, ρ, S, sm, en, ?_⟩
          rw [ef]
          intro m1 H1 v nx sm1 rr
          obtain ⟨a, vs, rfl, q, r⟩ := rr.tup_inv
          exact ⟨a, rfl, ⟨vs, tsq q⟩, p0 m1 H1 _ nx sm1 (wkT_ok sm1 q r)⟩
        · refine .inl ⟨m, ρ, S, sm, en, ?_⟩
          rw [ef]
          intro m1 H1 v nx sm1 rr
          obtain ⟨hl, rfl⟩ := rr.loc_inv
          obtain ⟨vs, ev, r⟩ := sm1.cell l _ e1
          exact ⟨_, rfl, ⟨vs, .inl (.inl ev)⟩, p0 m1 H1 _ nx sm1 (wkL_ok hl)⟩
        · refine .inl ⟨m, ρ, S, sm, en, ?_⟩
          rw [ef]
          intro m1 H1 v nx sm1 rr
          obtain ⟨hl, rfl⟩ := rr.loc_inv
          obtain ⟨vs, o, ev, r⟩ := sm1.cell l _ e1
          exact ⟨_, rfl, ⟨vs, .inl (.inr ⟨o, ev⟩)⟩, p0 m1 H1 _ nx sm1 (wkR_ok hl)⟩
theorem vi_range1 {a : Expr} {f : FL} {p pos : Pos} (hg : Gl X "range") (hm : X.mg "range" = none) (ha : VA X T ca W [a] f) (hs : starEach [a] X.env = [(false, eval a X.env)]) : VI X T ca W tg (.Call (.Name "range" p) [a] [] pos) (wR1 f) :=
  pi_imp (pi_range1 hg hm ha hs) fun σ H R' ⟨m, ρ, S, sm, en, p⟩ => by
    refine tA_mono (tA_bind sm en p) fun xs H1 ⟨m1, S1, ds, nx, sm1, en1, r, q⟩ => ?_
    split at q
    · rename_i ds j
      obtain ⟨v, vs, rfl, r1, r⟩ := r.cons_inv
      obtain rfl := r.nil_inv
      obtain rfl := r1.int_inv
      split at q
      · rename_i hj
        exact ⟨j, rfl, hj.1, hj.2, Post.here q sm1 wkN_ok⟩
      · exact q.elim
    · exact q.elim
theorem vi_range2 {a b : Expr} {f : FL} {p pos : Pos} (hg : Gl X "range") (hm : X.mg "range" = none) (ha : VA X T ca W [a, b] f) (hs : starEach [a, b] X.env = [(false, eval a X.env), (false, eval b X.env)]) (hs2 : starEach [b] X.env = [(false, eval b X.env)]) :
    VI X T ca W tg (.Call (.Name "range" p) [a, b] [] pos) (wR2 f) :=
  pi_imp (pi_range2 hg hm ha hs hs2) fun σ H R' ⟨m, ρ, S, sm, en, p⟩ => by
    refine tA_mono (tA_bind sm en p) fun xs H1 ⟨m1, S1, ds, nx, sm1, en1, r, q⟩ => ?_
    split at q
    · rename_i ds i j
      obtain ⟨v, vs, rfl, r1, r⟩ := r.cons_inv
      obtain ⟨v2, vs2, rfl, r2, r⟩ := r.cons_inv
      obtain rfl := r.nil_inv
      obtain rfl := r1.int_inv
      obtain rfl := r2.int_inv
      split at q
      · rename_i hj
        exact ⟨i, j, rfl, ⟨hj.1.1, hj.1.2, hj.2.1, hj.2.2⟩, Post.here q sm1 wkN_ok⟩
      · exact q.elim
    · exact q.elim
end
/-! ### enumerate of a tuple -/
theorem new_enumT (l : Addr) (items : Array Value) (n : Nat) (dct : Option Addr) (sl : Array (Option Value)) :
    Meets (Builtin.«enumerate.__new__» ⟨[.type "enumerate", .ref l], []⟩) (fun _ R s => s.heap.get? l = some { cls := .type "tuple", dict := dct, data := .seq items n, slots := sl } ∧
      R (.ok (.ret (.ref (s.heap.push { cls := .type "tuple_iterator", data := .fields #[.ref l, .int 0 0] }).objs.size)))
        { s with heap := (s.heap.push { cls := .type "tuple_iterator", data := .fields #[.ref l, .int 0 0] }).push { cls := .type "enumerate", data := .fields #[.none, .bool false, .ref s.heap.objs.size, rawInt 0, .none, .none] } }) :=
  .of_wp fun prog w A R s h => by
    obtain ⟨hp, g, d, tk, os⟩ := s
    obtain ⟨hl, h⟩ := h
    have hsub := sub_enumerate
    have hT : Heap.IsTuple (Shared.heap ⟨hp, g, d, tk, os⟩) l items := ⟨_, hl, rfl, n, rfl⟩
    wp_walk using AutoSeq1.wpAny_loadPart' hl
    refine wpAny_stack_any fun st => wpAny_pure ?_
    split
    · rename_i c _ _ _ _ _
      cases (c == Value.type "enumerate")
      all_goals (wp_walk using AutoSeq1.wpAny_loadPart' hl, wpAny_pyIter_tuple hT; exact ⟨_, rfl, h⟩)
    · wp_walk using AutoSeq1.wpAny_loadPart' hl, wpAny_pyIter_tuple hT
      exact ⟨_, rfl, h⟩
end G

set_option maxRecDepth 100000
set_option maxHeartbeats 4000000
namespace G
open PySem PySem.Spec PyProof.Rows L2
section
variable {prog : Program} {w : World} {A : Around} {E : Value → Shared → Prop} {s : Shared}
theorem call_enumT {l : Addr} {items : Array Value} {Q : Value → Shared → Prop} (hL : s.heap.IsTuple l items)
    (h : ∀ g, IsEnum g (s.heap.objs.size + 1) s.heap.objs.size 0 .none → g.IsTupleIter s.heap.objs.size l 0 → g.objs.size = s.heap.objs.size + 2 →
      (∀ b o, s.heap.get? b = some o → g.get? b = some o) → Q (.ref (s.heap.objs.size + 1)) { s with heap := g }) :
    wpAny (model prog w) A (call (.type "enumerate") [.ref l]) Q E s := by
  obtain ⟨⟨c, dct, dt, sl⟩, hl, hc, n, hd⟩ := hL
  obtain rfl : c = .type "tuple" := hc
  obtain rfl : dt = .seq items n := hd
  refine callType_new F.called_enumerate (by decide) (F.typeCall_enumerate_1 _) (F.newCall_enumerate_1 _) (fun obj => F.args_object_init_2 obj _) F.entry_enumerate_new
    (new_enumT l items n dct sl) ⟨hl, ?_⟩
  have sz : (s.heap.push { cls := .type "tuple_iterator", data := .fields #[.ref l, .int 0 0] }).objs.size = s.heap.objs.size + 1 := Heap.size_push ..
  show _ ∧ _
  rw [sz]
  have isE : IsEnum ((s.heap.push { cls := .type "tuple_iterator", data := .fields #[.ref l, .int 0 0] }).push
      { cls := .type "enumerate", data := .fields #[.none, .bool false, .ref s.heap.objs.size, rawInt 0, .none, .none] }) (s.heap.objs.size + 1) s.heap.objs.size 0 .none := by
    have q := Heap.get?_push_size (s.heap.push { cls := .type "tuple_iterator", data := .fields #[.ref l, .int 0 0] })
      (o := { cls := .type "enumerate", data := .fields #[.none, .bool false, .ref s.heap.objs.size, rawInt 0, .none, .none] }) rfl
    rwa [sz] at q
  exact ⟨⟨_, isE, rfl⟩, h _ isE ⟨_, Heap.get?_push_of_some _ (Heap.get?_push_size _ rfl), rfl, rfl⟩ (by rw [Heap.size_push, sz]) fun b o x => Heap.get?_push_of_some _ (Heap.get?_push_of_some _ x)⟩
end
def Itet (K : PySem.W.Frag) (a : Addr) : It :=
  ⟨fun i H => ∃ (xs : List V) (x : V), SqT K H a xs ∧ xs[i]? = some x, fun i H v H' => ∃ N x, v = .ref N ∧ H N = none ∧ H' = upd H N (.tup [.int (i : Nat), x]) ∧ ∀ xs, SqT K H a xs → xs[i]? = some x, fun i H => ∃ xs : List V, SqT K H a xs ∧ xs.length = i⟩
theorem turn_enumT {P : Program} {w : World} {K : PySem.W.Frag} {elts : List Expr} {kk : Nat} {tpos : Pos} (a e it : Addr) :
    Turn P w K (.Tuple elts kk tpos) (Itet K a) [e, it] e (fun i h => (∃ old, IsEnum h e it ((i : Nat) : Int) old) ∧ h.IsTupleIter it a i ∧ e ≠ it ∧ a ≠ e ∧ a ≠ it) where
  mem := by simp
  obj := fun i h st b hb => by
    obtain ⟨⟨old, he⟩, ⟨o, ho, hc, hd⟩, _⟩ := st
    rcases (show b = e ∨ b = it by simpa using hb) with z | z
    · rw [z]; exact ⟨_, he, fun v q => nomatch q⟩
    · rw [z]; exact ⟨o, ho, fun v q => by rw [hd] at q; cases q⟩
  keep := fun i h h' st k => let ⟨⟨old, he⟩, hi, hne⟩ := st; ⟨⟨old, k e (by simp) _ he⟩, hi.at fun o q => k it (by simp) o q, hne⟩
  item := by
    intro X hP hw hK hc i pins s σ H E I hf st hg
    subst hP hw hK
    obtain ⟨⟨old, he⟩, hit, hne, hae, hai⟩ := st
    obtain ⟨xs, x, hq, hx⟩ := hg
    obtain ⟨its, rv, p, hz⟩ := I.tuple hq
    obtain ⟨u, hu, ru⟩ := rv.get hx
    have hel : e < s.heap.objs.size := Heap.lt_size he
    have hil : it < s.heap.objs.size := by obtain ⟨_, q, _⟩ := hit; exact Heap.lt_size q
    have isT : s.heap.IsTuple a its.toArray := p
    have Dr := Draws.tuple (prog := X.prog) (w := X.w) (A := X.A.in1) (I.ok.hd hc) it a hai its.toArray
    have hlt : i < its.toArray.size := by
      have := rv.length
      obtain ⟨h1, _⟩ := List.getElem?_eq_some_iff.mp hx
      simp; omega
    refine wpAny_pyNext_enum_itemD Dr he ⟨hit, isT⟩ hlt hne (by simp [hne, Ne.symm hae]) fun u' h' tk hu' ho st' hT hsz hk => ?_
    obtain rfl : u' = u := by
      have e1 : its.toArray[i]? = some u' := hu'
      simp only [List.getElem?_toArray] at e1
      rw [hu] at e1; exact (Option.some.inj e1).symm
    refine ⟨_, rfl, wpAny_letOwnedTupleGo_enum (s := { s with heap := h', toks := tk + 1 }) ho fun h2 he' sb => ?_⟩
    have hT2 : h2.get? s.heap.objs.size = some { cls := .type "tuple", data := .seq #[.int i tk, u'] } := (sb.2 _ (Nat.ne_of_gt hel)).trans hT
    have new : ObjOk X.prog X.w (upd H s.heap.objs.size (.tup [.int (i : Nat), x])) h2 s.heap.objs.size (.tup [.int (i : Nat), x]) :=
      ⟨by show 2 ≤ sizeLine; decide, [.int i tk, u'], .cons ⟨_, rfl⟩ (.cons ru .nil), ⟨_, hT2, rfl, _, rfl⟩⟩
    have J : Inv X pins σ (upd H s.heap.objs.size (.tup [.int (i : Nat), x])) { s with heap := h2, toks := tk + 1 } :=
      I.turnedNew (ch := [e, it]) (fun b ob hb q => (sb.2 b (fun z => hb (by simp [z]))).trans (hk b ob (fun z => hb (by simp [z])) (fun z => hb (by simp [z])) q)) hf (Nat.le_refl _) new
    refine ⟨.ref s.heap.objs.size, _, J, rfl, ⟨_, x, rfl, I.hok.fresh (Nat.le_refl _), rfl, fun ys hy => by rw [I.tuple_inj hy hq]; exact hx⟩, ⟨⟨u', ?_⟩, st'.1.at fun o q => (sb.2 it (Ne.symm hne)).trans q, hne, hae, hai⟩, fun b hb => ?_⟩
    · have e1 : ((i + 1 : Nat) : Int) = (i : Int) + 1 := by omega
      rw [e1]; exact he'
    · have hb' : b < s.heap.objs.size := by
        rcases (show b = e ∨ b = it by simpa using hb) with z | z
        · rw [z]; exact hel
        · rw [z]; exact hil
      rw [upd_ne (Nat.ne_of_lt hb')]
      exact (hf b hb).1
  done := by
    intro X hP hw hK hc i pins s σ H E I hf st hg
    subst hP hw hK
    obtain ⟨⟨old, he⟩, hit, hne, hae, hai⟩ := st
    obtain ⟨xs, hq, hx⟩ := hg
    obtain ⟨its, rv, p, hz⟩ := I.tuple hq
    obtain ⟨f0, f1, f2, f3, f4, f5⟩ := hf it (by simp)
    have hl := rv.length
    have isT : s.heap.IsTuple a its.toArray := p
    have Dr := Draws.tuple (prog := X.prog) (w := X.w) (A := X.A.in1) (I.ok.hd hc) it a hai its.toArray
    have e1 : i = its.toArray.size := by simp; omega
    subst e1
    exact wpAny_pyNext_enum_endD Dr he ⟨hit, isT⟩ fun h' eb => ⟨rfl, I.turned (t' := s.toks) (fun b o hb q => eb b o hb q) f0 f1 f3 f4 f5⟩
  self := fun A i s Q E st h => let ⟨⟨_, he⟩, _⟩ := st; wpAny_pyIter_enum he h
theorem pi_enumT {X : Cx} {e : Expr} {ta : TA} {p pos tpos : Pos} {elts : List Expr} {kk : Nat} (hg : Gl X "enumerate") (hm : X.mg "enumerate" = none) (ha : PA X [e] ta) (hs : starEach [e] X.env = [(false, eval e X.env)]) :
    PI X (.Tuple elts kk tpos) (.Call (.Name "enumerate" p) [e] [] pos) (fun σ H R' => ta σ H fun vs H1 => ∃ a xs, vs = [.ref a] ∧ SqT X.K H1 a xs ∧ R' (Itet X.K a) H1) := by
  refine ⟨fun pins s σ H R' I h => ?_⟩
  refine Call_ (ld_blt I hg hm boot_enumerate (PyProof.Rows.callWith_type1 (thn (ha.run pos pins s σ H _ I h) fun us s1 ⟨vs, H1, I1, r1, q1⟩ => ?_) hs rfl))
  obtain ⟨a, xs, rfl, hq, q⟩ := q1
  cases r1 with
  | cons r rr =>
    cases rr
    cases r
    obtain ⟨its, rv, p', hz⟩ := I1.tuple hq
    have isT : s1.heap.IsTuple a its.toArray := p'
    have hal : a < s1.heap.objs.size := by obtain ⟨o, ho, _⟩ := id isT; exact Heap.lt_size ho
    refine call_enumT isT fun g he hit hsz hk => wpAny_pyIter_enum he ?_
    have J : Inv X pins σ H1 { s1 with heap := g } := I1.kept (t' := s1.toks) hk
    refine ⟨s1.heap.objs.size + 1, [s1.heap.objs.size + 1, s1.heap.objs.size], _, _, H1, rfl, J, turn_enumT a (s1.heap.objs.size + 1) s1.heap.objs.size, ⟨⟨.none, he⟩, hit, Nat.succ_ne_self _, Nat.ne_of_lt (Nat.lt_succ_of_lt hal), Nat.ne_of_lt hal⟩, fun b hb => ?_, q⟩
    have hle : s1.heap.objs.size ≤ b := by
      rcases (show b = s1.heap.objs.size + 1 ∨ b = s1.heap.objs.size by simpa using hb) with z | z
      · rw [z]; exact Nat.le_add_right _ _
      · rw [z]; exact Nat.le_refl _
    exact I1.fpOk hle (I1.hok.fresh hle)
section
variable {K : PySem.W.Frag} {T : Tz} {m : Nat → Addr} {S : Store} {H : Hp}
theorem wkE_ok {w : Wk} {J J' : It} (ok : WkOk K T m S.length H w J) (hst : ∀ (m1 : Nat → Addr) (S1 : Store) (H1 : Hp), Nx m S.length H m1 S1.length H1 → J.stop w.n H1 → J'.stop w.n H1)
    (hgo : ∀ i H1, J.go i H1 → J'.go i H1) (hy : ∀ i H1 x H2, J.go i H1 → J'.yld i H1 x H2 → ∃ p v, x = .ref p ∧ H1 p = none ∧ H2 = upd H1 p (.tup [.int (i : Nat), v]) ∧ J.yld i H1 v H1) : WkOk K T m S.length H (wkE w) J' where
  stop := fun m1 S1 H1 nx sm1 hf => hst m1 S1 H1 nx (ok.stop m1 S1 H1 nx sm1 hf)
  go := fun m1 S1 H1 i d nx sm1 hi hg => by
    have hg' : (w.get S1 i).map (fun d => D.tup [.int (i : Nat), d]) = some d := hg
    cases e : w.get S1 i with
    | none => rw [e] at hg'; cases hg'
    | some d0 =>
      rw [e] at hg'
      have e2 : D.tup [.int (i : Nat), d0] = d := Option.some.inj hg'
      subst e2
      obtain ⟨g1, g2⟩ := ok.go m1 S1 H1 i d0 nx sm1 hi e
      refine ⟨hgo i H1 g1, fun x H2 y => ?_⟩
      obtain ⟨p, v, rfl, hp, rfl, y2⟩ := hy i H1 x H2 g1 y
      obtain ⟨_, _, r⟩ := g2 v H1 y2
      exact pair_ok sm1 hp r
end
section
variable {X : Cx} {T : Tz} {ca : Nat → Addr} {W : WX}
theorem vi_enum {e : Expr} {f : FL} {p pos tpos : Pos} {elts : List Expr} {kk : Nat} (hg : Gl X "enumerate") (hm : X.mg "enumerate" = none) (ha : VA X T ca W [e] f) (hs : starEach [e] X.env = [(false, eval e X.env)]) :
    VI X T ca W (.Tuple elts kk tpos) (.Call (.Name "enumerate" p) [e] [] pos) (wEnum f) :=
  pi_or (pi_enum hg hm ha hs) (pi_enumT hg hm ha hs) fun σ H R' ⟨m, ρ, S, sm, en, p⟩ => by
    have p0 : Post X.K T ca W ((f ρ S).bind fun ds S1 => match ds with | [d] => ofW ((wkOf d S1).map wkE) S1 | _ => .bad) m S H σ (WkOk X.K T) R' := p
    cases ef : f ρ S with
    | bad => rw [ef] at p0; exact p0.elim
    | exc c w S1 => rw [ef] at p0; exact .inl ⟨m, ρ, S, sm, en, by rw [ef]; exact p0⟩
    | ok ds S1 =>
      rw [ef, R.bind_ok] at p0
      match ds, p0, ef with
      | [], p0, _ => exact p0.elim
      | _ :: _ :: _, p0, _ => exact p0.elim
      | [d], p0, ef =>
        dsimp only at p0
        cases ew : wkOf d S1 with
        | none => rw [ew] at p0; exact p0.elim
        | some w =>
          rw [ew] at p0
          have p1 : Post X.K T ca W (.ok (wkE w) S1) m S H σ (WkOk X.K T) R' := p0
          rcases wkOf_cases ew with ⟨xs, rfl, rfl⟩ | ⟨l, xs, rfl, e1, rfl⟩ | ⟨l, xs, rfl, e1, rfl⟩
          · refine .inr ⟨m, ρ, S, sm, en, ?_⟩
            rw [ef]
            intro m1 H1 vs nx sm1 rr
            obtain ⟨v, vs', rfl, r1, rr⟩ := rr.cons_inv
            obtain rfl := rr.nil_inv
            obtain ⟨a, vs, rfl, q, r⟩ := r1.tup_inv
            refine ⟨a, vs, rfl, tsq q, p1 m1 H1 _ nx sm1 (wkE_ok (wkT_ok sm1 q r) (fun m2 S2 H2 nx2 h => ?_) (fun i H1 h => h) fun i H1 x H2 hg2 y => ?_)⟩
            · exact ⟨vs, tsq (nx2.sqT sm1 q), r.len⟩
            · obtain ⟨N, x', rfl, hn, rfl, y⟩ := y
              exact ⟨N, x', rfl, hn, rfl, rfl, y⟩
          · refine .inl ⟨m, ρ, S, sm, en, ?_⟩
            rw [ef]
            intro m1 H1 vs nx sm1 rr
            obtain ⟨v, vs', rfl, r1, rr⟩ := rr.cons_inv
            obtain rfl := rr.nil_inv
            obtain ⟨hl, rfl⟩ := r1.loc_inv
            obtain ⟨vs, ev, r⟩ := sm1.cell l _ e1
            refine ⟨_, vs, rfl, .inl (.inl ev), p1 m1 H1 _ nx sm1 (wkE_ok (wkL_ok hl) (fun _ _ H1 _ h => h) (fun i H1 h => h) fun i H1 x H2 hg2 y => ?_)⟩
            obtain ⟨N, x', rfl, hn, rfl, y⟩ := y
            exact ⟨N, x', rfl, hn, rfl, rfl, y⟩
          · refine .inl ⟨m, ρ, S, sm, en, ?_⟩
            rw [ef]
            intro m1 H1 vs nx sm1 rr
            obtain ⟨v, vs', rfl, r1, rr⟩ := rr.cons_inv
            obtain rfl := rr.nil_inv
            obtain ⟨hl, rfl⟩ := r1.loc_inv
            obtain ⟨vs, o, ev, r⟩ := sm1.cell l _ e1
            refine ⟨_, vs, rfl, .inl (.inr ⟨o, ev⟩), p1 m1 H1 _ nx sm1 (wkE_ok (wkR_ok hl) (fun _ _ H1 _ h => h) (fun i H1 h => h) fun i H1 x H2 hg2 y => ?_)⟩
            obtain ⟨N, x', rfl, hn, rfl, y⟩ := y
            exact ⟨N, x', rfl, hn, rfl, rfl, y⟩
end
end G

set_option maxRecDepth 100000
set_option maxHeartbeats 4000000
namespace G
open PySem PySem.Spec PyProof.Rows L2
/-! # calls of defs, exceptions -/
/-- what a def does: with its arguments in a store -/
abbrev Run := List D → Store → R D
/-- its promise -/
def spG (K : PySem.W.Frag) (T : Tz) (ca : Nat → Addr) (n : Nat) (run : Run) : Sp := fun vs H Q E => ∃ m S ds, Sim K T m S H ∧ RepL K m S.length H ds vs ∧ ds.length = n ∧ Post K T ca (fun cls d _ H' => E cls d H') (run ds S) m S H [] (Rep K) Q
theorem spG_len {K : PySem.W.Frag} {T : Tz} {ca : Nat → Addr} {n : Nat} {run : Run} {vs : List V} {H : Hp} {Q : VK} {E : XK} (h : spG K T ca n run vs H Q E) : vs.length = n := by
  obtain ⟨m, S, ds, sm, r, hl, _⟩ := h
  rw [r.len, hl]
def fRun (n : Nat) (run : Run) (fl : FL) : F := fun ρ S => (fl ρ S).bind fun ds S1 => if ds.length = n then run ds S1 else .bad
section
variable {X : Cx} {T : Tz} {ca : Nat → Addr} {W : WX}
theorem ve_call {k n : Nat} {f : Addr} {fd : FuncData} {ps : List PySem.Str} {run : Run} {x : PySem.Str} {p pos : Pos} {e : Expr} {es : List Expr} {fl : FL}
    (F0 : FnOk X.prog X.w X.K X.mg X.base (L2N.CX X.prog X.w) k f fd ps (spG X.K T ca n run)) (hr : Room k X.A) (hg : Gl X x) (hm : X.mg x = some (.ref f)) (hk : PySem.W.keepIn X.K (.ref f) = true) (hb : Binds X.K fd ps []) (tk : L2N.Takes X W)
    (ha : VA X T ca W (e :: es) fl) (hdb : (x == ("__debug__" : PySem.Str)) = false) (he : starEach (e :: es) X.env = (false, eval e X.env) :: starEach es X.env) (hpl : (backTo pos (starEach es X.env)).any (·.1) = false) :
    VE X T ca W (.Call (.Name x p) (e :: es) [] pos) (fRun n run fl) :=
  pe_imp (pe_callS F0 hr hg hm hk hb (fun σ => L2N.passAt tk σ) ha hdb he hpl) fun σ H Q ⟨m, ρ, S, sm, en, p⟩ => by
    refine tA_mono (tA_bind sm en p) fun xs H1 ⟨m1, S1, ds, nx, sm1, en1, r, q⟩ => ?_
    by_cases hl : ds.length = n
    · rw [if_pos hl] at q
      refine ⟨m1, S1, ds, sm1, r, hl, ?_⟩
      cases e2 : run ds S1 with
      | ok a S2 => rw [e2] at q; exact q
      | exc c w S2 => rw [e2] at q; exact q
      | bad => rw [e2] at q; exact q
    · rw [if_neg hl] at q; exact q.elim
/-- f() -/
theorem ve_call0 {k : Nat} {f : Addr} {fd : FuncData} {ps : List PySem.Str} {run : Run} {x : PySem.Str} {p pos : Pos}
    (F0 : FnOk X.prog X.w X.K X.mg X.base (L2N.CX X.prog X.w) k f fd ps (spG X.K T ca 0 run)) (hr : Room k X.A) (hg : Gl X x) (hm : X.mg x = some (.ref f)) (hk : PySem.W.keepIn X.K (.ref f) = true) (hb : Binds X.K fd ps []) (tk : L2N.Takes X W)
    (hdb : (x == ("__debug__" : PySem.Str)) = false) :
    VE X T ca W (.Call (.Name x p) [] [] pos) (fRun 0 run fNil) := by
  refine ⟨fun pins s σ H Q I h => ?_⟩
  obtain ⟨m, ρ, S, sm, en, q⟩ := h
  refine wpAny_Call_Name_kw (ld_glob I hg hm ?_ hdb)
  refine PySem.W.callWith_K0 I.kIn hk (run_fnS (us := []) F0 hr hb (L2N.passAt tk σ) I .nil ⟨m, S, [], sm, RepL.nil, rfl, ?_⟩)
  have q' : Post X.K T ca W (run [] S) m S H σ (Rep X.K) Q := q
  cases e2 : run [] S with
  | ok a S2 => rw [e2] at q'; exact q'
  | exc c w S2 => rw [e2] at q'; exact q'
  | bad => rw [e2] at q'; exact q'
end
/-! ### exceptions that keep what they are made of -/
/-- the promise of the classes' __init__(self, what) -/
def spIni (K : PySem.W.Frag) : Sp := fun vs H Q _ => ∃ (a C : Addr) (v : V), vs = [.ref a, v] ∧ OexC K C ∧ PySem.W.findIn K (.ref C) "what" = some none ∧ H a = some (exo a C none) ∧
  ∀ dx, H dx = none → dx ≠ a → Q .non (upd (upd H dx (exd dx [(("what" : PySem.Str), v)])) a (exo a C (some dx)))
/-- what stands of a class of exceptions -/
structure ExT (K : PySem.W.Frag) (mg : PySem.Str → Option Value) (x : PySem.Str) (C fI : Addr) : Prop where
  gC : mg x = some (.ref C)
  oex : OexC K C
  iC : PySem.W.findIn K (.ref C) "__init__" = some (some (.ref fI))
  tI : PySem.W.typeIn K (.ref fI) = some (.type "function")
  no : PySem.W.findIn K (.ref C) "what" = some none
  exc : ExcC K C
section
variable {X : Cx} {T : Tz} {ca : Nat → Addr} {W : WX}
theorem pmkN {CX : CXT} {x : PySem.Str} {C fI : Addr} {k : Nat} {fd : FuncData} {ps : List PySem.Str} {sp : Sp} {e : Expr} {es : List Expr} {ta : TA} {p pos : Pos} (O : OexC X.K C) (iC : PySem.W.findIn X.K (.ref C) "__init__" = some (some (.ref fI))) (tI : PySem.W.typeIn X.K (.ref fI) = some (.type "function"))
    (F0 : FnOk X.prog X.w X.K X.mg X.base CX k fI fd ps sp) (hr : Room (k + 1) X.A) (hb : Binds X.K fd ps []) (hx : Passes CX X (fun _ _ _ => False)) (hg : Gl X x) (hm : X.mg x = some (.ref C)) (ha : PA X (e :: es) ta)
    (hdb : (x == ("__debug__" : PySem.Str)) = false) (he : starEach (e :: es) X.env = (false, eval e X.env) :: starEach es X.env) (hpl : (backTo pos (starEach es X.env)).any (·.1) = false) :
    L2N.PMk X (.Call (.Name x p) (e :: es) [] pos) (tMkO C sp [] ta) := by
  intro pins s σ H Q I h
  obtain ⟨nm, q, N, bs, bm, sn, sub, ab, col, dd, k0, k1, k2, k3, k5, hC, hbm⟩ := O.cls
  refine wpAny_Call_Name_kw (ld_glob I hg hm ?_ hdb)
  refine PySem.W.callWith_K (h₀ := X.base) I.ok.mod.kin O.kC (thn (ha.run pos pins s σ H _ I h) fun us s1 ⟨vs, H1, J1, r1, hz, q1⟩ => ⟨J1.kIn, ?_⟩) he hpl
  show wpAny _ _ (call (.ref C) us) _ _ _
  obtain ⟨hp, g, dr, tk, os⟩ := s1
  have le0 : hp.objs.size ≤ hp.objs.size + 1 := Nat.le_succ _
  have n0 : H1 (hp.objs.size + 1) = none := J1.hok.fresh le0
  have q2 := q1 (hp.objs.size + 1) n0
  rw [List.append_nil] at q2
  have kp : ∀ b o, hp.get? b = some o → ((hp.push (PySem.W.kdv_tup us)).push (PySem.HandSPX.excO C hp.objs.size)).get? b = some o := fun b o z => Heap.get?_push_of_some _ (Heap.get?_push_of_some _ z)
  have at0 : ((hp.push (PySem.W.kdv_tup us)).push (PySem.HandSPX.excO C hp.objs.size)).get? (hp.objs.size + 1) = some (PySem.HandSPX.excO C hp.objs.size) := by heap_get
  have J2 : Inv X pins σ (upd H1 (hp.objs.size + 1) (exo (hp.objs.size + 1) C none)) ⟨(hp.push (PySem.W.kdv_tup us)).push (PySem.HandSPX.excO C hp.objs.size), g, dr, tk, os⟩ :=
    J1.laid (t' := tk) (a := hp.objs.size + 1) (o := exo (hp.objs.size + 1) C none) kp le0 (exo_ok at0)
  have rel : Vals (V.ref (hp.objs.size + 1) :: vs) (Value.ref (hp.objs.size + 1) :: us) := .cons rfl r1
  have ln : (Value.ref (hp.objs.size + 1) :: us ++ []).length = ps.length := by
    have z := rel.length
    rw [F0.len _ _ _ _ q2] at z
    rw [List.append_nil]
    exact z.symm
  have few : us.length ≤ sizeLine := by
    rw [← Paired.length r1, sizeLine_eq]
    omega
  have bnd := hb _ (Value.ref (hp.objs.size + 1) :: us) J2.kIn ln
  rw [List.append_nil] at bnd
  refine wpAny_call (PySem.HandSPX.call_own F.excBase_ValueError (fun Y => PySem.HandSPX.refsVE_contains Y bm hbm) (J1.kIn _ _ hC) (PySem.W.looks_findIn J1.kIn iC) (fun self => PySem.W.bind_fn J1.kIn self tI) few
    (codeAny_mono (F0.run _ X.stack _ _ ⟨Value.ref (hp.objs.size + 1) :: us, []⟩ (Value.ref (hp.objs.size + 1) :: us) _ _ (fun _ _ _ => False) (hr.make C us []) (J2.env0.make C us []) bnd rel q2) fun r s' hq => ?_))
  match r, hq with
  | .error er, hq => exact hx pins σ _ _ er s' J2 hq
  | .ok .next, hq => exact False.elim hq
  | .ok .brk, hq => exact False.elim hq
  | .ok .cont, hq => exact False.elim hq
  | .ok (.ret u), hq =>
    obtain ⟨v, H2, os2, bare2, un2, hok2, rv, rfl, d, fs, ea, ed, hd1, q3⟩ := hq
    obtain ⟨h3, g3, d3, t3, os3⟩ := s'
    obtain ⟨t0, G0, J3, kG, gn, hoe, na⟩ := mk_end0 (d2 := d3) (t2 := t3) J1 le0 kp un2 hok2 os2 bare2 ea ed hd1
    exact ⟨rv, hp.objs.size + 1, _, _, ⟨G0, g3, d3, t3, os3⟩, _, .ref C, some d, rfl, J3, kG, gn, hoe, ⟨rfl, rfl, fun w hw => by cases hw; rfl⟩, rfl, rfl, na, rfl, bare2, raises_own O.exC O.tyC, q3⟩
/-- raise C(e) -/
def sRaise (c : Nat) (f : FL) : FS := fun ρ S => (f ρ S).toFl ρ fun ds S1 => match ds with
  | [w] => .exc c w ρ S1
  | _ => .bad
theorem vs_raise {c k : Nat} {x : PySem.Str} {fI : Addr} {fd : FuncData} {ps : List PySem.Str} {CX : CXT} {e : Expr} {es : List Expr} {fl : FL} {p pos pos2 : Pos} (hc : X.calm = true) (E0 : ExT X.K X.mg x (ca c) fI) (F0 : FnOk X.prog X.w X.K X.mg X.base CX k fI fd ps (spIni X.K))
    (hr : Room (k + 1) X.A) (hb : Binds X.K fd ps []) (hx : Passes CX X (fun _ _ _ => False)) (tk : L2N.Takes X W) (hg : Gl X x) (ha : VA X T ca W (e :: es) fl)
    (hdb : (x == ("__debug__" : PySem.Str)) = false) (he : starEach (e :: es) X.env = (false, eval e X.env) :: starEach es X.env) (hpl : (backTo pos (starEach es X.env)).any (·.1) = false) :
    VS X T ca W (.Raise (some (.Call (.Name x p) (e :: es) [] pos)) none pos2) (sRaise c fl) :=
  ps_imp (L2N.ps_raise hc tk (pmkN E0.oex E0.iC E0.tI F0 hr hb hx hg E0.gC ha hdb he hpl)) fun Dn σ H ⟨m, ρ, S, sm, en, p⟩ => by
    refine ⟨m, ρ, S, sm, en, (Post.ofFl sm en p).mono fun vs H1 ⟨m1, S1, ds, nx, sm1, en1, r, q⟩ => ?_⟩
    match ds, r, q with
    | [], _, q => exact q.elim
    | _ :: _ :: _, _, q => exact q.elim
    | [w], r, q =>
      obtain ⟨v, vs', rfl, rw', r⟩ := r.cons_inv
      obtain rfl := r.nil_inv
      refine ⟨by show 1 ≤ 1000; decide, fun a na => ⟨a, ca c, v, rfl, E0.oex, E0.no, upd_same, fun dx ndx ne => ⟨rfl, dx, [(("what" : PySem.Str), v)], upd_same, ?_, ?_, ?_⟩⟩⟩
      · rw [upd_ne ne, upd_same]
      · rw [upd_ne ne] at ndx; exact ndx
      · have hd : H1 dx = none := by rw [upd_ne ne] at ndx; exact ndx
        have eH : (upd (del (upd (upd (upd H1 a (exo a (ca c) none)) dx (exd dx [(("what" : PySem.Str), v)])) a (exo a (ca c) (some dx))) a) dx (.xd [(("what" : PySem.Str), v)])) = upd H1 dx (.xd [(("what" : PySem.Str), v)]) := by
          funext b
          by_cases z : b = dx
          · subst z; rw [upd_same, upd_same]
          · rw [upd_ne z, upd_ne z]
            by_cases z2 : b = a
            · subst z2; rw [del_same]; exact na.symm
            · rw [del_ne z2, upd_ne z2, upd_ne z, upd_ne z2]
        rw [eH]
        exact q m1 _ σ dx v (nx_aside hd) (sm1.aside hd) (en1.mv (mv_fresh hd)) upd_same (rw'.mv (mv_fresh hd))
end
end G

set_option maxRecDepth 100000
set_option maxHeartbeats 4000000
namespace G
open PySem PySem.Spec PyProof.Rows L2 HotX
/-! # while an exception is handled: walks' ends, pairs taken apart, a comprehension over a list -/
section
variable {prog : Program} {w : World} {A : Around} {E : Value → Shared → Prop} {s : Shared}
theorem hot_spent {x1 it : Addr} {oi : Obj} {fs : Array Value} {Q : Option Value → Shared → Prop} (hot : HotAt A x1 s.heap) (hi : s.heap.get? it = some oi) (hd : oi.data = .fields fs) (hx : x1 ≠ it) (h0 : 0 < fs.size)
    (hQ : ∀ h', Heap.ExtBut it s.heap h' → Q none { s with heap := h' }) {K1 : Fin → Shared → Prop} :
    wpAny (model prog w) A.in1 (setField (.ref it) 0 .none) (fun _ s1 => wpAny (model prog w) A.in1 Builtin.SmallTypes.stopIteration K1
      (fun e s2 => wpAny (model prog w) A (isInstance e (.type "StopIteration") >>= fun b => if b = true then pure none else throw e) Q E s2) s1)
      (fun e s2 => wpAny (model prog w) A (isInstance e (.type "StopIteration") >>= fun b => if b = true then pure none else throw e) Q E s2) s := by
  obtain ⟨hh, o1, vs1, h1, d1, c1⟩ := hot
  refine wpAny_setField hi hd (by simpa using h0) ?_
  show wpAny _ _ (newExc (.type "StopIteration") [] >>= _) _ _ _
  refine wpAny_bind ?_
  simp only [newExc, newTuple]
  refine wpAny_bind (wpAny_newObj_type ?_ (by size_fits))
  refine wpAny_bind (m := firstArgMember _ _) (wpAny_of_eq (a := Value.none) (by first | rfl | (simp only [firstArgMember]; rfl)) ?_)
  refine wpAny_newObj_type ?_ (by size_fits)
  have k1 : (s.heap.update it (Obj.mapFields (·.setIfInBounds 0 .none))).get? x1 = some o1 := by rw [Heap.get?_update_other _ _ (Ne.symm hx)]; exact h1
  refine raiseNew_hot ⟨hh, o1, vs1, Heap.get?_push_of_some _ (Heap.get?_push_of_some _ k1), d1, c1⟩ (Nat.ne_of_lt (Heap.lt_size (Heap.get?_push_of_some _ k1))) (Heap.get?_push_size _ rfl) rfl (by first | (simp; done) | (simp; omega) | (simp only [Array.size_append]; simp; omega)) ?_
  refine wpAny_bind (wpAny_isInstance (T := "StopIteration") (b := true) ⟨_, Heap.get?_update_self _ (Heap.get?_push_size _ rfl) rfl, rfl⟩ isSubtype_stop ?_)
  rw [if_pos rfl]
  refine wpAny_pure (hQ _ fun b o hb e => ?_)
  have e2 : (s.heap.update it (Obj.mapFields (·.setIfInBounds 0 .none))).get? b = some o := by rw [Heap.get?_update_other _ _ (Ne.symm hb)]; exact e
  rw [Heap.get?_update_other _ _ (Nat.ne_of_gt (Heap.lt_size (Heap.get?_push_of_some _ e2)))]
  exact Heap.get?_push_of_some _ (Heap.get?_push_of_some _ e2)
theorem hot_list_end {x1 it l : Addr} {i : Nat} {items} {Q : Option Value → Shared → Prop} (hot : HotAt A x1 s.heap) (hx : x1 ≠ it)
    (hit : s.heap.IsListIter it l i) (hl : s.heap.IsList l items) (hi : items[i]? = none) (hQ : ∀ h', Heap.ExtBut it s.heap h' → Q none { s with heap := h' }) : wpAny (model prog w) A (pyNext (.ref it)) Q E s := by
  obtain ⟨o, ho, hc, hd⟩ := id hit
  obtain ⟨ol, hol, _, nl, hdl⟩ := hl
  unfold pyNext
  refine wpAny_bind (wpAny_attempt (wpAny_callSpecial?_slot (name := PySem.Str.ofString "__next__") hit.typeIs slot_listiter_next
    (wpAny_call_entry slot_listiter_next hit.typeIs entry_listiter_next ?_ (args_listiter_next _))))
  show wpAny _ _ (field (.ref it) 0 >>= _) _ _ s
  refine wpAny_bind (wpAny_field ho hd (x := .ref l) rfl ?_)
  show wpAny _ _ (if (Value.ref l == Value.none) = true then _ else _) _ _ s
  rw [if_neg (show ¬ ((Value.ref l == Value.none) = true) from Bool.false_ne_true)]
  show wpAny _ _ (field (.ref it) 1 >>= _) _ _ s
  refine wpAny_bind (wpAny_field ho hd (x := .int i 0) rfl ?_)
  show wpAny _ _ (seqItems? (.ref l) >>= _) _ _ s
  refine wpAny_bind (wpAny_seqItems hol hdl ?_)
  simp only [Int.toNat_natCast, hi]
  exact wpAny_bind (wpAny_rule (wpAny_bind (hot_spent hot ho hd hx (by simp) hQ)))
theorem hot_tuple_end {x1 it l : Addr} {i : Nat} {items} {Q : Option Value → Shared → Prop} (hot : HotAt A x1 s.heap) (hx : x1 ≠ it)
    (hit : IsTupIter s.heap it l i) (hl : IsTup s.heap l items) (hi : items[i]? = none) (hQ : ∀ h', Heap.ExtBut it s.heap h' → Q none { s with heap := h' }) : wpAny (model prog w) A (pyNext (.ref it)) Q E s := by
  obtain ⟨o, ho, hc, hd⟩ := id hit
  obtain ⟨ol, hol, _, nl, hdl⟩ := hl
  unfold pyNext
  refine wpAny_bind (wpAny_attempt (wpAny_callSpecial?_slot (name := PySem.Str.ofString "__next__") hit.typeIs slot_tupleiter_next
    (wpAny_call_entry slot_tupleiter_next hit.typeIs entry_tupleiter_next ?_ (args_tupleiter_next _))))
  show wpAny _ _ (field (.ref it) 0 >>= _) _ _ s
  refine wpAny_bind (wpAny_field ho hd (x := .ref l) rfl ?_)
  show wpAny _ _ (if (Value.ref l == Value.none) = true then _ else _) _ _ s
  rw [if_neg (show ¬ ((Value.ref l == Value.none) = true) from Bool.false_ne_true)]
  show wpAny _ _ (field (.ref it) 1 >>= _) _ _ s
  refine wpAny_bind (wpAny_field ho hd (x := .int i 0) rfl ?_)
  show wpAny _ _ (seqItems? (.ref l) >>= _) _ _ s
  refine wpAny_bind (wpAny_seqItems hol hdl ?_)
  simp only [Int.toNat_natCast, hi]
  exact wpAny_bind (wpAny_rule (wpAny_bind (hot_spent hot ho hd hx (by simp) hQ)))
theorem hot_unpackItems {x1 t : Addr} {items : Array Value} {Q : List Value → Shared → Prop} (hot : HotAt A x1 s.heap) (ht : IsTup s.heap t items)
    (hQ : ∀ h', Heap.ExtBut s.heap.objs.size s.heap h' → Q items.toList { s with heap := h' }) : wpAny (model prog w) A (unpackItems (.ref t) items.size none) Q E s := by
  have hlt : t ≠ s.heap.objs.size := by obtain ⟨o, ho, _⟩ := ht; exact Nat.ne_of_lt (Heap.lt_size ho)
  obtain ⟨hh, o1, vs1, g1, d1, c1⟩ := hot
  have hx1 : x1 ≠ s.heap.objs.size := Nat.ne_of_lt (Heap.lt_size g1)
  unfold unpackItems
  refine wpAny_bind ?_
  unfold notIterableAtAll
  refine wpAny_bind (wpAny_specialOf ht.typeIs slot_tuple_iter.lookup (wpAny_pure ?_))
  simp only [Bool.false_eq_true, if_false]
  refine wpAny_bind (wpAny_holding (iter_tuple ht ?_))
  refine wpAny_bind (wpAny_holding (draw_tuple hlt items.size 0 _ _ ⟨_, Heap.get?_push_size _ rfl, rfl, rfl⟩ (ht.push _) (by omega) fun k₁ it₁ sb₁ => ?_))
  have whole : List.take items.size (List.drop 0 items.toList) = items.toList := by rw [List.drop_zero, List.take_of_length_le (by simp)]
  rw [whole, if_neg (by simp)]
  have ht₁ : IsTup k₁ t items := (ht.push _).extBut sb₁.extBut hlt
  have g2 : k₁.get? x1 = some o1 := sb₁.extBut _ _ hx1 (Heap.get?_push_of_some _ g1)
  refine wpAny_bind (wpAny_holding (hot_tuple_end ⟨hh, o1, vs1, g2, d1, c1⟩ hx1 it₁ ht₁ (by simp) fun k₂ eb => ?_))
  simp only [Option.isSome_none, Bool.false_eq_true, if_false]
  exact wpAny_pure (hQ k₂ fun b o hb e => eb b o hb (sb₁.extBut b o hb (Heap.get?_push_of_some _ e)))
theorem hot_assign_tup {env : PySem.Env} {elts : List Expr} {k} {pos : Pos} {x1 t : Addr} {items : Array Value} {Q : Unit → Shared → Prop} (hot : HotAt A x1 s.heap) (ht : IsTup s.heap t items)
    (hn : (assignEach elts env).length = items.size) (hstar : (assignEach elts env).findIdx? (·.1) = none)
    (h : ∀ h', Heap.ExtBut s.heap.objs.size s.heap h' → wpAny (model prog w) A (assignInOrder ((assignEach elts env).map (·.2)) items.toList) Q E { s with heap := h' }) :
    wpAny (model prog w) A (assign (.Tuple elts k pos) env (.ref t)) Q E s := by
  rw [assign_Tuple]
  refine wpAny_bind (wpAny_standAt ?_)
  unfold unpack
  rw [hn, hstar]
  exact wpAny_bind (wpAny_holding (hot_unpackItems hot ht h))
end

/-- the handled exception x1 stands in each state of the context, its context is None -/
structure HotIn (Y : Cx) (x1 : Addr) (o1 : Obj) : Prop where
  hd : Y.A.handled = some (.ref x1)
  fl : ∃ vs : Array Value, o1.data = .fields vs ∧ vs[2]? = some .none
  there : ∀ (pins : List (Addr × Obj)) (σ : St) (H : Hp) (s : Shared), Inv Y pins σ H s → s.heap.get? x1 = some o1 ∧ H x1 = none
theorem HotIn.at {Y : Cx} {x1 : Addr} {o1 : Obj} (h : HotIn Y x1 o1) {pins : List (Addr × Obj)} {σ : St} {H : Hp} {s : Shared} (I : Inv Y pins σ H s) : HotAt Y.A x1 s.heap :=
  let ⟨vs, h1, h2⟩ := h.fl
  ⟨h.hd, o1, vs, (h.there _ _ _ _ I).1, h1, h2⟩
theorem HotIn.of_pin {Y : Cx} {x1 : Addr} {o1 : Obj} (hd : Y.A.handled = some (.ref x1)) (fl : ∃ vs : Array Value, o1.data = .fields vs ∧ vs[2]? = some .none) (hm : (x1, o1) ∈ Y.pn) : HotIn Y x1 o1 :=
  ⟨hd, fl, fun pins σ H s I => let z := I.pin (x1, o1) (List.mem_append_left _ hm); ⟨z.1, z.2.1⟩⟩
/-- a comprehension's block that starts where it stands -/
theorem HotIn.blk {Y : Cx} {x1 : Addr} {o1 : Obj} (h : HotIn Y x1 o1) {pins : List (Addr × Obj)} {σ : St} {H : Hp} {s : Shared} (I : Inv Y pins σ H s) {sc : Scope} {ce : PySem.Env} {fp : List Addr} (hn : x1 ∉ frs Y.stack) (hf : x1 ∉ fp) : HotIn (Y.blk s H sc ce fp) x1 o1 :=
  ⟨h.hd, h.fl, fun pins' σ' H' s' I' => by
    obtain ⟨e, n⟩ := h.there _ _ _ _ I
    exact ⟨I'.base.keep x1 o1 e n hn hf, I'.base.free x1 o1 e n hf⟩⟩
theorem pg_tupH {X : Cx} {x1 : Addr} {o1 : Obj} {es : List Expr} {k : Nat} {pos : Pos} {t : TGs} {n : Nat} (hot : HotIn X x1 o1) (h : PGs X es t) (hn : (assignEach es X.env).length = n) (hst : (assignEach es X.env).findIdx? (·.1) = none) : PG X (.Tuple es k pos) (gTup X.K n t) := by
  refine ⟨fun pins s σ H v u Q I r hw => ?_⟩
  obtain ⟨a, xs, rfl, hq, hl, hw⟩ := hw
  cases r
  obtain ⟨its, rv, ht, hz⟩ := I.tuple hq
  refine hot_assign_tup (hot.at I) ht (by simp [hn, ← hl, rv.length]) hst fun h' hx => ?_
  exact h.run pins _ σ H xs _ Q (I.kept (t' := s.toks) fun b o e => hx b o (Nat.ne_of_lt (Heap.lt_size e)) e) (by simpa using rv) hw
section
variable {X : Cx}
/-- [elt for tg in a list if ..], while an exception is handled -/
theorem lcH {x1 : Addr} {o1 : Obj} {elt tg iter : Expr} {ifs : List Expr} {scope : Scope} {own : List (PySem.Str × Nat)} {pos : Pos} {tl : TE} {g : TG} {tt : TT} {te : TE} (hot : HotIn X x1 o1) (hnf' : ∀ (pins : List (Addr × Obj)) (σ : St) (H : Hp) (s : Shared), Inv X pins σ H s → x1 ∉ frs X.stack) (hN : X.N.Nodup) (hi : PE X iter tl) (ok : BlkOk X.N X.env.scope scope own)
    (hg : ∀ (s : Shared) (H : Hp) (C : Addr) (cl : List (PySem.Str × Addr)) (fp : List Addr), HotIn (X.blk s H scope (compEnvC scope cl C X.env) fp) x1 o1 → PG (X.blk s H scope (compEnvC scope cl C X.env) fp) tg g)
    (ht : ∀ (s : Shared) (H : Hp) (C : Addr) (cl : List (PySem.Str × Addr)) (fp : List Addr), HotIn (X.blk s H scope (compEnvC scope cl C X.env) fp) x1 o1 → PTs (X.blk s H scope (compEnvC scope cl C X.env) fp) ifs tt)
    (he : ∀ (s : Shared) (H : Hp) (C : Addr) (cl : List (PySem.Str × Addr)) (fp : List Addr), HotIn (X.blk s H scope (compEnvC scope cl C X.env) fp) x1 o1 → PE (X.blk s H scope (compEnvC scope cl C X.env) fp) elt te) (hs : ∀ x, foldedSetIterable iter X.env x = pure x) :
    PE X (.ListComp elt [⟨tg, iter, ifs, 0⟩] scope pos) (tLc (iList X.K tl) g tt te (own.map (·.2))) := by
  refine ⟨fun pins s σ H Q I h => ?_⟩
  have hnf := hnf' _ _ _ _ I
  rw [eval_ListComp]
  have cells : ∀ y ∈ scope.names, y.2 = .free → ∃ c, X.env.cells.lookup y.1 = some c := fun y hy e => (ok.free y hy e).elim (fun k => I.ok.has _ (.inl k)) fun k => I.ok.has _ (.inr k)
  refine wpAny_comprehension_free (use := none) rfl hs (closure_ok cells) ok.kind (fun y hy e => by rw [ok.uniq y hy, e]) (thn (hi.run pins s σ H _ I h) fun xv s1 hx => ?_)
  obtain ⟨x, Ha, Ia, rx, a, rfl, ⟨xs0, hq0⟩, q⟩ := hx
  cases rx
  obtain ⟨its0, rv0, p0, hz0⟩ := Ia.list hq0
  refine wpAny_pyIter_list p0.isList ?_
  generalize eit : s1.heap.objs.size = it
  have Ib : Inv X pins σ Ha { s1 with heap := s1.heap.push { cls := .type "list_iterator", data := .fields #[.ref a, .int 0 0] } } := Ia.kept (t' := s1.toks) fun b o e => Heap.get?_push_of_some _ e
  have itb : (s1.heap.push { cls := .type "list_iterator", data := .fields #[.ref a, .int 0 0] }).IsListIter it a 0 := by rw [← eit]; exact ⟨_, Heap.get?_push_size _ rfl, rfl, rfl⟩
  have fit : FpOk X pins Ha it := by rw [← eit]; exact Ia.fpOk (Nat.le_refl _) (Ia.hok.fresh (Nat.le_refl _))
  have x1it : x1 ≠ it := by rw [← eit]; exact Nat.ne_of_lt (Heap.lt_size (hot.there _ _ _ _ Ia).1)
  generalize hsb : ({ s1 with heap := s1.heap.push { cls := .type "list_iterator", data := .fields #[.ref a, .int 0 0] } } : Shared) = sb at Ib
  have itb : sb.heap.IsListIter it a 0 := by rw [← hsb]; exact itb
  clear hsb
  refine wpAny_newObj_type (newEnv_comp ?_) (by show 0 ≤ sizeLine; decide)
  generalize hD : sb.heap.objs.size = N0
  have nN : Ha N0 = none := Ib.hok.fresh (Nat.le_of_eq hD)
  obtain ⟨W, ⟨m0, w0⟩, turn⟩ := q N0 nN
  generalize hsc : ({ sb with heap := sb.heap.push { cls := .type "list", data := .seq ([] : List Value).toArray } } : Shared) = sc
  have hsc' : sc.heap = sb.heap.push { cls := .type "list", data := .seq ([] : List Value).toArray } := by rw [← hsc]
  have Ic : Inv X pins σ (upd Ha N0 (.lst [])) sc := by
    rw [← hsc]
    refine Ib.laid (t' := sb.toks) (fun b o e => Heap.get?_push_of_some _ e) (Nat.le_of_eq hD) ⟨Nat.zero_le _, [], 0, .nil, ?_⟩
    rw [← hD]; exact Heap.get?_push_size _ rfl
  have ltb : it < sb.heap.objs.size := by obtain ⟨o, e, _⟩ := itb; exact Heap.lt_size e
  have fic : FpOk X pins (upd Ha N0 (.lst [])) it ∧ it < sc.heap.objs.size := by
    refine ⟨⟨?_, fit.2⟩, by rw [hsc', Heap.size_push]; exact Nat.lt_succ_of_lt ltb⟩
    rw [upd_ne (by rw [← hD]; exact Nat.ne_of_lt ltb)]; exact fit.1
  have f3 : ∀ b ∈ [it], FpOk X pins (upd Ha N0 (.lst [])) b ∧ b < sc.heap.objs.size := fun b hb => by
    obtain rfl : b = it := by simpa using hb
    exact fic
  have Id := block_start Ic ok hN f3
  have hotB := fun ce => hot.blk (ce := ce) (fp := [it]) (sc := scope) Ic hnf (by simpa using x1it)
  have pg := hg sc (upd Ha N0 (.lst [])) sc.heap.objs.size (cellsFrom (sc.heap.objs.size + 1) scope.names (cloFrom X.env.cells scope.names [])) [it] (hotB _)
  have pt := ht sc (upd Ha N0 (.lst [])) sc.heap.objs.size (cellsFrom (sc.heap.objs.size + 1) scope.names (cloFrom X.env.cells scope.names [])) [it] (hotB _)
  have pe := he sc (upd Ha N0 (.lst [])) sc.heap.objs.size (cellsFrom (sc.heap.objs.size + 1) scope.names (cloFrom X.env.cells scope.names [])) [it] (hotB _)
  have hotC := hotB (compEnvC scope (cellsFrom (sc.heap.objs.size + 1) scope.names (cloFrom X.env.cells scope.names [])) sc.heap.objs.size X.env)
  show codeAny _ _ (.compStart (.ListComp elt [⟨tg, iter, ifs, 0⟩] scope pos) 0 (.ref it) (.ref N0) (compEnvC scope (cellsFrom (sc.heap.objs.size + 1) scope.names (cloFrom X.env.cells scope.names [])) sc.heap.objs.size X.env)) (compPost (model X.prog X.w) X.A X.xe none (EP X pins σ Q) (.ref N0) sc.heap.objs.size) { sc with heap := pushCells (sc.heap.push { cls := .type "dict", data := .dict #[] }) scope.names }
  have nit : (upd Ha N0 (.lst [])) it = none := fic.1.1
  generalize hce : compEnvC scope (cellsFrom (sc.heap.objs.size + 1) scope.names (cloFrom X.env.cells scope.names [])) sc.heap.objs.size X.env = ce at Id pg pt pe hotC ⊢
  have cL : ce.locals = sc.heap.objs.size := by subst hce; rfl
  generalize hHc : upd Ha N0 (.lst []) = Hc at Ic Id pg pt pe w0 nit fic f3 hotC
  generalize hsd : ({ sc with heap := pushCells (sc.heap.push { cls := .type "dict", data := .dict #[] }) scope.names } : Shared) = sd at Id ⊢
  have std : sd.heap.IsListIter it a 0 := by
    rw [← hsd]
    exact itb.at fun o e => pushCells_keeps _ _ _ _ (Heap.get?_push_of_some _ (by rw [hsc']; exact Heap.get?_push_of_some _ e))
  -- what the iterator is in the block
  have fpB : ∀ {σ' : St} {H' : Hp} {s' : Shared}, Inv (X.blk sc Hc scope ce [it]) [] σ' H' s' → H' it = none → FpOk (X.blk sc Hc scope ce [it]) [] H' it := fun {σ' H' s'} I' hn =>
    ⟨hn, (I'.ok.exf it (by simp)).1, I'.ok.exfs it (by simp), .inl (by simp), fun x c e => (I'.ok.exf it (by simp)).2 x c e, fun p hp => absurd (show p ∈ ([] : List (Addr × Obj)) ++ [] from hp) (by simp)⟩
  have loop : codeAny (model X.prog X.w) X.A (.compLoop (.ListComp elt [⟨tg, iter, ifs, 0⟩] scope pos) 0 (.ref it) (.ref N0) ce) (compPost (model X.prog X.w) X.A X.xe none (EP X pins σ Q) (.ref N0) sc.heap.objs.size) sd := by
    refine compLoop_any (fun n s' => ∃ i H', Inv (X.blk sc Hc scope ce [it]) [] (wipe σ (own.map (·.2))) H' s' ∧ s'.heap.IsListIter it a i ∧ H' it = none ∧ W i n H') ?_ m0 ⟨0, Hc, Id, std, nit, w0⟩
    rintro n s5 ⟨i, H5, I5, st5, n5, w5⟩
    rcases turn i n H5 w5 with ⟨⟨ys, hys, hle⟩, qq⟩ | ⟨⟨ys, y, hys, hy⟩, Nx', hNx, step⟩
    · obtain ⟨its, rv, p, hz⟩ := I5.list (show SqL (X.blk sc Hc scope ce [it]).K H5 a ys from hys)
      have lv := rv.length
      refine hot_list_end (hotC.at I5) x1it st5 p.isList (by simp; omega) fun h' eb => ?_
      obtain ⟨f0, f1, f2, f3', f4, f5⟩ := fpB I5 n5
      have I6 : Inv (X.blk sc Hc scope ce [it]) [] (wipe σ (own.map (·.2))) H5 { s5 with heap := h' } := I5.turned (t' := s5.toks) (fun b o hb e => eb b o hb e) f0 f1 f3' f4 f5
      have I7 : Inv X pins σ H5 { s5 with heap := h' } := Ic.call' (ch := [it]) I6.os I6.base I6.hok I6.bare fun b hb => ⟨(f3 b hb).1.2.2.2.1, (f3 b hb).1.2.1, (f3 b hb).1.2.2.2.2.1, (f3 b hb).1.2.2.2.2.2⟩
      have nC : H5 sc.heap.objs.size = none := by
        have z : H5 ce.locals = none := I6.free
        rwa [cL] at z
      obtain ⟨m, hn, _⟩ := I6.loc
      have hn : h'.Ns ce.locals m := hn
      rw [cL] at hn
      refine ⟨m, hn, fun h'' sb => ?_⟩
      obtain ⟨e0, e1, e2, e3, e4, e5⟩ := Ic.fpOk (Nat.le_refl _) nC
      exact ⟨.ref N0, H5, I7.turned (t' := s5.toks) (fun b o hb e => (sb.2 b hb).trans e) e0 e1 e3 e4 e5, rfl, qq⟩
    · obtain ⟨its, rv, p, hz⟩ := I5.list (show SqL (X.blk sc Hc scope ce [it]).K H5 a ys from hys)
      obtain ⟨u, hu, ru⟩ := rv.get hy
      obtain ⟨f0, f1, f2, f3', f4, f5⟩ := fpB I5 n5
      refine wpAny_pyNext_list_item st5 p.isList (x := u) (by simpa using hu) fun h' st' sb => ?_
      have I6 : Inv (X.blk sc Hc scope ce [it]) [] (wipe σ (own.map (·.2))) H5 { s5 with heap := h' } := I5.turned (t' := s5.toks) (fun b o hb e => (sb.2 b hb).trans e) f0 f1 f3' f4 f5
      obtain ⟨oi, ei, ci, di⟩ := id st'
      dsimp only
      refine go_of (s := { s5 with heap := h' }) ei ci di (by decide) ?_
      have fI : ∀ b ∈ [it], FpOk (X.blk sc Hc scope ce [it]) [] H5 b := fun b hb => by
        obtain rfl : b = it := by simpa using hb
        exact fpB I6 n5
      have I6' := I6.pinned fI (fun b hb => by
        obtain rfl : b = it := by simpa using hb
        exact ⟨oi, ei, fun v z => by rw [di] at z; cases z⟩)
      refine thnF (pg.run _ _ _ H5 y u _ I6' ru (step y H5 ⟨rfl, fun zs hzs => by rw [I5.list_inj hzs hys]; exact hy⟩)) fun _ s8 ⟨σ8, H8, I8, hw8, q8⟩ => ?_
      refine thnF (pt.run _ s8 σ8 H8 _ I8 q8) fun b s9 ⟨H9, I9, q9⟩ => ?_
      have fin : ∀ {s' : Shared} {H' : Hp}, Inv (X.blk sc Hc scope ce [it]) ([] ++ pinsAt [it] h') σ8 H' s' → Nx' H' → ∃ m, m < n ∧ ∃ i H', Inv (X.blk sc Hc scope ce [it]) [] (wipe σ (own.map (·.2))) H' s' ∧ s'.heap.IsListIter it a i ∧ H' it = none ∧ W i m H' := fun {s' H'} I' nx => by
        obtain ⟨m', hm, w'⟩ := hNx H' nx
        have pin := I'.pin (it, oi) (List.mem_append_right _ (List.mem_append_right _ (mem_pinsAt (by simp) ei)))
        have hl : (wipe σ (own.map (·.2))).length = σ8.length := by rw [← hw8, wipe_length]
        refine ⟨m', hm, i + 1, H', (I'.unpinned (pins := [])).weak hl (fun j v e => ?_), ⟨oi, pin.1, ci, di⟩, pin.2.1, w'⟩
        rw [← hw8] at e
        exact (wipe_some e).1
      cases b with
      | false =>
        simp only [Bool.false_eq_true, if_false] at q9 ⊢
        exact fin I9 q9
      | true =>
        simp only [if_true] at q9 ⊢
        refine thnF (pe.run _ s9 σ8 H9 _ I9 q9) fun z s10 ⟨yv, H10, I10, r10, acc, hD10, hz10, nx⟩ => ?_
        exact app_ok (X := X.blk sc Hc scope ce [it]) I10 hD10 hz10 r10 fun s11 I11 => fin I11 nx
  exact codeAny_compStart_list loop (wpAny_pyIter_listiter std loop)
end
end G

set_option maxRecDepth 100000
set_option maxHeartbeats 4000000
namespace G
open PySem PySem.Spec PyProof.Rows L2 HotX
/-! # targets by names; comprehensions -/
inductive Tgt where
  | nm (i : Nat)
  | tp (ts : List Tgt)
mutual
def tgE : Tgt → D → Env → Option Env
  | .nm i, d, ρ => some (ρ.set i (some d))
  | .tp ts, .tup xs, ρ => if xs.length = ts.length then tgEs ts xs ρ else none
  | .tp _, _, _ => none
def tgEs : List Tgt → List D → Env → Option Env
  | [], [], ρ => some ρ
  | t :: ts, d :: ds, ρ => match tgE t d ρ with
    | some ρ' => tgEs ts ds ρ'
    | none => none
  | _, _, _ => none
end
mutual
def tgT (K : PySem.W.Frag) : Tgt → TG
  | .nm i => gName i
  | .tp ts => gTup K ts.length (tgTs K ts)
def tgTs (K : PySem.W.Frag) : List Tgt → TGs
  | [] => gNil
  | t :: ts => gCons (tgT K t) (tgTs K ts)
end
mutual
def tgN : Tgt → List Nat
  | .nm i => [i]
  | .tp ts => tgNs ts
def tgNs : List Tgt → List Nat
  | [] => []
  | t :: ts => tgN t ++ tgNs ts
end
theorem wipe_set {σ : St} {i : Nat} {x : Option V} : ∀ {vs : List Nat}, i ∈ vs → wipe (σ.set i x) vs = wipe σ vs
  | [], h => by cases h
  | v :: vs, h => by
    show (wipe (σ.set i x) vs).set v none = (wipe σ vs).set v none
    by_cases hv : i ∈ vs
    · rw [wipe_set hv]
    · have e : v = i := by
        rcases List.mem_cons.mp h with h | h
        · exact h.symm
        · exact absurd h hv
      subst e
      have key : ∀ (us : List Nat), v ∉ us → wipe (σ.set v x) us = (wipe σ us).set v x := by
        intro us
        induction us with
        | nil => intro _; rfl
        | cons u us ih =>
          intro hn
          simp only [List.mem_cons, not_or] at hn
          show (wipe (σ.set v x) us).set u none = ((wipe σ us).set u none).set v x
          rw [ih hn.2, List.set_comm _ _ (Ne.symm (Ne.symm hn.1))]
      rw [key vs hv, List.set_set]
section
variable {K : PySem.W.Frag} {T : Tz} {m : Nat → Addr} {n : Nat} {H : Hp}
mutual
theorem tg_ok : ∀ {t : Tgt} {d : D} {ρ ρ2 : Env} {v : V} {σ : St} {Q : St → Hp → Prop}, tgE t d ρ = some ρ2 → Rep K m n H d v → EnvOk K T m n H ρ σ → (∀ i ∈ tgN t, T.fr i) →
    (∀ σ2, EnvOk K T m n H ρ2 σ2 → (∀ vs : List Nat, (∀ i ∈ tgN t, i ∈ vs) → wipe σ2 vs = wipe σ vs) → Q σ2 H) → tgT K t v σ H Q
  | .nm i, d, ρ, ρ2, v, σ, Q, e, r, en, fr, q => by
    simp only [tgE, Option.some.injEq] at e
    subst e
    simp only [tgT]
    exact q _ (en.set r i (fr i (by simp [tgN]))) fun vs hv => wipe_set (hv i (by simp [tgN]))
  | .tp ts, d, ρ, ρ2, v, σ, Q, e, r, en, fr, q => by
    cases d with
    | tup xs =>
      simp only [tgE] at e
      split at e
      · rename_i hl
        obtain ⟨a, vs, rfl, hq, rr⟩ := r.tup_inv
        simp only [tgT]
        refine ⟨a, vs, rfl, tsq hq, by rw [rr.len, hl], ?_⟩
        exact tgs_ok e rr en (by simpa only [tgN] using fr) (by simpa only [tgN] using q)
      · cases e
    | _ => simp [tgE] at e
theorem tgs_ok : ∀ {ts : List Tgt} {ds : List D} {ρ ρ2 : Env} {vs : List V} {σ : St} {Q : St → Hp → Prop}, tgEs ts ds ρ = some ρ2 → RepL K m n H ds vs → EnvOk K T m n H ρ σ → (∀ i ∈ tgNs ts, T.fr i) →
    (∀ σ2, EnvOk K T m n H ρ2 σ2 → (∀ us : List Nat, (∀ i ∈ tgNs ts, i ∈ us) → wipe σ2 us = wipe σ us) → Q σ2 H) → tgTs K ts vs σ H Q
  | [], [], ρ, ρ2, vs, σ, Q, e, r, en, fr, q => by
    simp only [tgEs, Option.some.injEq] at e
    subst e
    simp only [tgTs]
    exact ⟨r.nil_inv, q σ en fun _ _ => rfl⟩
  | [], _ :: _, ρ, ρ2, vs, σ, Q, e, r, en, fr, q => by simp [tgEs] at e
  | _ :: _, [], ρ, ρ2, vs, σ, Q, e, r, en, fr, q => by simp [tgEs] at e
  | t :: ts, d :: ds, ρ, ρ2, vs, σ, Q, e, r, en, fr, q => by
    simp only [tgEs] at e
    obtain ⟨v, vs', rfl, r1, rr⟩ := r.cons_inv
    cases e1 : tgE t d ρ with
    | none => rw [e1] at e; cases e
    | some ρ1 =>
      rw [e1] at e
      simp only [tgTs]
      refine ⟨v, vs', rfl, tg_ok e1 r1 en (fun i hi => fr i (by simp [tgNs, hi])) fun σ1 en1 w1 => ?_⟩
      refine tgs_ok e rr en1 (fun i hi => fr i (by simp [tgNs, hi])) fun σ2 en2 w2 => q σ2 en2 fun us hu => ?_
      rw [w2 us fun i hi => hu i (by simp [tgNs, hi]), w1 us fun i hi => hu i (by simp [tgNs, hi])]
end
end
def gT (t : Tgt) : FG := fun d ρ S => match tgE t d ρ with
  | some ρ' => .ok ρ' S
  | none => .bad
section
variable {X : Cx} {T : Tz} {ca : Nat → Addr} {W : WX}
theorem vg_tgt {e : Expr} {t : Tgt} (h : PG X e (tgT X.K t)) (fr : ∀ i ∈ tgN t, T.fr i) : VG X T ca W e (gT t) :=
  pg_imp h fun v σ H Q ⟨m, ρ, S, d, sm, en, r, p⟩ => by
    have p' : Post X.K T ca W (match tgE t d ρ with | some ρ' => .ok ρ' S | none => .bad) m S H σ (EnvOk X.K T) Q := p
    cases e1 : tgE t d ρ with
    | none => rw [e1] at p'; exact p'.elim
    | some ρ' =>
      rw [e1] at p'
      exact tg_ok e1 r en fr fun σ2 en2 _ => Post.here p' sm en2
/-! ### comprehensions -/
def R.ne {α : Type} (r : R α) : R α := match r with
  | .exc _ _ _ => .bad
  | r => r
@[simp] theorem R.ne_ok {α : Type} (a : α) (S : Store) : (R.ok a S).ne = .ok a S := rfl
@[simp] theorem R.ne_exc {α : Type} (c : Nat) (w : D) (S : Store) : (R.exc c w S : R α).ne = .bad := rfl
@[simp] theorem R.ne_bad {α : Type} : (R.bad : R α).ne = .bad := rfl
def ofOE (o : Option Env) (S : Store) : R Env := match o with
  | some ρ => .ok ρ S
  | none => .bad
def lcGo (w : Wk) (t : Tgt) (tt : FB) (te : F) (ρ : Env) : Nat → Nat → Store → R (List D)
  | 0, _, S => if w.fin S = true then .ok [] S else .bad
  | k + 1, i, S => match w.get S i with
    | none => .bad
    | some d => (ofOE (tgE t d ρ) S).bind fun ρ2 S1 => (tt ρ2 S1).ne.bind fun b S2 =>
      if b = true then (te ρ2 S2).ne.bind fun y S3 => (lcGo w t tt te ρ k (i + 1) S3).bind fun ys S4 => .ok (y :: ys) S4 else lcGo w t tt te ρ k (i + 1) S2
def wipeE (ρ : Env) : List Nat → Env
  | [] => ρ
  | v :: vs => (wipeE ρ vs).set v none
def lcEnd (acc ds : List D) (S : Store) : R D := if (acc ++ ds).length ≤ sizeLine then .ok (.loc S.length) (S ++ [.lst (acc ++ ds)]) else .bad
def fLc (w : Env → Store → R Wk) (t : Tgt) (tt : FB) (te : F) (vs : List Nat) : F := fun ρ S => (w ρ S).bind fun wk S1 => (lcGo wk t tt te (wipeE ρ vs) wk.n 0 S1).bind fun ds S2 => lcEnd [] ds S2
theorem wipe_env {K : PySem.W.Frag} {m : Nat → Addr} {n : Nat} {H : Hp} {ρ : Env} {σ : St} (en : EnvOk K T m n H ρ σ) : ∀ {vs : List Nat}, (∀ i ∈ vs, T.fr i) → EnvOk K T m n H (wipeE ρ vs) (wipe σ vs)
  | [], _ => en
  | v :: vs, h => EnvOk.unset (wipe_env en fun i hi => h i (List.mem_cons_of_mem _ hi)) v none (h v List.mem_cons_self)
/-- the list that is being made is in no cell -/
theorem Sim.other {K : PySem.W.Frag} {m : Nat → Addr} {S : Store} {H : Hp} (s : Sim K T m S H) {p : Addr} {u o : HO} (ha : H p = some u) (hu : Chg u) (hn : ∀ l, l < S.length → m l ≠ p) : Sim K T m S (upd H p o) ∧ Mv K m S.length H m S.length (upd H p o) := by
  have x : Mv K m S.length H m S.length (upd H p o) := mv_set ha (by rcases hu with ⟨_, rfl⟩ | ⟨_, rfl⟩ | ⟨_, rfl⟩ <;> (intros; intro z; cases z)) (by rcases hu with ⟨_, rfl⟩ | ⟨_, rfl⟩ | ⟨_, rfl⟩ <;> (intros; intro z; cases z))
  refine ⟨⟨s.inj, fun l c e => ?_, ?_, fun q hq => ?_, fun q hq => (s.evs q hq).mv x, fun q hq => ?_⟩, x⟩
  · have hl : l < S.length := (List.getElem?_eq_some_iff.mp e).1
    exact (s.cell l c e).mv x (upd_ne (hn l hl))
  · exact tabs_set s.tabs ha (by rcases hu with ⟨_, rfl⟩ | ⟨_, rfl⟩ | ⟨_, rfl⟩ <;> (intros; intro z; cases z)) (by rcases hu with ⟨_, rfl⟩ | ⟨_, rfl⟩ | ⟨_, rfl⟩ <;> (intros; intro z; cases z))
  · obtain ⟨v, e, r⟩ := s.exs q hq
    refine ⟨v, ?_, r.mv x⟩
    rw [upd_ne fun z => by rw [z, ha] at e; rcases hu with ⟨_, rfl⟩ | ⟨_, rfl⟩ | ⟨_, rfl⟩ <;> cases e]
    exact e
  · have e := s.cos q hq
    rw [upd_ne fun z => by rw [z, ha] at e; rcases hu with ⟨_, rfl⟩ | ⟨_, rfl⟩ | ⟨_, rfl⟩ <;> cases e]
    exact e
abbrev W0 : WX := fun _ _ _ _ => False
/-- the reading of a comprehension from what it does -/
theorem t_lc {w : Env → Store → R Wk} {wi : TI} {t : Tgt} {tt : FB} {te : F} {vs : List Nat} {σ : St} {H : Hp} {Q : VK} {ht : TT} {he : TE} (hw : ∀ σ H R', iW X.K T ca W w σ H R' → wi σ H R') (hsub : ∀ i ∈ tgN t, i ∈ vs) (hfr : ∀ i ∈ vs, T.fr i)
    (htt : ∀ σ H Q, tT X.K T ca W0 tt σ H Q → ht σ H Q) (hte : ∀ σ H Q, tV X.K T ca W0 te σ H Q → he σ H Q) (h : tV X.K T ca W (fLc w t tt te vs) σ H Q) : tLc wi (tgT X.K t) ht he vs σ H Q := by
  obtain ⟨m, ρ, S, sm, en, p⟩ := h
  refine hw σ H _ ⟨m, ρ, S, sm, en, (Post.bind p).mono fun J H1 ⟨m1, S1, wk, nx, sm1, wok, q⟩ => ?_⟩
  intro N0 hN
  have en1 := en.mv (nx.mv sm)
  have nN : ∀ l, l < S1.length → m1 l ≠ N0 := fun l hl => sm1.ne_fresh hN hl
  refine ⟨fun i k H2 => i + k = wk.n ∧ ∃ m2 S2 acc accV, Nx m1 S1.length H1 m2 S2.length H2 ∧ Sim X.K T m2 S2 H2 ∧ H2 N0 = some (.lst accV) ∧ RepL X.K m2 S2.length H2 acc accV ∧ (∀ l, l < S2.length → m2 l ≠ N0) ∧
      Post X.K T ca W ((lcGo wk t tt te (wipeE ρ vs) k i S2).bind fun ds S3 => lcEnd acc ds S3) m1 S1 H1 σ (Rep X.K) Q, ⟨wk.n, by omega, m1, S1, [], [], nx_aside hN, sm1.aside hN, upd_same, RepL.nil, nN, q⟩, ?_⟩
  rintro i k H2 ⟨hk, m2, S2, acc, accV, nx2, sm2, eN, ra, ne2, q2⟩
  cases k with
  | zero =>
    have hi : i = wk.n := by omega
    subst hi
    have q2' : Post X.K T ca W ((if wk.fin S2 = true then R.ok [] S2 else .bad).bind fun ds S3 => lcEnd acc ds S3) m1 S1 H1 σ (Rep X.K) Q := q2
    by_cases hf : wk.fin S2 = true
    · rw [if_pos hf, R.bind_ok] at q2'
      left
      refine ⟨wok.stop m2 S2 H2 nx2 sm2 hf, ?_⟩
      unfold lcEnd at q2'
      split at q2'
      · rw [List.append_nil] at q2'
        have e1 : (S2 ++ [Cell.lst acc]).length = S2.length + 1 := by simp
        have mvp : Mv X.K m2 S2.length H2 (mPush m2 S2.length N0) (S2.length + 1) H2 := ⟨Nat.le_succ _, fun _ h => mPush_old h, fun _ _ h => h⟩
        have nxp : Nx m1 S1.length H1 (mPush m2 S2.length N0) (S2.length + 1) H2 := ⟨Nat.le_succ_of_le nx2.le, fun l hl => by rw [mPush_old (Nat.lt_of_lt_of_le hl nx2.le)]; exact nx2.eq l hl, fun l h1 h2 => by
          by_cases hl : l < S2.length
          · rw [mPush_old hl]; exact nx2.fresh l h1 hl
          · have : l = S2.length := by omega
            subst this; rw [mPush_new]; intro o e; rw [hN] at e; exact (by cases e), nx2.frame, nx2.keep⟩
        have smp : Sim X.K T (mPush m2 S2.length N0) (S2 ++ [Cell.lst acc]) H2 := {
          inj := fun l l' h1 h2 e => by
            rw [e1] at h1 h2
            by_cases z : l < S2.length
            · by_cases z' : l' < S2.length
              · rw [mPush_old z, mPush_old z'] at e; exact sm2.inj l l' z z' e
              · have : l' = S2.length := by omega
                subst this; rw [mPush_old z, mPush_new] at e; exact absurd e (ne2 l z)
            · have : l = S2.length := by omega
              subst this
              by_cases z' : l' < S2.length
              · rw [mPush_new, mPush_old z'] at e; exact absurd e.symm (ne2 l' z')
              · omega
          cell := fun l c e => by
            rw [e1]
            by_cases z : l < S2.length
            · rw [List.getElem?_append_left z] at e
              rw [mPush_old z]
              exact (sm2.cell l c e).mv mvp rfl
            · have hl := (List.getElem?_eq_some_iff.mp e).1
              rw [e1] at hl
              have : l = S2.length := by omega
              subst this
              simp at e
              subst e
              rw [mPush_new]
              exact ⟨accV, eN, ra.mv mvp⟩
          tabs := sm2.tabs
          exs := fun q hq => by
            obtain ⟨v, e, r⟩ := sm2.exs q hq
            rw [e1]; exact ⟨v, e, r.mv mvp⟩
          evs := fun q hq => by rw [e1]; exact (sm2.evs q hq).mv mvp
          cos := sm2.cos }
        refine q2' (mPush m2 S2.length N0) H2 (.ref N0) (by rw [e1]; exact nxp) smp ?_
        rw [e1]
        have z : mPush m2 S2.length N0 S2.length = N0 := mPush_new
        have rr : Rep X.K (mPush m2 S2.length N0) (S2.length + 1) H2 (.loc S2.length) (.ref (mPush m2 S2.length N0 S2.length)) := Rep.loc (Nat.lt_succ_self _)
        rwa [z] at rr
      · exact q2'.elim
    · rw [if_neg hf] at q2'; exact q2'.elim
  | succ k =>
    right
    unfold lcGo at q2
    cases eg : wk.get S2 i with
    | none => rw [eg] at q2; exact q2.elim
    | some d =>
      rw [eg] at q2
      obtain ⟨go, yl⟩ := wok.go m2 S2 H2 i d nx2 sm2 (by omega) eg
      refine ⟨go, fun H' => i + 1 + k = wk.n ∧ ∃ m3 S3 acc3 accV3, Nx m1 S1.length H1 m3 S3.length H' ∧ Sim X.K T m3 S3 H' ∧ H' N0 = some (.lst accV3) ∧ RepL X.K m3 S3.length H' acc3 accV3 ∧ (∀ l, l < S3.length → m3 l ≠ N0) ∧
          Post X.K T ca W ((lcGo wk t tt te (wipeE ρ vs) k (i + 1) S3).bind fun ds S4 => lcEnd acc3 ds S4) m1 S1 H1 σ (Rep X.K) Q, fun H' z => ⟨k, by omega, z⟩, fun x H3 hy => ?_⟩
      obtain ⟨nx3, sm3, r3⟩ := yl x H3 hy
      have enw : EnvOk X.K T m2 S2.length H3 (wipeE ρ vs) (wipe σ vs) := ((wipe_env en1 hfr).mv (nx2.mv sm1)).mv (nx3.mv sm2)
      have eN3 : H3 N0 = some (.lst accV) := nx3.frame _ _ eN ne2 (by intro _ z; cases z)
      have ra3 := ra.mv (nx3.mv sm2)
      have nx13 := nx2.trans nx3
      cases e1 : tgE t d (wipeE ρ vs) with
      | none => simp only [e1, ofOE, R.bind_bad] at q2; exact q2.elim
      | some ρ2 =>
        simp only [e1, ofOE, R.bind_ok] at q2
        refine tg_ok e1 r3 enw (fun j hj => hfr j (hsub j hj)) fun σ2 en2 wp => ⟨by
          rw [wp vs hsub]
          have idem : ∀ (us : List Nat), (∀ i ∈ us, i ∈ vs) → wipe (wipe σ us) vs = wipe σ vs := by
            intro us
            induction us with
            | nil => intro _; rfl
            | cons u us ih =>
              intro hu
              show wipe ((wipe σ us).set u none) vs = wipe σ vs
              rw [wipe_set (hu u List.mem_cons_self)]
              exact ih fun i hi => hu i (List.mem_cons_of_mem _ hi)
          exact idem vs fun _ h => h, ?_⟩
        refine htt σ2 H3 _ ⟨m2, ρ2, S2, sm3, en2, ?_⟩
        cases et : tt ρ2 S2 with
        | bad => rw [et] at q2; exact q2.elim
        | exc c w' S4 => rw [et] at q2; exact q2.elim
        | ok b S4 =>
          rw [et] at q2
          simp only [R.ne_ok, R.bind_ok] at q2
          intro m4 H4 b' nx4 sm4 rb
          have rb' : b = b' := rb
          subst rb'
          have eN4 : H4 N0 = some (.lst accV) := nx4.frame _ _ eN3 ne2 (by intro _ z; cases z)
          have ra4 := ra3.mv (nx4.mv sm3)
          have ne4 : ∀ l, l < S4.length → m4 l ≠ N0 := fun l hl z => by
            by_cases h2 : l < S2.length
            · rw [nx4.eq l h2] at z; exact ne2 l h2 z
            · obtain ⟨ps, q⟩ := nx4.fresh l (Nat.le_of_not_lt h2) hl _ (by rw [z]; exact eN3)
              cases q
          have nx14 := nx13.trans nx4
          cases b with
          | false =>
            simp only [Bool.false_eq_true, if_false] at q2 ⊢
            exact ⟨by omega, m4, S4, acc, accV, nx14, sm4, eN4, ra4, ne4, q2⟩
          | true =>
            simp only [if_true] at q2 ⊢
            refine hte σ2 H4 _ ⟨m4, ρ2, S4, sm4, en2.mv (nx4.mv sm3), ?_⟩
            cases ee : te ρ2 S4 with
            | bad => rw [ee] at q2; exact q2.elim
            | exc c w' S5 => rw [ee] at q2; exact q2.elim
            | ok y S5 =>
              rw [ee] at q2
              simp only [R.ne_ok, R.bind_ok] at q2
              intro m5 H5 yv nx5 sm5 ry
              have eN5 : H5 N0 = some (.lst accV) := nx5.frame _ _ eN4 ne4 (by intro _ z; cases z)
              have ne5 : ∀ l, l < S5.length → m5 l ≠ N0 := fun l hl z => by
                by_cases h2 : l < S4.length
                · rw [nx5.eq l h2] at z; exact ne4 l h2 z
                · obtain ⟨ps, q⟩ := nx5.fresh l (Nat.le_of_not_lt h2) hl _ (by rw [z]; exact eN4)
                  cases q
              have ra5 := ra4.mv (nx5.mv sm4)
              cases er : lcGo wk t tt te (wipeE ρ vs) k (i + 1) S5 with
              | bad => rw [er] at q2; exact q2.elim
              | exc c w' S6 =>
                exfalso
                have never : ∀ k i S c w S', lcGo wk t tt te (wipeE ρ vs) k i S ≠ .exc c w S' := by
                  intro k
                  induction k with
                  | zero =>
                    intro i S c w S' h
                    unfold lcGo at h
                    split at h <;> cases h
                  | succ k ih =>
                    intro i S c w S' h
                    unfold lcGo at h
                    cases h1 : wk.get S i with
                    | none => rw [h1] at h; cases h
                    | some d' =>
                      rw [h1] at h
                      dsimp only at h
                      cases h2 : tgE t d' (wipeE ρ vs) with
                      | none => rw [h2] at h; cases h
                      | some ρ' =>
                        rw [h2] at h
                        simp only [ofOE, R.bind_ok] at h
                        cases h3 : tt ρ' S with
                        | bad => rw [h3] at h; cases h
                        | exc _ _ _ => rw [h3] at h; cases h
                        | ok b S4 =>
                          rw [h3] at h
                          simp only [R.ne_ok, R.bind_ok] at h
                          cases b with
                          | false => exact ih _ _ _ _ _ h
                          | true =>
                            simp only [if_true] at h
                            cases h4 : te ρ' S4 with
                            | bad => rw [h4] at h; cases h
                            | exc _ _ _ => rw [h4] at h; cases h
                            | ok y5 S5 =>
                              rw [h4] at h
                              simp only [R.ne_ok, R.bind_ok] at h
                              cases h5 : lcGo wk t tt te (wipeE ρ vs) k (i + 1) S5 with
                              | bad => rw [h5] at h; cases h
                              | exc _ _ _ => exact ih _ _ _ _ _ h5
                              | ok _ _ => rw [h5] at h; cases h
                exact never _ _ _ _ _ _ er
              | ok ys S6 =>
                rw [er] at q2
                simp only [R.bind_ok] at q2
                have hlen : (acc ++ y :: ys).length ≤ sizeLine := by
                  unfold lcEnd at q2
                  split at q2
                  · assumption
                  · exact q2.elim
                have la := ra5.len
                refine ⟨accV, eN5, ?_, ?_⟩
                · rw [la]
                  simp at hlen; omega
                · obtain ⟨sm6, mv6⟩ := sm5.other (o := .lst (accV ++ [yv])) eN5 (.inl ⟨_, rfl⟩) ne5
                  refine ⟨by omega, m5, S5, acc ++ [y], accV ++ [yv], ?_, sm6, upd_same, ((ra5.append (RepL.cons ry RepL.nil)).mv mv6), ne5, ?_⟩
                  · have nx15 := nx14.trans nx5
                    refine ⟨nx15.le, nx15.eq, nx15.fresh, fun b o e h1 h2 => ?_, fun b o e nt => ?_⟩
                    · have z : b ≠ N0 := fun z => by rw [z, hN] at e; cases e
                      rw [upd_ne z]; exact nx15.frame b o e h1 h2
                    · have z : b ≠ N0 := fun z => by rw [z, hN] at e; cases e
                      rw [upd_ne z]; exact nx15.keep b o e nt
                  · rw [er, R.bind_ok]
                    unfold lcEnd at q2 ⊢
                    rw [List.append_assoc]
                    exact q2
end
end G

set_option maxRecDepth 100000
set_option maxHeartbeats 4000000
namespace G
open PySem PySem.Spec PyProof.Rows L2 HotX
section
variable {X : Cx} {T : Tz} {ca : Nat → Addr} {W : WX}
def fYes : FB := fun _ S => .ok true S
theorem pts_imp {X : Cx} {es : List Expr} {t t' : TT} (h : PTs X es t) (q : ∀ σ H Q, t' σ H Q → t σ H Q) : PTs X es t' := ⟨fun pins s σ H Q I z => h.run pins s σ H Q I (q σ H Q z)⟩
theorem vts_nil {X : Cx} : PTs X [] (tT X.K T ca W fYes) := pts_imp pts_nil fun σ H Q ⟨m, ρ, S, sm, en, p⟩ => Post.here p sm rfl
/-- [elt for tg in iter if ..] -/
theorem ve_lc {elt tg iter : Expr} {ifs : List Expr} {scope : Scope} {own : List (PySem.Str × Nat)} {pos : Pos} {w : Env → Store → R Wk} {t : Tgt} {tt : FB} {te : F} (hc : X.calm = true) (hN : X.N.Nodup) (hi : VI X T ca W tg iter w) (ok : BlkOk X.N X.env.scope scope own)
    (hsub : ∀ i ∈ tgN t, i ∈ own.map (·.2)) (hfr : ∀ i ∈ own.map (·.2), T.fr i)
    (hg : ∀ (s : Shared) (H : Hp) (C : Addr) (cl : List (PySem.Str × Addr)) (fp : List Addr), PG (X.blk s H scope (compEnvC scope cl C X.env) fp) tg (tgT X.K t))
    (ht : ∀ (s : Shared) (H : Hp) (C : Addr) (cl : List (PySem.Str × Addr)) (fp : List Addr), PTs (X.blk s H scope (compEnvC scope cl C X.env) fp) ifs (tT X.K T ca W0 tt))
    (he : ∀ (s : Shared) (H : Hp) (C : Addr) (cl : List (PySem.Str × Addr)) (fp : List Addr), PE (X.blk s H scope (compEnvC scope cl C X.env) fp) elt (tV X.K T ca W0 te)) (hs : ∀ x, foldedSetIterable iter X.env x = pure x) :
    VE X T ca W (.ListComp elt [⟨tg, iter, ifs, 0⟩] scope pos) (fLc w t tt te (own.map (·.2))) :=
  pe_imp (pe_lc hc hN hi ok hg ht he hs) fun σ H Q h => t_lc (fun _ _ _ z => z) hsub hfr (fun _ _ _ z => z) (fun _ _ _ z => z) h
/-- y = [..] -/
theorem vs_setLc {i : Nat} {y : PySem.Str} {py : Pos} {elt tg iter : Expr} {ifs : List Expr} {scope : Scope} {own : List (PySem.Str × Nat)} {pos spos : Pos} {w : Env → Store → R Wk} {t : Tgt} {tt : FB} {te : F} (hc : X.calm = true) (hN : X.N.Nodup) (hy : X.N[i]? = some y) (hyl : X.env.scope.names.lookup y = some .local) (hfi : T.fr i)
    (hsw : swapsWith (.ListComp elt [⟨tg, iter, ifs, 0⟩] scope pos) (some (.Name y py)) spos.line X.env = pure true) (hi : VI X T ca W tg iter w) (ok : BlkOk X.N X.env.scope scope own)
    (hsub : ∀ i ∈ tgN t, i ∈ own.map (·.2)) (hfr : ∀ i ∈ own.map (·.2), T.fr i)
    (hg : ∀ (s : Shared) (H : Hp) (C : Addr) (cl : List (PySem.Str × Addr)) (fp : List Addr), PG (X.blk s H scope (compEnvC scope cl C X.env) fp) tg (tgT X.K t))
    (ht : ∀ (s : Shared) (H : Hp) (C : Addr) (cl : List (PySem.Str × Addr)) (fp : List Addr), PTs (X.blk s H scope (compEnvC scope cl C X.env) fp) ifs (tT X.K T ca W0 tt))
    (he : ∀ (s : Shared) (H : Hp) (C : Addr) (cl : List (PySem.Str × Addr)) (fp : List Addr), PE (X.blk s H scope (compEnvC scope cl C X.env) fp) elt (tV X.K T ca W0 te)) (hs : ∀ x, foldedSetIterable iter X.env x = pure x) :
    VS X T ca W (.Assign [.Name y py] (.ListComp elt [⟨tg, iter, ifs, 0⟩] scope pos) spos) (sAsg (fLc w t tt te (own.map (·.2))) (gNm i)) :=
  ps_imp (ps_setLc hc hN hy hyl hsw hi ok hg ht he hs) fun Dn σ H ⟨m, ρ, S, sm, en, p⟩ => by
    refine t_lc (fun _ _ _ z => z) hsub hfr (fun _ _ _ z => z) (fun _ _ _ z => z) ⟨m, ρ, S, sm, en, (Post.ofFl sm en p).mono fun x H1 ⟨m1, S1, d, nx, sm1, en1, r, q⟩ => ?_⟩
    exact q m1 H1 _ Nx.refl sm1 (en1.set r i hfi)
def fLcH (f : F) (t : Tgt) (tt : FB) (te : F) (vs : List Nat) : F := fLc (fun ρ S => (f ρ S).bind fun d S1 => match d with | .loc l => ofW (wkOf (.loc l) S1) S1 | _ => .bad) t tt te vs
/-- .. while an exception is handled, over a list -/
theorem ve_lcH {x1 : Addr} {o1 : Obj} {elt tg iter : Expr} {ifs : List Expr} {scope : Scope} {own : List (PySem.Str × Nat)} {pos : Pos} {f : F} {t : Tgt} {tt : FB} {te : F} (hot : HotIn X x1 o1) (hnf : ∀ (pins : List (Addr × Obj)) (σ : St) (H : Hp) (s : Shared), Inv X pins σ H s → x1 ∉ frs X.stack) (hN : X.N.Nodup) (hi : VE X T ca W iter f) (ok : BlkOk X.N X.env.scope scope own)
    (hsub : ∀ i ∈ tgN t, i ∈ own.map (·.2)) (hfr : ∀ i ∈ own.map (·.2), T.fr i)
    (hg : ∀ (s : Shared) (H : Hp) (C : Addr) (cl : List (PySem.Str × Addr)) (fp : List Addr), HotIn (X.blk s H scope (compEnvC scope cl C X.env) fp) x1 o1 → PG (X.blk s H scope (compEnvC scope cl C X.env) fp) tg (tgT X.K t))
    (ht : ∀ (s : Shared) (H : Hp) (C : Addr) (cl : List (PySem.Str × Addr)) (fp : List Addr), HotIn (X.blk s H scope (compEnvC scope cl C X.env) fp) x1 o1 → PTs (X.blk s H scope (compEnvC scope cl C X.env) fp) ifs (tT X.K T ca W0 tt))
    (he : ∀ (s : Shared) (H : Hp) (C : Addr) (cl : List (PySem.Str × Addr)) (fp : List Addr), HotIn (X.blk s H scope (compEnvC scope cl C X.env) fp) x1 o1 → PE (X.blk s H scope (compEnvC scope cl C X.env) fp) elt (tV X.K T ca W0 te)) (hs : ∀ x, foldedSetIterable iter X.env x = pure x) :
    VE X T ca W (.ListComp elt [⟨tg, iter, ifs, 0⟩] scope pos) (fLcH f t tt te (own.map (·.2))) :=
  pe_imp (lcH hot hnf hN hi ok hg ht he hs) fun σ H Q h => t_lc (fun σ H R' ⟨m, ρ, S, sm, en, p⟩ => by
    refine tV_mono (tV_bind sm en p) fun x H1 ⟨m1, S1, d, nx, sm1, en1, r, q⟩ => ?_
    cases d with
    | loc l =>
      dsimp only at q
      cases ew : wkOf (.loc l) S1 with
      | none => rw [ew] at q; exact q.elim
      | some wk =>
        rw [ew] at q
        obtain ⟨hl, rfl⟩ := r.loc_inv
        rcases wkOf_cases ew with ⟨xs, e, _⟩ | ⟨l', xs, e, e1, rfl⟩ | ⟨l', xs, e, e1, rfl⟩
        · cases e
        · cases e
          obtain ⟨vs, ev, rr⟩ := sm1.cell l _ e1
          exact ⟨_, rfl, ⟨vs, .inl (.inl ev)⟩, Post.here (b := Itl X.K (m1 l)) q sm1 (wkL_ok hl)⟩
        · cases e
          obtain ⟨vs, o, ev, rr⟩ := sm1.cell l _ e1
          exact ⟨_, rfl, ⟨vs, .inl (.inr ⟨o, ev⟩)⟩, Post.here (b := Itl X.K (m1 l)) q sm1 (wkR_ok hl)⟩
    | _ => exact q.elim) hsub hfr (fun _ _ _ z => z) (fun _ _ _ z => z) h
/-! ### try, the handled exception -/
def behindSuite (i : Nat) (r : Fl) : Fl := match r with
  | .nx ρ2 S2 => .nx (ρ2.set i none) S2
  | .bk ρ2 S2 => .bk (ρ2.set i none) S2
  | .ct ρ2 S2 => .ct (ρ2.set i none) S2
  | .ret d S2 => .ret d S2
  | .exc _ _ _ _ => .bad
  | .bad => .bad
/-- try: body / except C as n: suite -/
def sTry (i : Nat) (sub : Nat → Option Bool) (body : FS) (suite : Nat → D → FS) : FS := fun ρ S => match body ρ S with
  | .exc c w ρ1 S1 => match sub c with
    | some true => if i < ρ1.length then behindSuite i (suite c w (ρ1.set i none) S1) else .bad
    | some false => .exc c w ρ1 S1
    | none => .bad
  | r => r
theorem Sim.enter {K : PySem.W.Frag} {m : Nat → Addr} {S : Store} {H : Hp} {x : Addr} {v : V} {w : D} (s : Sim K T m S H) (hx : H x = some (.xd [(("what" : PySem.Str), v)])) (r : Rep K m S.length H w v) (fx : List (Nat × V)) : Sim K { T with xs := (x, w) :: T.xs, fx := fx } m S H :=
  ⟨s.inj, s.cell, s.tabs, fun p hp => by
    rcases List.mem_cons.mp hp with rfl | hp
    · exact ⟨v, hx, r⟩
    · exact s.exs p hp, s.evs, s.cos⟩
theorem Sim.leave {K : PySem.W.Frag} {m : Nat → Addr} {S : Store} {H : Hp} {x : Addr} {w : D} {fx : List (Nat × V)} (s : Sim K { T with xs := (x, w) :: T.xs, fx := fx } m S H) : Sim K T m S H :=
  ⟨s.inj, s.cell, s.tabs, fun p hp => s.exs p (List.mem_cons_of_mem _ hp), s.evs, s.cos⟩
theorem vs_try {i c0 : Nat} {x n : PySem.Str} {sub : Nat → Option Bool} {body suite : List Stmt} {b₀ : Stmt} {np pos pos' : Pos} {fb : FS} {fs : Nat → D → FS} (hs : X.stack = X.env :: X.outer) (hf : X.env.frame = some X.env.locals) (hN : X.N.Nodup) (hi : X.N[i]? = some n) (hln : X.env.kindOf n = some .local) (hc : Names X x (.ref (ca c0))) (tk : L2N.Takes X W)
    (hfx : T.fr i) (hsub : ∀ c b, sub c = some b → PySem.W.exmOne X.K (.ref (ca c)) (.ref (ca c0)) = some b)
    (hb : ∀ (W' : WX) (pn : List (Addr × Obj)) (xe : Value → Shared → Prop), L2N.Takes (X.tr pn xe) W' → PassesOwn (model X.prog X.w) X.A X.env xe → VSs (X.tr pn xe) T ca W' body fb)
    (hsu : ∀ (a : Addr) (oe : Obj) (c : Nat) (w : D) (d : Addr) (pn : List (Addr × Obj)), L2N.Zn (.ref (ca c)) (some d) oe → (∃ vs, oe.data = .fields vs) → VSs (X.suite a ((a, oe) :: pn)) { T with xs := (d, w) :: T.xs, fx := (i, .ref a) :: T.fx } ca W0 (b₀ :: suite) (fs c w)) :
    VS X T ca W (.Try body [.ExceptHandler (some (.Name x np)) (some n) (b₀ :: suite) pos'] [] [] pos) (sTry i sub fb fs) :=
  ps_imp (L2N.ps_try_as (tb := fun W' => tS X.K T ca W' fb)
      (ts := fun a cls d => fun Dn σ H => ∃ c w dd, cls = .ref (ca c) ∧ d = some dd ∧ tS X.K { T with xs := (dd, w) :: T.xs, fx := (i, .ref a) :: T.fx } ca W0 (fs c w) Dn σ H) hs hf hN hi hln hc tk (fun W' pn xe t' p' => hb W' pn xe t' p') (fun a oe cls d pn hz hfl => ⟨fun pins s σ H Dn I h => by
        obtain ⟨c, w, dd, rfl, rfl, h⟩ := h
        exact (hsu a oe c w dd pn hz hfl).run pins s σ H Dn I h⟩)) fun Dn σ H ⟨m, ρ, S, sm, en, p⟩ => by
    refine ⟨m, ρ, S, sm, en, ?_⟩
    have p0 : PostS X.K T ca W (match fb ρ S with
      | .exc c w ρ1 S1 => (match sub c with
        | some true => if i < ρ1.length then behindSuite i (fs c w (ρ1.set i none) S1) else Fl.bad
        | some false => .exc c w ρ1 S1
        | none => .bad)
      | r => r) m S H Dn := p
    cases e : fb ρ S with
    | nx ρ1 S1 => rw [e] at p0; exact p0
    | bk ρ1 S1 => rw [e] at p0; exact p0
    | ct ρ1 S1 => rw [e] at p0; exact p0
    | ret d S1 => rw [e] at p0; exact p0
    | bad => rw [e] at p0; exact p0
    | exc c w ρ1 S1 =>
      rw [e] at p0
      dsimp only at p0
      intro m1 H1 σ1 x' v nx sm1 en1 hx rw'
      cases es : sub c with
      | none => rw [es] at p0; exact p0.elim
      | some b =>
        rw [es] at p0
        refine ⟨b, hsub c b es, fun hb' a na => ?_, fun hb' => ?_⟩
        · subst hb'
          dsimp only at p0
          by_cases hil : i < ρ1.length
          case neg => rw [if_neg hil] at p0; exact p0.elim
          rw [if_pos hil] at p0
          refine ⟨c, w, x', rfl, rfl, m1, ρ1.set i none, S1, sm1.enter hx rw' _, ⟨?_, fun j d ej => ?_, fun p hp => ?_⟩, ?_⟩
          · simp [en1.1]
          · by_cases hj : i = j
            · subst hj; rw [List.getElem?_set] at ej; simp at ej
            · rw [List.getElem?_set_ne hj] at ej
              obtain ⟨v', e', r'⟩ := en1.2.1 j d ej
              exact ⟨v', by rw [List.getElem?_set_ne hj]; exact e', r'⟩
          · rcases List.mem_cons.mp hp with rfl | hp
            · have hl : i < σ1.length := by rw [← en1.1]; exact hil
              rw [List.getElem?_set]; simp [hl]
            · rw [List.getElem?_set_ne (Ne.symm (hfx p hp))]; exact en1.2.2 p hp
          · have q1 := PostS.shift nx p0
            cases e2 : fs c w (ρ1.set i none) S1 with
            | nx ρ2 S2 => rw [e2] at q1; exact fun m2 H2 σ2 nx2 sm2 en2 => q1 m2 H2 (σ2.set i none) nx2 sm2.leave (EnvOk.unset ⟨en2.1, en2.2.1, fun p hp => en2.2.2 p (List.mem_cons_of_mem _ hp)⟩ i none hfx)
            | bk ρ2 S2 => rw [e2] at q1; exact fun m2 H2 σ2 nx2 sm2 en2 => q1 m2 H2 (σ2.set i none) nx2 sm2.leave (EnvOk.unset ⟨en2.1, en2.2.1, fun p hp => en2.2.2 p (List.mem_cons_of_mem _ hp)⟩ i none hfx)
            | ct ρ2 S2 => rw [e2] at q1; exact fun m2 H2 σ2 nx2 sm2 en2 => q1 m2 H2 (σ2.set i none) nx2 sm2.leave (EnvOk.unset ⟨en2.1, en2.2.1, fun p hp => en2.2.2 p (List.mem_cons_of_mem _ hp)⟩ i none hfx)
            | ret d S2 => rw [e2] at q1; exact fun m2 H2 v2 nx2 sm2 rr => q1 m2 H2 v2 nx2 sm2.leave rr
            | exc _ _ _ _ => rw [e2] at q1; exact q1.elim
            | bad => rw [e2] at q1; exact q1.elim
        · subst hb'
          exact p0 m1 H1 σ1 x' v nx sm1 en1 hx rw'
/-- where one stands in a suite: the handled exception a in slot i, its class C, its dict d, what it keeps -/
structure Suit (X : Cx) (T : Tz) (i : Nat) (a : Addr) (oe : Obj) (C d : Addr) (w : D) : Prop where
  mem : (a, oe) ∈ X.pn
  zn : L2N.Zn (.ref C) (some d) oe
  fl : ∃ vs, oe.data = .fields vs
  hd : X.A.handled = some (.ref a)
  fx : ((i, .ref a) : Nat × V) ∈ T.fx
  xs : (d, w) ∈ T.xs
theorem Suit.hot {i : Nat} {a : Addr} {oe : Obj} {C d : Addr} {w : D} (s : Suit X T i a oe C d w) : HotIn X a oe := .of_pin s.hd (let ⟨vs, e⟩ := s.fl; ⟨vs, e, s.zn.2.2 vs e⟩) s.mem
theorem Suit.inst {i : Nat} {a : Addr} {oe : Obj} {C d : Addr} {w : D} (z : Suit X T i a oe C d w) {pins : List (Addr × Obj)} {σ : St} {H : Hp} {s : Shared} (I : Inv X pins σ H s) {od : Obj} (hd : s.heap.get? d = some od) : PySem.W.InstAt s.heap a oe C (some od) := by
  obtain ⟨vs, e⟩ := z.fl
  exact ⟨(I.pin (a, oe) (List.mem_append_left _ z.mem)).1, z.zn.1, by unfold PySem.W.notCls; rw [e] <;> rfl, by rw [z.zn.2.1]; exact hd⟩
theorem ve_what {x : PySem.Str} {C fI i : Nat} {n : PySem.Str} {a : Addr} {oe : Obj} {d : Addr} {w : D} {p pos : Pos} (z : Suit X T i a oe C d w) (E : ExT X.K X.mg x C fI) (hN : X.N[i]? = some n) (hv : Vis X.env.scope n) (hd : (n == ("__debug__" : PySem.Str)) = false) (hcd : (n == ("__classdict__" : PySem.Str)) = false)
    (hb : attributeBase (.Name n p) "what" X.env (eval (.Name n p) X.env) = eval (.Name n p) X.env) : VE X T ca W (.Attribute (.Name n p) "what" pos) (fCon w) := by
  refine ⟨fun pins s σ H Q I h => ?_⟩
  obtain ⟨m, ρ, S, sm, en, q⟩ := h
  refine attr_of hb (thn ((pe_var (X := X) (pos := p) hN hv hd hcd).run pins s σ H (fun v H1 => v = .ref a ∧ H1 = H) I ⟨_, en.2.2 (i, .ref a) z.fx, rfl, rfl⟩) fun u s1 ⟨v, H1, J, rv, ev, eH⟩ => ?_)
  subst ev
  subst eH
  obtain rfl : u = Value.ref a := rv
  obtain ⟨vw, hx, rw'⟩ := sm.exs _ z.xs
  obtain ⟨mA, hns, hr⟩ := J.hok d _ hx
  obtain ⟨od, ho, hl⟩ := lookIn_ns hns
  have l : List.lookup ("what" : PySem.Str) [(("what" : PySem.Str), vw)] = some vw := by simp [List.lookup]
  obtain ⟨uw, hu, ru⟩ := RelO.some_of (v := vw) (o := mA "what") (by rw [← l]; exact hr "what")
  exact HandSPX.exc_get J.kIn (z.inst J ho) E.exc.hg E.exc.hk E.exc.hs (PySem.W.findObj_own E.exc.hd E.no rfl (by rw [hl, hu])) (handed_of ru) ⟨vw, H1, J.tok _, ru, Post.here q sm rw'⟩
end
end G

set_option maxRecDepth 100000
set_option maxHeartbeats 4000000
namespace G
open PySem PySem.Spec PyProof.Rows L2 HotX
/-! # isinstance of the handled exception; the facts of a class of exceptions; its __init__ -/
section
open PySem.W PySem.Calls
theorem cls_found {K : Frag} {D : Addr} (e : ExcC K D) (od : Option Obj) : findObj K D od "__class__" = some (.bind (.builtin "getset_descriptor.__get__") (.builtin "object.__class__")) := by
  obtain ⟨cd, hc, _⟩ := any_some e.hd
  unfold findObj
  rw [hc, Option.bind_some, e.ha, Option.bind_some]
  simp [e.hn, e.ht]
/-- type(e) is asked by way of __class__ -/
theorem exc_class {prog : Program} {w : World} {A : Around} {E : Value → Shared → Prop} {s : Shared} {K : Frag} {x D : Addr} {ox : Obj} {od : Option Obj} {Q : Option Value → Shared → Prop} (e : ExcC K D) (X : K.In s.heap) (I : InstAt s.heap x ox D od) (h : Q (some (.ref D)) { s with toks := s.toks + 1 }) :
    wpAny (model prog w) A (getAttr? (.ref x) "__class__") Q E s := by
  obtain ⟨heap, gens, drawn, toks, os⟩ := s
  have ty := I.type (M := model prog w); have gaAt := looks_findIn (M := model prog w) X e.hg; have gtAt := looks_findIn (M := model prog w) X e.hk
  have own : Looks (model prog w) heap (isInstance (.ref x) (.type "BaseException")) true := ty.andThen (looks_subIn X e.hs)
  have at_ := looks_find (M := model prog w) X I (cls_found e od)
  have n2 : (Value.builtin "BaseException.__getattribute__" == Value.builtin "object.__getattribute__") = false := by decide +kernel
  have n1 : (onTheHeap (Value.ref D) && Value.builtin "BaseException.__getattribute__" == Value.builtin "object.__getattribute__") = false := by rw [n2]; rfl
  unfold getAttr? getAttrBy? getAttrBy; refine wpAny_bind (wpAny_mkText (wpAny_bind (wpAny_attempt (wpAny_holding (wpAny_bind (ty.at (wpAny_bind (gaAt.at ?_))))))))
  show wpAny _ _ (if (onTheHeap (Value.ref D) && Value.builtin "BaseException.__getattribute__" == Value.builtin "object.__getattribute__") = true then _ else _) _ _ _; rw [n1, if_neg Bool.false_ne_true]
  unfold getAttrByItsOwn hookBefore; refine wpAny_bind ?_; rw [if_pos (show onTheHeap (Value.ref D) = true from rfl)]; refine gtAt.at (wpAny_bind (wpAny_attempt (wpAny_holding ?_)))
  unfold callGetattribute; rw [show (false && onTheHeap (Value.builtin "BaseException.__getattribute__")) = false from rfl, if_neg Bool.false_ne_true]; unfold boundAndCalled; rw [PySem.F.excAttr_ValueError.ga.bind (.ref x)]; refine wpAny_bind (wpAny_pure ?_)
  show wpAny _ _ (call (.builtin "BaseException.__getattribute__") [.ref x, .str "__class__" toks]) _ _ _; refine wpAny_call (codeAny_call_builtin PySem.F.excAttr_ValueError.ga.plain PySem.F.entry_bexc_ga ?_)
  refine @check_slot (model prog w) _ _ ⟨heap, gens, drawn, toks + 1, os⟩ "BaseException.__getattribute__" "BaseException" "__getattribute__" (.ref x) [.str "__class__" toks] [] _ (by decide +kernel) (by decide +kernel) own (PySem.F.args_bexc_ga (.ref x) (.str "__class__" toks)) ?_
  unfold Builtin.«object.__getattribute__»; refine wpAny_bind (wpAny_of_eq (a := ((Value.ref x : Value), [Value.str "__class__" toks])) (by first | rfl | (simp only [slotArgs]; rfl)) (wpAny_bind (wpAny_pure (wpAny_bind (ty.at (wpAny_bind (at_.at ?_)))))))
  show wpAny _ _ (holding [Value.builtin "object.__class__"] (call (.builtin "getset_descriptor.__get__") [.builtin "object.__class__", .ref x, .ref D]) >>= ret) _ _ _; refine wpAny_bind (wpAny_holding (wpAny_call (class_get (s := ⟨heap, gens, drawn, toks + 1, os⟩) (ox := ox) (od := od) X I e.hm (wpAny_pure ?_))))
  show wpAny _ _ (handedOut (.ref D)) _ _ _; rw [handedOut_of (v := .ref D) rfl]
  first | exact wpAny_pure (wpAny_pure h) | exact wpAny_pure h | exact wpAny_pure (wpAny_bind (wpAny_pure (wpAny_pure h)))
theorem exc_kit {K : Frag} {x D : Addr} {ox : Obj} {od : Option Obj} (e : ExcC K D) : KitX K (.ref x) (.ref D) fun h => InstAt h x ox D od := by
  obtain ⟨cd, hc, _⟩ := any_some e.hd
  obtain ⟨c', d', cd', sl', ho⟩ : ∃ c' d' cd' sl', K.lookup D = some ⟨c', d', .cls cd', sl'⟩ := by
    unfold clsIn at hc
    split at hc
    · exact ⟨_, _, _, _, by assumption⟩
    · cases hc
  refine ⟨fun _ _ _ I => I.type, fun _ _ X _ A' Q' E' s' k q => ?_, fun h tp dd its n sl X htp => Bool.eq_false_iff.mpr fun q => ?_, fun X I k => exc_class e X I k⟩
  · unfold isType loadHead; exact wpAny_bind (wpAny_loadPart (k _ _ (X _ _ ho)) (wpAny_pure q))
  · cases Value.ref.inj (beq_iff_eq.mp q); cases (X _ _ ho).symm.trans htp
end
section
variable {X : Cx} {T : Tz} {ca : Nat → Addr} {W : WX}
/-- isinstance(e, C), e the exception that is handled (its class D, its dict d) -/
def rIsX (K : PySem.W.Frag) (D a d : Addr) : List V → Hp → VK → Prop := fun xs H Q => ∃ (c : Addr) (b : Bool) (fs : List (PySem.Str × V)), xs = [.ref a, .ref c] ∧ H d = some (.xd fs) ∧ PySem.W.kitOne K (.ref D) (.ref c) = some b ∧ Q (.bl b) H
theorem call_isX {i : Nat} {a : Addr} {oe : Obj} {Cl d : Addr} {w : D} (z : Suit X T i a oe Cl d w) (e : ExcC X.K Cl) : CallR X (.builtin "isinstance") (rIsX X.K Cl a d) := by
  intro pins s σ H xs us Q I r h
  obtain ⟨c, b, fs, rfl, hd, hk, q⟩ := h
  cases r with
  | cons rx rr =>
    cases rr with
    | cons rt rr =>
      cases rr
      cases rx
      cases rt
      obtain ⟨mA, hns, _⟩ := I.hok d _ hd
      obtain ⟨od, ho, _⟩ := lookIn_ns hns
      exact PySem.W.kia_one (exc_kit e) I.kIn (z.inst I ho) hk (fun z => nomatch z) fun tk => ⟨.bl b, H, I.kept (t' := tk) fun _ _ z => z, rfl, q⟩
theorem ve_isX {i : Nat} {a : Addr} {oe : Obj} {Cl d C : Addr} {w : D} {b : Bool} {n y : PySem.Str} {p p1 p2 pos : Pos} (z : Suit X T i a oe Cl d w) (e : ExcC X.K Cl) (hk : PySem.W.kitOne X.K (.ref Cl) (.ref C) = some b)
    (hg : Gl X "isinstance") (hm : X.mg "isinstance" = none) (hN : X.N[i]? = some n) (hv : Vis X.env.scope n) (hd : (n == ("__debug__" : PySem.Str)) = false) (hcd : (n == ("__classdict__" : PySem.Str)) = false)
    (gy : Gl X y) (my : X.mg y = some (.ref C)) (hdy : (y == ("__debug__" : PySem.Str)) = false)
    (he : starEach [.Name n p1, .Name y p2] X.env = (false, eval (.Name n p1) X.env) :: starEach [.Name y p2] X.env) (he2 : starEach [.Name y p2] X.env = (false, eval (.Name y p2) X.env) :: starEach [] X.env) (hpl : (backTo pos (starEach [.Name y p2] X.env)).any (·.1) = false) :
    VE X T ca W (.Call (.Name "isinstance" p) [.Name n p1, .Name y p2] [] pos) (fCon (.bl b)) :=
  pe_imp (pe_callB (call_isX z e) hg hm (by decide +kernel) (pa_cons (pe_var hN hv hd hcd) (pa_cons (pe_glob (v := V.ref C) gy my rfl hdy) pa_nil he2) he) (by decide) (by decide) he hpl) fun σ H Q ⟨m, ρ, S, sm, en, q⟩ => by
    obtain ⟨vw, hx, _⟩ := sm.exs _ z.xs
    exact ⟨V.ref a, en.2.2 (i, .ref a) z.fx, C, b, _, rfl, hx, hk, Post.here q sm Rep.bl⟩
end
/-! ### what stands of a class of exceptions, as a Bool -/
section
variable {K : PySem.W.Frag}
def excB (K : PySem.W.Frag) (C : Addr) : Bool :=
  (match K.lookup C with
    | some ⟨.type "type", _, .cls cd, sl⟩ => (match cd.mro, sl.toList with
      | .ref C' :: bm, [_, _, _, _, some (.builtin n), _] => C' == C && n == "ValueError.__new__" && !cd.hasDel && cd.hasDict && PySem.HandSPX.refsVE bm
      | _, _ => false)
    | _ => false) &&
  (He.eqO (PySem.W.findIn K (.ref C) "__setattr__") (some (some (.builtin "object.__setattr__"))) && decide (PySem.W.subIn K (.ref C) (.type "BaseException") = some true) && decide (PySem.W.typeIn K (.ref C) = some (.type "type")) && PySem.W.keepIn K (.ref C)) &&
  (He.eqO (PySem.W.findIn K (.ref C) "what") (some none) && He.eqO (PySem.W.findIn K (.ref C) "__getattribute__") (some (some (.builtin "BaseException.__getattribute__"))) && He.eqO (PySem.W.findIn K (.ref C) "__getattr__") (some none) && PySem.W.hasDictIn K C) &&
  (He.eqO (PySem.W.findIn K (.ref C) "__class__") (some (some (.builtin "object.__class__"))) && He.eqO (PySem.W.specialIn K (.builtin "object.__class__") "__get__") (some (some (.builtin "getset_descriptor.__get__"))) && decide (PySem.W.takesIn K (.builtin "object.__class__") = some true) && decide (PySem.W.mroIn K C (.type "object") = some true))
/-- the class at C, its __init__ at fI -/
def excI (K : PySem.W.Frag) (C fI : Addr) : Bool := excB K C && (He.eqO (PySem.W.findIn K (.ref C) "__init__") (some (some (.ref fI))) && decide (PySem.W.typeIn K (.ref fI) = some (.type "function")))
theorem exc_of {mg : PySem.Str → Option Value} {x : PySem.Str} {C fI : Addr} (g : mg x = some (.ref C)) (h : excI K C fI = true) : ExT K mg x C fI := by
  unfold excI excB at h
  simp only [Bool.and_eq_true, decide_eq_true_eq] at h
  obtain ⟨⟨⟨⟨h0, ⟨⟨h1, h2⟩, h3⟩, h4⟩, ⟨⟨h5, h6⟩, h7⟩, h8⟩, ⟨⟨h9, h10⟩, h11⟩, h12⟩, h13, h14⟩ := h
  refine ⟨g, ⟨?_, He.eqO_ok h1, h2, h3, h4⟩, He.eqO_ok h13, h14, He.eqO_ok h5, ⟨He.eqO_ok h6, He.eqO_ok h7, h2, h8, He.eqO_ok h9, He.eqO_ok h10, h11, h12⟩⟩
  split at h0
  case h_2 => cases h0
  rename_i dd cd sl ho
  split at h0
  case h_2 => cases h0
  rename_i C' bm k0 k1 k2 k3 n k5 hm hs
  simp only [Bool.and_eq_true, beq_iff_eq, Bool.not_eq_true'] at h0
  obtain ⟨⟨⟨⟨rfl, rfl⟩, hdel⟩, hdct⟩, hv⟩ := h0
  obtain ⟨nm, bs, mro, ns, qn, hd, sn, sub, ab, col, del⟩ := cd
  dsimp only at hm hdel hdct
  subst hm hdel hdct
  obtain ⟨l⟩ := sl
  simp only at hs
  subst hs
  exact ⟨nm, qn, ns, bs, bm, sn, sub, ab, col, dd, k0, k1, k2, k3, k5, ho, hv⟩
end
end G

set_option maxRecDepth 100000
set_option maxHeartbeats 4000000
namespace G
open PySem PySem.Spec PyProof.Rows L2 HotX
/-! # the exceptions' classes of a program: the first is the base, the others are under it alone -/
def nrm (n c : Nat) : Nat := if c < n then c else 0
def kitT (n c k : Nat) : Bool := nrm n k == 0 || nrm n c == nrm n k
def caOf (K : PySem.W.Frag) (cls : List PySem.Str) (c : Nat) : Addr := He.ga K (cls.getD (nrm cls.length c) "")
def excsB (K : PySem.W.Frag) (cls : List PySem.Str) : Bool := match cls with
  | [] => true
  | c0 :: _ => cls.all (fun x => excI K (He.ga K x) (He.ma K (He.ga K c0) "__init__")) &&
    ((List.range cls.length).all fun c => (List.range cls.length).all fun k => decide (PySem.W.kitOne K (.ref (caOf K cls c)) (.ref (caOf K cls k)) = some (kitT cls.length c k)) && decide (PySem.W.exmOne K (.ref (caOf K cls c)) (.ref (caOf K cls k)) = some (kitT cls.length c k))) &&
    (match PySem.W.findCls K (.type "ValueError") (.type "type") "__init__" with
      | some (.val (.builtin s)) => s == "ValueError.__init__"
      | _ => false)
end G

set_option maxRecDepth 100000
set_option maxHeartbeats 4000000
namespace G
open PySem PySem.Spec PyProof.Rows L2 HotX
/-! # operations -/
def iB (g : Int → Int → D) : D → D → Store → Option (D × Store)
  | .int i, .int j, S => some (g i j, S)
  | _, _, _ => none
def dAdd : D → D → Store → Option (D × Store)
  | .int i, .int j, S => some (.int (i + j), S)
  | .str i, .str j, S => if i.length + j.length ≤ sizeLine then some (.str (i ++ j), S) else none
  | .tup xs, .tup ys, S => if xs.length + ys.length ≤ sizeLine then some (.tup (xs ++ ys), S) else none
  | .loc l, .loc k, S => match S[l]?, S[k]? with
    | some (.lst xs), some (.lst ys) => if xs.length + ys.length ≤ sizeLine then some (.loc S.length, S ++ [.lst (xs ++ ys)]) else none
    | _, _ => none
  | _, _, _ => none
def dSub := iB fun i j => .int (i - j)
def dMul : D → D → Store → Option (D × Store)
  | .int i, .int j, S => if i.natAbs.log2 + j.natAbs.log2 < 1000000 then some (.int (i * j), S) else none
  | .tup xs, .int k, S => if (1 ≤ k ∧ k ≤ 1000) ∧ xs.length ≤ 1000 then some (.tup (List.replicate k.toNat xs).flatten, S) else none
  | _, _, _ => none
def dDiv : D → D → Store → Option (D × Store)
  | .int i, .int j, S => if 0 < j ∧ j.natAbs.log2 < 9000 then some (.int (i / j), S) else none
  | _, _, _ => none
def dMod : D → D → Store → Option (D × Store)
  | .int i, .int j, S => if 0 < j then some (.int (i % j), S) else none
  | _, _, _ => none
def dPow : D → D → Store → Option (D × Store)
  | .int i, .int j, S => if 0 ≤ j ∧ j ≤ 1000000 ∧ i.natAbs < 2 ^ 64 then some (.int (i ^ j.toNat), S) else none
  | _, _, _ => none
def dNeg : D → Store → Option (D × Store)
  | .int i, S => some (.int (-i), S)
  | _, _ => none
section
variable {X : Cx} {T : Tz}
theorem iB_ok {f : Value → Value → Sem Value} {g : Int → Int → V} {g' : Int → Int → D} (h : OpR X f (rI0 g)) (hg : ∀ K m n H i j, Rep K m n H (g' i j) (g i j)) : OpR X f (rB X.K T (iB g')) := by
  intro pins s σ H x y v u Q I rx ry ⟨m, S, a, b, sm, ra, rb, p⟩
  cases a <;> first | exact (p : False).elim | skip
  cases b <;> first | exact (p : False).elim | skip
  obtain rfl := ra.int_inv
  obtain rfl := rb.int_inv
  exact h pins s σ H _ _ v u Q I rx ry ⟨_, _, rfl, rfl, PostO.here p sm (hg ..)⟩
theorem op_dSub : OpR X (binaryOp .Sub) (rB X.K T dSub) := iB_ok op_sub fun _ _ _ _ _ _ => Rep.int
theorem op_dLt0 : OpR X (compareOp .Lt) (rB X.K T (iB fun i j => .bl (decide (i < j)))) := iB_ok op_lt fun _ _ _ _ _ _ => Rep.bl
theorem op_dGt : OpR X (compareOp .Gt) (rB X.K T (iB fun i j => .bl (decide (j < i)))) := iB_ok op_gt fun _ _ _ _ _ _ => Rep.bl
theorem op_dGe : OpR X (compareOp .GtE) (rB X.K T (iB fun i j => .bl (decide (j ≤ i)))) := iB_ok op_ge fun _ _ _ _ _ _ => Rep.bl
theorem op_dAdd : OpR X (binaryOp .Add) (rB X.K T dAdd) := by
  intro pins s σ H x y v u Q I rx ry ⟨m, S, a, b, sm, ra, rb, p⟩
  cases a <;> first | exact (p : False).elim | skip
  case int =>
    cases b <;> first | exact (p : False).elim | skip
    obtain rfl := ra.int_inv
    obtain rfl := rb.int_inv
    exact op_add pins s σ H _ _ v u Q I rx ry ⟨_, _, rfl, rfl, PostO.here p sm Rep.int⟩
  case str =>
    cases b <;> first | exact (p : False).elim | skip
    obtain rfl := ra.str_inv
    obtain rfl := rb.str_inv
    unfold dAdd at p
    dsimp only at p
    split at p
    · exact op_add_str pins s σ H _ _ v u Q I rx ry ⟨_, _, rfl, rfl, ‹_›, PostO.here p sm Rep.str⟩
    · exact (p : False).elim
  case tup xs =>
    cases b <;> first | exact (p : False).elim | skip
    rename_i ys
    obtain ⟨a, vs, rfl, qa, rra⟩ := ra.tup_inv
    obtain ⟨b, ws, rfl, qb, rrb⟩ := rb.tup_inv
    unfold dAdd at p
    dsimp only at p
    split at p
    · rename_i hz
      have la := rra.len
      have lb := rrb.len
      refine op_catA pins s σ H _ _ v u Q I rx ry ⟨a, b, vs, ws, rfl, rfl, tsq qa, tsq qb, by omega, fun e => ?_, fun _ e => ?_, fun _ _ q hq => ?_⟩
      · subst e
        have : xs = [] := List.length_eq_zero_iff.mp (by simpa using la.symm)
        subst this
        exact PostO.here p sm (Rep.tup qb rrb)
      · subst e
        have : ys = [] := List.length_eq_zero_iff.mp (by simpa using lb.symm)
        subst this
        rw [List.append_nil] at p
        exact PostO.here p sm (Rep.tup qa rra)
      · exact p m _ _ (nx_aside hq) (sm.aside hq) (Rep.tup upd_same ((rra.append rrb).mv (mv_fresh hq)))
    · exact (p : False).elim
  case loc l =>
    cases b <;> first | exact (p : False).elim | skip
    rename_i k
    obtain ⟨hl, rfl⟩ := ra.loc_inv
    obtain ⟨hk, rfl⟩ := rb.loc_inv
    unfold dAdd at p
    dsimp only at p
    split at p
    · rename_i xs ys e1 e2
      split at p
      · obtain ⟨vs, ev, rv⟩ := sm.cell l _ e1
        obtain ⟨ws, ew, rw'⟩ := sm.cell k _ e2
        have la := rv.len
        have lb := rw'.len
        refine op_cat pins s σ H _ _ v u Q I rx ry ⟨_, _, vs, ws, rfl, rfl, ev, ew, by omega, fun q hq => ?_⟩
        obtain ⟨n1, n2, n3⟩ := new_lst sm (rv.append rw') hq
        exact p _ _ _ n1 n2 n3
      · exact (p : False).elim
    · exact (p : False).elim
theorem tuple_mulS (l : Addr) (items : Array Value) (n : Nat) (dd : Option Addr) (sl : Array (Option Value)) (x : Int) (u : Tok) (c0 : (decide (x < -(2 ^ 63)) || decide (x ≥ 2 ^ 63)) = false) (c1 : (items.isEmpty || x == 1) = true) :
    Meets (Builtin.«tuple.__mul__» ⟨[.ref l, .int x u], []⟩) (fun _ R s => s.heap.get? l = some { cls := .type "tuple", dict := dd, data := .seq items n, slots := sl } ∧
      R (.ok (.ret (Value.ref l))) s) :=
  .of_wp fun prog w A R s h => by
    obtain ⟨hp, g, d, tk, os⟩ := s
    obtain ⟨hl, h⟩ := h
    have f1 := AutoSeq1.idx_int
    wp_walk using wpAny_loadPart' hl
    repeat (first
      | (refine wpAny_ite_false (decide_eq_false (by rw [c0]; exact Bool.false_ne_true)) ?_; wp_walk using wpAny_loadPart' hl)
      | (refine wpAny_ite_true (decide_eq_true (by rw [c1])) ?_; wp_walk using wpAny_loadPart' hl))
    exact ⟨_, rfl, h⟩
def rRepS (K : PySem.W.Frag) : R2 := fun x y H Q => ∃ l k xs, x = .ref l ∧ y = .int k ∧ SqT K H l xs ∧ (xs = [] ∨ k = 1) ∧ 1 ≤ k ∧ k ≤ 1000 ∧ Q (.ref l) H
theorem op_repS {X : Cx} : OpR X (binaryOp .Mult) (rRepS X.K) := by
  intro pins s σ H x y v u Q I rx ry h
  obtain ⟨l, k, xs, rfl, rfl, hT, hne, h1, h2, q⟩ := h
  cases rx
  obtain ⟨t, rfl⟩ := ry
  obtain ⟨its, r, ⟨⟨cls, dd, data, sl⟩, ho, hc, n, hd⟩, hs⟩ := I.tuple hT
  simp only at hc hd
  subst hc hd
  have hle : its.length = xs.length := r.length.symm
  have c0 : (decide (k < -(2 ^ 63)) || decide (k ≥ 2 ^ 63)) = false := by
    rw [decide_eq_false (by omega), decide_eq_false (by omega)] <;> rfl
  have c1 : (its.toArray.isEmpty || k == 1) = true := by
    rcases hne with e | e
    · subst e
      have : its = [] := List.eq_nil_of_length_eq_zero hle
      subst this; rfl
    · subst e; simp
  refine wpAny_binaryOp_repeat_ref (T := "tuple") (U := "int") (by decide) ⟨_, ho, rfl⟩ (fun s' => typeIs_int s' k t) noFill_tuple_mul F.fills_int_mul F.slot_int_rmul repeat_tuple F.slot_int_index.lookup
    (call_meets F.slot_int_rmul (typeIs_int s k t) F.entry_int_rmul (F.args_int_rmul_2 _ _) (int_rmul_tuple k t l its.toArray n dd sl)
      ⟨ho, rfl, ⟨_, ho, rfl⟩, call_meets F.slot_tuple_mul ⟨_, ho, rfl⟩ F.entry_tuple_mul (F.args_tuple_mul_2 _ _) (tuple_mulS l its.toArray n dd sl k t c0 c1) ⟨ho, ?_⟩⟩)
  exact ⟨.ref l, H, I, rfl, q⟩
theorem rep_one {α : Type} {xs : List α} {k : Int} (h1 : 1 ≤ k) (h : xs = [] ∨ k = 1) : (List.replicate k.toNat xs).flatten = xs := by
  rcases h with e | e
  · subst e
    generalize k.toNat = j
    induction j with
    | zero => rfl
    | succ j ih => rw [List.replicate_succ, List.flatten_cons, ih]; rfl
  · subst e; simp
theorem op_dMul : OpR X (binaryOp .Mult) (rB X.K T dMul) := by
  intro pins s σ H x y v u Q I rx ry ⟨m, S, a, b, sm, ra, rb, p⟩
  cases a <;> first | exact (p : False).elim | skip
  case int =>
    cases b <;> first | exact (p : False).elim | skip
    obtain rfl := ra.int_inv
    obtain rfl := rb.int_inv
    unfold dMul at p
    dsimp only at p
    split at p
    · exact op_mulW pins s σ H _ _ v u Q I rx ry ⟨_, _, rfl, rfl, ‹_›, PostO.here p sm Rep.int⟩
    · exact (p : False).elim
  case tup xs =>
    cases b <;> first | exact (p : False).elim | skip
    rename_i k
    obtain ⟨a, vs, rfl, qa, rra⟩ := ra.tup_inv
    obtain rfl := rb.int_inv
    unfold dMul at p
    dsimp only at p
    split at p
    · rename_i hz
      have la := rra.len
      by_cases hs : xs = [] ∨ k = 1
      · rw [rep_one hz.1.1 hs] at p
        refine op_repS pins s σ H _ _ v u Q I rx ry ⟨a, k, vs, rfl, rfl, tsq qa, hs.imp (fun e => ?_) id, hz.1.1, hz.1.2, p m _ _ Nx.refl sm (Rep.tup qa rra)⟩
        subst e
        exact List.length_eq_zero_iff.mp (by simpa using la)
      · have hne : xs ≠ [] ∧ k ≠ 1 := ⟨fun e => hs (.inl e), fun e => hs (.inr e)⟩
        refine op_repT pins s σ H _ _ v u Q I rx ry ⟨a, k, vs, rfl, rfl, tsq qa, fun e => hne.1 ?_, by have := hne.2; omega, hz.1.2, by omega, fun q hq => ?_⟩
        · subst e
          exact List.length_eq_zero_iff.mp (by simpa using la.symm)
        · refine p m _ _ (nx_aside hq) (sm.aside hq) (Rep.tup upd_same (RepL.mv (mv_fresh hq) ?_))
          generalize k.toNat = j
          induction j with
          | zero => exact RepL.nil
          | succ j ih => rw [List.replicate_succ, List.replicate_succ, List.flatten_cons, List.flatten_cons]; exact rra.append ih
    · exact (p : False).elim
theorem op_dDiv : OpR X (binaryOp .FloorDiv) (rB X.K T dDiv) := by
  intro pins s σ H x y v u Q I rx ry ⟨m, S, a, b, sm, ra, rb, p⟩
  cases a <;> first | exact (p : False).elim | skip
  cases b <;> first | exact (p : False).elim | skip
  obtain rfl := ra.int_inv
  obtain rfl := rb.int_inv
  unfold dDiv at p
  dsimp only at p
  split at p
  · exact op_fdivW pins s σ H _ _ v u Q I rx ry ⟨_, _, rfl, rfl, ‹_›, PostO.here p sm Rep.int⟩
  · exact (p : False).elim
theorem op_dMod : OpR X (binaryOp .Mod) (rB X.K T dMod) := by
  intro pins s σ H x y v u Q I rx ry ⟨m, S, a, b, sm, ra, rb, p⟩
  cases a <;> first | exact (p : False).elim | skip
  cases b <;> first | exact (p : False).elim | skip
  obtain rfl := ra.int_inv
  obtain rfl := rb.int_inv
  unfold dMod at p
  dsimp only at p
  split at p
  · exact op_mod pins s σ H _ _ v u Q I rx ry ⟨_, _, rfl, rfl, ‹_›, PostO.here p sm Rep.int⟩
  · exact (p : False).elim
theorem op_dPow : OpR X (binaryOp .Pow) (rB X.K T dPow) := by
  intro pins s σ H x y v u Q I rx ry ⟨m, S, a, b, sm, ra, rb, p⟩
  cases a <;> first | exact (p : False).elim | skip
  cases b <;> first | exact (p : False).elim | skip
  obtain rfl := ra.int_inv
  obtain rfl := rb.int_inv
  unfold dPow at p
  dsimp only at p
  split at p
  · exact op_pow pins s σ H _ _ v u Q I rx ry ⟨_, _, rfl, rfl, ‹_›, PostO.here p sm Rep.int⟩
  · exact (p : False).elim
theorem op_dNeg : UnR X (unaryOp .USub) (rU1 X.K T dNeg) := by
  intro pins s σ H x v Q I rx ⟨m, S, a, sm, ra, p⟩
  cases a <;> first | exact (p : False).elim | skip
  obtain rfl := ra.int_inv
  exact un_neg pins s σ H _ v Q I rx ⟨_, rfl, PostO.here p sm Rep.int⟩
/-! ### equality, order, is -/
/-- plain data as the library's plain data -/
def pyOf : Nat → Store → D → Option PyData
  | 0, _, _ => none
  | _ + 1, _, .non => some .none
  | _ + 1, _, .bl b => some (.bool b)
  | _ + 1, _, .int i => some (.int i)
  | _ + 1, _, .str x => some (.str x)
  | n + 1, S, .tup xs => (xs.mapM (pyOf n S)).map .tuple
  | n + 1, S, .loc l => match S[l]? with
    | some (.lst xs) => (xs.mapM (pyOf n S)).map .list
    | some (.ro xs) => (xs.mapM (pyOf n S)).map .list
    | _ => none
  | _ + 1, _, .kl _ _ => none
theorem py_all {K : PySem.W.Frag} {H : Hp} {P : D → Option PyData} : ∀ {xs : List D} {ds : List PyData} {m : Nat → Addr} {n : Nat} {vs : List V}, (∀ x d v, P x = some d → Rep K m n H x v → Dp K H v d) → xs.mapM P = some ds → RepL K m n H xs vs → DpAll K H vs ds
  | [], ds, m, n, vs, ih, e, r => by
    simp at e
    subst e
    obtain rfl := r.nil_inv
    exact .nil
  | x :: xs, ds, m, n, vs, ih, e, r => by
    obtain ⟨v, vs', rfl, r1, r2⟩ := r.cons_inv
    simp only [List.mapM_cons, Option.pure_def, Option.bind_eq_bind, Option.bind_eq_some_iff, Option.some.injEq] at e
    obtain ⟨d, e1, ds', e2, rfl⟩ := e
    exact .cons (ih x d v e1 r1) (py_all ih e2 r2)
theorem pyOf_ok {K : PySem.W.Frag} {m : Nat → Addr} {S : Store} {H : Hp} (sm : Sim K T m S H) : ∀ (n : Nat) {x : D} {d : PyData} {v : V}, pyOf n S x = some d → Rep K m S.length H x v → Dp K H v d
  | 0, x, d, v, e, r => by simp [pyOf] at e
  | n + 1, x, d, v, e, r => by
    cases x with
    | non => simp only [pyOf, Option.some.injEq] at e; subst e; obtain rfl := r.non_inv; exact .non
    | bl b => simp only [pyOf, Option.some.injEq] at e; subst e; obtain rfl := r.bl_inv; exact .bl b
    | int b => simp only [pyOf, Option.some.injEq] at e; subst e; obtain rfl := r.int_inv; exact .int b
    | str b => simp only [pyOf, Option.some.injEq] at e; subst e; obtain rfl := r.str_inv; exact .str b
    | tup xs =>
      simp only [pyOf, Option.map_eq_some_iff] at e
      obtain ⟨ds, e, rfl⟩ := e
      obtain ⟨a, vs, rfl, q, rr⟩ := r.tup_inv
      exact .tup (tsq q) (py_all (fun x d v e r => pyOf_ok sm n e r) e rr)
    | kl a xs => simp [pyOf] at e
    | loc l =>
      obtain ⟨hl, rfl⟩ := r.loc_inv
      simp only [pyOf] at e
      split at e
      · rename_i xs ec
        simp only [Option.map_eq_some_iff] at e
        obtain ⟨ds, e, rfl⟩ := e
        obtain ⟨vs, ev, rr⟩ := sm.cell l _ ec
        exact .lst (.inl (.inl ev)) (py_all (fun x d v e r => pyOf_ok sm n e r) e rr)
      · rename_i xs ec
        simp only [Option.map_eq_some_iff] at e
        obtain ⟨ds, e, rfl⟩ := e
        obtain ⟨vs, o, ev, rr⟩ := sm.cell l _ ec
        exact .lst (.inl (.inr ⟨o, ev⟩)) (py_all (fun x d v e r => pyOf_ok sm n e r) e rr)
      · cases e
def dEqB (a b : D) (S : Store) : Option Bool := match pyOf 20 S a, pyOf 20 S b with
  | some d, some e => if SeqAt.shaped d = true ∧ SeqAt.shaped e = true then some (PyData.eqv d e) else none
  | _, _ => none
def dEq : D → D → Store → Option (D × Store) := fun a b S => (dEqB a b S).map fun z => (.bl z, S)
def dNe : D → D → Store → Option (D × Store) := fun a b S => (dEqB a b S).map fun z => (.bl (!z), S)
theorem dEqB_cases {a b : D} {S : Store} {z : Bool} (h : dEqB a b S = some z) : ∃ d e, pyOf 20 S a = some d ∧ pyOf 20 S b = some e ∧ SeqAt.shaped d = true ∧ SeqAt.shaped e = true ∧ z = PyData.eqv d e := by
  unfold dEqB at h
  split at h
  · rename_i d e h1 h2
    split at h
    · rename_i hz
      exact ⟨d, e, h1, h2, hz.1, hz.2, (Option.some.inj h).symm⟩
    · cases h
  · cases h
theorem op_dEq (hu : X.A.units + 64 < cLine) : OpR X (compareOp .Eq) (rB X.K T dEq) := by
  intro pins s σ H x y v u Q I rx ry ⟨m, S, a, b, sm, ra, rb, p⟩
  unfold dEq at p
  cases e : dEqB a b S with
  | none => rw [e] at p; exact (p : False).elim
  | some z =>
    rw [e] at p
    obtain ⟨d, d2, h1, h2, s1, s2, rfl⟩ := dEqB_cases e
    exact op_eqD hu pins s σ H _ _ v u Q I rx ry ⟨d, d2, pyOf_ok sm _ h1 ra, pyOf_ok sm _ h2 rb, s1, s2, PostO.here p sm Rep.bl⟩
theorem op_dNe (hu : X.A.units + 64 < cLine) : OpR X (compareOp .NotEq) (rB X.K T dNe) := by
  intro pins s σ H x y v u Q I rx ry ⟨m, S, a, b, sm, ra, rb, p⟩
  unfold dNe at p
  cases e : dEqB a b S with
  | none => rw [e] at p; exact (p : False).elim
  | some z =>
    rw [e] at p
    obtain ⟨d, d2, h1, h2, s1, s2, rfl⟩ := dEqB_cases e
    exact op_neD hu pins s σ H _ _ v u Q I rx ry ⟨d, d2, pyOf_ok sm _ h1 ra, pyOf_ok sm _ h2 rb, s1, s2, PostO.here p sm Rep.bl⟩
def intsOf : List D → Option (List Int)
  | [] => some []
  | .int i :: r => (intsOf r).map (i :: ·)
  | _ :: _ => none
theorem intsOf_rep {K : PySem.W.Frag} {m : Nat → Addr} {n : Nat} {H : Hp} : ∀ {ds : List D} {ns : List Int} {vs : List V}, intsOf ds = some ns → RepL K m n H ds vs → vs = ns.map V.int
  | [], ns, vs, e, r => by
    simp only [intsOf, Option.some.injEq] at e
    subst e
    exact r.nil_inv
  | d :: ds, ns, vs, e, r => by
    obtain ⟨v, vs', rfl, r1, r2⟩ := r.cons_inv
    cases d <;> simp only [intsOf, reduceCtorEq] at e
    simp only [Option.map_eq_some_iff] at e
    obtain ⟨ms, e, rfl⟩ := e
    obtain rfl := r1.int_inv
    rw [intsOf_rep e r2]
    rfl
def leInts (ns ms : List Int) : Bool := Ob.lexAt (fun j => decide (ns.getD j 0 = ms.getD j 0)) (fun j => decide (ns.getD j 0 ≤ ms.getD j 0)) (decide (ns.length ≤ ms.length)) 0 (min ns.length ms.length)
def dLe : D → D → Store → Option (D × Store)
  | .int i, .int j, S => some (.bl (decide (i ≤ j)), S)
  | .tup xs, .tup ys, S => match intsOf xs, intsOf ys with
    | some ns, some ms => some (.bl (leInts ns ms), S)
    | _, _ => none
  | _, _, _ => none
def dLt : D → D → Store → Option (D × Store)
  | .int i, .int j, S => some (.bl (decide (i < j)), S)
  | .tup xs, .tup ys, S => match intsOf xs, intsOf ys with
    | some ns, some ms => some (.bl (HT.lexLt ns ms), S)
    | _, _ => none
  | _, _, _ => none
theorem op_dLe (hu : X.A.units < cLine) : OpR X (compareOp .LtE) (rB X.K T dLe) := by
  intro pins s σ H x y v u Q I rx ry ⟨m, S, a, b, sm, ra, rb, p⟩
  cases a <;> first | exact (p : False).elim | skip
  case int =>
    cases b <;> first | exact (p : False).elim | skip
    obtain rfl := ra.int_inv
    obtain rfl := rb.int_inv
    exact op_le pins s σ H _ _ v u Q I rx ry ⟨_, _, rfl, rfl, PostO.here p sm Rep.bl⟩
  case tup xs =>
    cases b <;> first | exact (p : False).elim | skip
    rename_i ys
    obtain ⟨a, vs, rfl, qa, rra⟩ := ra.tup_inv
    obtain ⟨b, ws, rfl, qb, rrb⟩ := rb.tup_inv
    unfold dLe at p
    dsimp only at p
    split at p
    · rename_i ns ms e1 e2
      rw [intsOf_rep e1 rra] at qa
      rw [intsOf_rep e2 rrb] at qb
      exact op_leT hu pins s σ H _ _ v u Q I rx ry ⟨a, b, ns, ms, rfl, rfl, tsq qa, tsq qb, PostO.here p sm Rep.bl⟩
    · exact (p : False).elim
theorem op_dLt (hu : X.A.units < cLine) : OpR X (compareOp .Lt) (rB X.K T dLt) := by
  intro pins s σ H x y v u Q I rx ry ⟨m, S, a, b, sm, ra, rb, p⟩
  cases a <;> first | exact (p : False).elim | skip
  case int =>
    cases b <;> first | exact (p : False).elim | skip
    obtain rfl := ra.int_inv
    obtain rfl := rb.int_inv
    exact op_lt pins s σ H _ _ v u Q I rx ry ⟨_, _, rfl, rfl, PostO.here p sm Rep.bl⟩
  case tup xs =>
    cases b <;> first | exact (p : False).elim | skip
    rename_i ys
    obtain ⟨a, vs, rfl, qa, rra⟩ := ra.tup_inv
    obtain ⟨b, ws, rfl, qb, rrb⟩ := rb.tup_inv
    unfold dLt at p
    dsimp only at p
    split at p
    · rename_i ns ms e1 e2
      rw [intsOf_rep e1 rra] at qa
      rw [intsOf_rep e2 rrb] at qb
      exact op_ltT hu pins s σ H _ _ v u Q I rx ry ⟨a, b, ns, ms, rfl, rfl, tsq qa, tsq qb, PostO.here p sm Rep.bl⟩
    · exact (p : False).elim
end
end G

set_option maxRecDepth 100000
set_option maxHeartbeats 4000000
namespace G
open PySem PySem.Spec PyProof.Rows L2 HotX
/-! # is, in, subscripts, slices, stores -/
def isNon : D → Bool
  | .non => true
  | _ => false
def dIsN : D → D → Store → Option (D × Store)
  | a, .non, S => some (.bl (isNon a), S)
  | _, _, _ => none
def dNotN : D → D → Store → Option (D × Store)
  | a, .non, S => some (.bl (!isNon a), S)
  | _, _, _ => none
theorem isNon_rep {K : PySem.W.Frag} {m : Nat → Addr} {n : Nat} {H : Hp} {a : D} {x : V} (r : Rep K m n H a x) : decide (x = .non) = isNon a := by
  cases a with
  | non => obtain rfl := r.non_inv; rfl
  | bl b => obtain rfl := r.bl_inv; rfl
  | int b => obtain rfl := r.int_inv; rfl
  | str b => obtain rfl := r.str_inv; rfl
  | tup xs => obtain ⟨a, vs, rfl, _⟩ := r.tup_inv; rfl
  | loc l => obtain ⟨_, rfl⟩ := r.loc_inv; rfl
  | kl a xs => obtain ⟨rfl, _⟩ := r.kl_inv; rfl
def keyOf : D → Option Key
  | .int i => some (.inl i)
  | .str z => some (.inr z)
  | _ => none
def keysOf : List D → Option (List Key)
  | [] => some []
  | d :: ds => match keyOf d, keysOf ds with
    | some k, some ks => some (k :: ks)
    | _, _ => none
section
variable {X : Cx} {T : Tz}
theorem op_dIsN : OpR X (compareOp .Is) (rB X.K T dIsN) := by
  intro pins s σ H x y v u Q I rx ry ⟨m, S, a, b, sm, ra, rb, p⟩
  cases b <;> first | exact (p : False).elim | skip
  obtain rfl := rb.non_inv
  exact op_isN pins s σ H _ _ v u Q I rx ry ⟨rfl, by rw [isNon_rep ra]; exact PostO.here p sm Rep.bl⟩
theorem op_dNotN : OpR X (compareOp .IsNot) (rB X.K T dNotN) := by
  intro pins s σ H x y v u Q I rx ry ⟨m, S, a, b, sm, ra, rb, p⟩
  cases b <;> first | exact (p : False).elim | skip
  obtain rfl := rb.non_inv
  exact op_notN pins s σ H _ _ v u Q I rx ry ⟨rfl, by rw [isNon_rep ra]; exact PostO.here p sm Rep.bl⟩
theorem keyOf_rep {K : PySem.W.Frag} {m : Nat → Addr} {n : Nat} {H : Hp} {a : D} {x : V} {k : Key} (e : keyOf a = some k) (r : Rep K m n H a x) : x = kV k := by
  cases a <;> simp only [keyOf, reduceCtorEq, Option.some.injEq] at e
  · subst e; obtain rfl := r.int_inv; rfl
  · subst e; obtain rfl := r.str_inv; rfl
theorem keysOf_rep {K : PySem.W.Frag} {m : Nat → Addr} {n : Nat} {H : Hp} : ∀ {ds : List D} {vs : List V} {ks : List Key}, keysOf ds = some ks → RepL K m n H ds vs → vs = ks.map kV
  | [], vs, ks, e, r => by simp only [keysOf, Option.some.injEq] at e; subst e; exact r.nil_inv
  | d :: ds, vs, ks, e, r => by
    obtain ⟨v, vs', rfl, r1, r2⟩ := r.cons_inv
    simp only [keysOf] at e
    split at e
    · rename_i k ks' e1 e2
      simp only [Option.some.injEq] at e
      subst e
      rw [keyOf_rep e1 r1, keysOf_rep e2 r2]; rfl
    · cases e
/-! ### x in y -/
def inSeq (a : D) (xs : List D) (S : Store) : Option Bool := match pyOf 20 S a, xs.mapM (pyOf 20 S) with
  | some d, some ds => if SeqAt.shaped d = true ∧ SeqAt.shaped (.list ds) = true then some (ds.any fun z => PyData.eqv z d) else none
  | _, _ => none
def inB (a b : D) (S : Store) : Option Bool := match b with
  | .tup xs => inSeq a xs S
  | .loc l => match S[l]? with
    | some (.lst xs) => inSeq a xs S
    | some (.ro xs) => inSeq a xs S
    | some (.dK kvs) => (keyOf a).map fun k => kvs.any fun kv => decide (kv.1 = k)
    | some (.dT kvs) => match a with
      | .tup ys => (keysOf ys).map fun k => kvs.any fun kv => decide (kv.1 = k)
      | _ => none
    | none => none
  | _ => none
def dIn : D → D → Store → Option (D × Store) := fun a b S => (inB a b S).map fun z => (.bl z, S)
def dNotIn : D → D → Store → Option (D × Store) := fun a b S => (inB a b S).map fun z => (.bl (!z), S)
theorem inSeq_cases {a : D} {xs : List D} {S : Store} {z : Bool} (h : inSeq a xs S = some z) : ∃ d ds, pyOf 20 S a = some d ∧ xs.mapM (pyOf 20 S) = some ds ∧ SeqAt.shaped d = true ∧ SeqAt.shaped (.list ds) = true ∧ z = ds.any fun z => PyData.eqv z d := by
  unfold inSeq at h
  split at h
  · rename_i d ds h1 h2
    split at h
    · rename_i hz
      exact ⟨d, ds, h1, h2, hz.1, hz.2, (Option.some.inj h).symm⟩
    · cases h
  · cases h
theorem any_rep {κ : Type} [DecidableEq κ] {K : PySem.W.Frag} {m : Nat → Addr} {n : Nat} {H : Hp} {k : κ} : ∀ {ds : List (κ × D)} {vs : List (κ × V)}, RepK K m n H ds vs → (ds.any fun kv => decide (kv.1 = k)) = (valV vs k).isSome
  | [], vs, h => by have e : vs = [] := h; subst e; rfl
  | (k', d) :: ds, vs, h => by
    obtain ⟨v, vs', rfl, _, r⟩ := h
    rw [← valV_any, List.any_cons, List.any_cons, any_rep r, valV_any]
inductive InCase (K : PySem.W.Frag) (T : Tz) (H : Hp) (x y : V) : Bool → Prop where
  | lst {d : PyData} {ds : List PyData} (h1 : Dp K H x d) (h2 : Dp K H y (.list ds)) (s1 : SeqAt.shaped d = true) (s2 : SeqAt.shaped (.list ds) = true) : InCase K T H x y (ds.any fun z => PyData.eqv z d)
  | tup {d : PyData} {ds : List PyData} (h1 : Dp K H x d) (h2 : Dp K H y (.tuple ds)) (s1 : SeqAt.shaped d = true) (s2 : SeqAt.shaped (.list ds) = true) : InCase K T H x y (ds.any fun z => PyData.eqv z d)
  | dct {a : Addr} {o : Option V} (h : y = .ref a) (g : DGet H a x o) : InCase K T H x y o.isSome
theorem in_case {K : PySem.W.Frag} {m : Nat → Addr} {S : Store} {H : Hp} {a b : D} {x y : V} {z : Bool} (sm : Sim K T m S H) (ra : Rep K m S.length H a x) (rb : Rep K m S.length H b y) (h : inB a b S = some z) : InCase K T H x y z := by
  cases b <;> simp only [inB, reduceCtorEq] at h
  case tup xs =>
    obtain ⟨d, ds, h1, h2, s1, s2, rfl⟩ := inSeq_cases h
    obtain ⟨a, vs, rfl, q, rr⟩ := rb.tup_inv
    exact .tup (pyOf_ok sm _ h1 ra) (.tup (tsq q) (py_all (fun x d v e r => pyOf_ok sm _ e r) h2 rr)) s1 s2
  case loc l =>
    obtain ⟨hl, rfl⟩ := rb.loc_inv
    split at h
    · rename_i xs e
      obtain ⟨d, ds, h1, h2, s1, s2, rfl⟩ := inSeq_cases h
      obtain ⟨vs, ev, rr⟩ := sm.cell l _ e
      exact .lst (pyOf_ok sm _ h1 ra) (.lst (.inl (.inl ev)) (py_all (fun x d v e r => pyOf_ok sm _ e r) h2 rr)) s1 s2
    · rename_i xs e
      obtain ⟨d, ds, h1, h2, s1, s2, rfl⟩ := inSeq_cases h
      obtain ⟨vs, o, ev, rr⟩ := sm.cell l _ e
      exact .lst (pyOf_ok sm _ h1 ra) (.lst (.inl (.inr ⟨o, ev⟩)) (py_all (fun x d v e r => pyOf_ok sm _ e r) h2 rr)) s1 s2
    · rename_i kvs e
      obtain ⟨vs, ev, rr⟩ := sm.cell l _ e
      simp only [Option.map_eq_some_iff] at h
      obtain ⟨k, ek, rfl⟩ := h
      rw [any_rep rr]
      exact .dct rfl (.inl ⟨vs, k, .inl ev, keyOf_rep ek ra, rfl⟩)
    · rename_i kvs e
      obtain ⟨vs, ev, rr⟩ := sm.cell l _ e
      cases a <;> simp only [reduceCtorEq] at h
      simp only [Option.map_eq_some_iff] at h
      obtain ⟨k, ek, rfl⟩ := h
      obtain ⟨b, ws, rfl, q, r2⟩ := ra.tup_inv
      rw [any_rep rr]
      have eb : H b = some (.tup (k.map kV)) := by rw [← keysOf_rep ek r2]; exact q
      exact .dct rfl (.inr ⟨vs, k, b, .inl ev, rfl, eb, rfl⟩)
    · cases h
theorem op_dIn (hu : X.A.units + 65 < cLine) : OpR X (compareOp .In) (rB X.K T dIn) := by
  intro pins s σ H x y v u Q I rx ry ⟨m, S, a, b, sm, ra, rb, p⟩
  unfold dIn at p
  cases e : inB a b S with
  | none => rw [e] at p; exact (p : False).elim
  | some z =>
    rw [e] at p
    have q : Q (.bl z) H := PostO.here p sm Rep.bl
    cases in_case sm ra rb e with
    | lst h1 h2 s1 s2 => exact op_inD hu pins s σ H _ _ v u Q I rx ry ⟨_, _, h1, h2, s1, s2, q⟩
    | tup h1 h2 s1 s2 =>
      obtain ⟨as, r1⟩ := Dp.reads I _ x v h1 rx
      obtain ⟨bs, r2⟩ := Dp.reads I _ y u h2 ry
      exact SeqAt.in_tuple_reads r2 r1 (SeqAt.canLay_of_shaped s2) (SeqAt.canLay_of_shaped s1) (room_in_shaped s1 hu) ⟨.bl _, H, I, rfl, q⟩
    | dct h g =>
      subst h
      cases ry
      exact d_in (by omega) I g rx fun s' J => ⟨.bl _, H, J, rfl, q⟩
theorem op_dNotIn (hu : X.A.units + 65 < cLine) : OpR X (compareOp .NotIn) (rB X.K T dNotIn) := by
  intro pins s σ H x y v u Q I rx ry ⟨m, S, a, b, sm, ra, rb, p⟩
  unfold dNotIn at p
  cases e : inB a b S with
  | none => rw [e] at p; exact (p : False).elim
  | some z =>
    rw [e] at p
    have q : Q (.bl (!z)) H := PostO.here p sm Rep.bl
    cases in_case sm ra rb e with
    | lst h1 h2 s1 s2 => exact op_notInD hu pins s σ H _ _ v u Q I rx ry ⟨_, _, h1, h2, s1, s2, q⟩
    | tup h1 h2 s1 s2 =>
      obtain ⟨as, r1⟩ := Dp.reads I _ x v h1 rx
      obtain ⟨bs, r2⟩ := Dp.reads I _ y u h2 ry
      exact SeqAt.notIn_tuple_reads r2 r1 (SeqAt.canLay_of_shaped s2) (SeqAt.canLay_of_shaped s1) (room_in_shaped s1 hu) ⟨.bl _, H, I, rfl, q⟩
    | dct h g =>
      subst h
      cases ry
      exact d_notIn (by omega) I g rx fun s' J => ⟨.bl _, H, J, rfl, q⟩
/-! ### a[i] -/
def dIx : D → D → Store → Option (D × Store)
  | .tup xs, .int i, S => (atI xs i).map fun d => (d, S)
  | .loc l, .int i, S => match S[l]? with
    | some (.lst xs) => (atI xs i).map fun d => (d, S)
    | some (.ro xs) => (atI xs i).map fun d => (d, S)
    | _ => none
  | .kl _ xs, .int i, S => (atI xs i).map fun d => (.int d, S)
  | _, _, _ => none
theorem atI_rep {K : PySem.W.Frag} {m : Nat → Addr} {n : Nat} {H : Hp} {xs : List D} {vs : List V} {i : Int} {d : D} (r : RepL K m n H xs vs) (e : atI xs i = some d) : ∃ v, atI vs i = some v ∧ Rep K m n H d v := by
  unfold atI at e ⊢
  rw [r.len]
  cases e2 : ixN xs.length i with
  | none => rw [e2] at e; cases e
  | some j =>
    rw [e2] at e
    obtain ⟨v, h1, h2⟩ := r.get (show xs[j]? = some d from e)
    exact ⟨v, h1, h2⟩
theorem ix_d : IxR X (rB X.K T dIx) := by
  intro value slice pins s σ H x y v u Q I rx ry ⟨m, S, a, b, sm, ra, rb, p⟩ hs
  cases a <;> first | exact (p : False).elim | skip
  case tup xs =>
    cases b <;> first | exact (p : False).elim | skip
    obtain rfl := rb.int_inv
    obtain ⟨a, vs, rfl, q, rr⟩ := ra.tup_inv
    unfold dIx at p
    dsimp only at p
    cases e : atI xs _ with
    | none => rw [e] at p; exact (p : False).elim
    | some d =>
      rw [e] at p
      obtain ⟨w, h1, h2⟩ := atI_rep rr e
      exact ix_tup value slice pins s σ H _ _ v u Q I rx ry ⟨_, _, _, _, rfl, rfl, tsq q, h1, PostO.here p sm h2⟩ hs
  case loc l =>
    cases b <;> first | exact (p : False).elim | skip
    obtain rfl := rb.int_inv
    obtain ⟨hl, rfl⟩ := ra.loc_inv
    unfold dIx at p
    dsimp only at p
    split at p
    · rename_i xs ec
      cases e : atI xs _ with
      | none => rw [e] at p; exact (p : False).elim
      | some d =>
        rw [e] at p
        obtain ⟨vs, ev, rr⟩ := sm.cell l _ ec
        obtain ⟨w, h1, h2⟩ := atI_rep rr e
        exact ix_list value slice pins s σ H _ _ v u Q I rx ry ⟨_, _, _, _, rfl, rfl, .inl (.inl ev), h1, PostO.here p sm h2⟩ hs
    · rename_i xs ec
      cases e : atI xs _ with
      | none => rw [e] at p; exact (p : False).elim
      | some d =>
        rw [e] at p
        obtain ⟨vs, o, ev, rr⟩ := sm.cell l _ ec
        obtain ⟨w, h1, h2⟩ := atI_rep rr e
        exact ix_list value slice pins s σ H _ _ v u Q I rx ry ⟨_, _, _, _, rfl, rfl, .inl (.inr ⟨o, ev⟩), h1, PostO.here p sm h2⟩ hs
    · exact (p : False).elim
  case kl a xs =>
    cases b <;> first | exact (p : False).elim | skip
    rename_i i0
    obtain rfl := rb.int_inv
    obtain ⟨rfl, hk⟩ := ra.kl_inv
    unfold dIx at p
    dsimp only at p
    cases e : atI xs i0 with
    | none => rw [e] at p; exact (p : False).elim
    | some d =>
      rw [e] at p
      have h1 : atI (xs.map V.int) i0 = some (V.int d) := by
        unfold atI at e ⊢
        rw [List.length_map]
        cases e2 : ixN xs.length i0 with
        | none => rw [e2] at e; cases e
        | some j =>
          rw [e2] at e
          have e3 : xs[j]? = some d := e
          show (xs.map V.int)[j]? = _
          rw [List.getElem?_map, e3]; rfl
      exact ix_list value slice pins s σ H _ _ v u Q I rx ry ⟨_, _, _, _, rfl, rfl, .inr hk, h1, PostO.here p sm Rep.int⟩ hs
end
section
variable {X : Cx} {T : Tz} {ca : Nat → Addr} {W : WX}
theorem ve_ix {a b : Expr} {fa fb : F} {pos : Pos} (ha : VE X T ca W a fa) (hb : VE X T ca W b fb) (hs : PlainIx b) : VE X T ca W (.Subscript a b pos) (fB2 dIx fa fb) :=
  pe_imp (pe_ix ix_d ha hb hs) fun σ H Q h => t_b2 h
/-! ### a[lo:hi] -/
def cutD (xs : List D) (lo hi : Option Int) : List D := (xs.drop (HT.sIx xs.length 0 lo)).take (HT.sIx xs.length xs.length hi - HT.sIx xs.length 0 lo)
def dSl (a : D) (lo hi : Option Int) (S : Store) : Option (D × Store) := match a with
  | .tup xs => some (.tup (cutD xs lo hi), S)
  | .loc l => match S[l]? with
    | some (.lst xs) => some (.loc S.length, S ++ [.lst (cutD xs lo hi)])
    | some (.ro xs) => some (.loc S.length, S ++ [.lst (cutD xs lo hi)])
    | _ => none
  | _ => none
theorem cut_rep {K : PySem.W.Frag} {m : Nat → Addr} {n : Nat} {H : Hp} {xs : List D} {vs : List V} (lo hi : Option Int) (r : RepL K m n H xs vs) : RepL K m n H (cutD xs lo hi) (cutV vs lo hi) := by
  unfold cutD cutV
  rw [r.len]
  exact (r.drop _).take _
abbrev FO := Env → Store → R (Option Int)
def oNo : FO := fun _ S => .ok none S
def oSo (f : F) : FO := fun ρ S => (f ρ S).bind fun d S1 => match d with
  | .int i => .ok (some i) S1
  | _ => .bad
def tOF (K : PySem.W.Frag) (T : Tz) (ca : Nat → Addr) (W : WX) (f : FO) : TO := fun σ H Q => ∃ m ρ S, Sim K T m S H ∧ EnvOk K T m S.length H ρ σ ∧ Post K T ca W (f ρ S) m S H σ (fun _ _ _ a b => a = b) Q
theorem po_imp {X : Cx} {e : Option Expr} {t t' : TO} (h : PO X e t) (q : ∀ σ H Q, t' σ H Q → t σ H Q) : PO X e t' := ⟨fun pins s σ H Q I z => h.run pins s σ H Q I (q σ H Q z)⟩
abbrev VO (X : Cx) (T : Tz) (ca : Nat → Addr) (W : WX) (e : Option Expr) (f : FO) : Prop := PO X e (tOF X.K T ca W f)
theorem vo_no : VO X T ca W none oNo := po_imp po_none fun σ H Q ⟨m, ρ, S, sm, en, p⟩ => Post.here p sm rfl
theorem vo_so {e : Expr} {f : F} (h : VE X T ca W e f) : VO X T ca W (some e) (oSo f) := po_imp (po_some h) fun σ H Q ⟨m, ρ, S, sm, en, p⟩ => by
  refine tV_mono (tV_bind sm en p) fun x H1 ⟨m1, S1, d, nx, sm1, en1, r, q⟩ => ?_
  cases d with
  | int i => exact ⟨i, r.int_inv, Post.here q sm1 rfl⟩
  | _ => exact q.elim
def fSl (f : F) (lo hi : FO) : F := fun ρ S => (f ρ S).bind fun d S1 => (lo ρ S1).bind fun l S2 => (hi ρ S2).bind fun h S3 => ofO (dSl d l h S3)
theorem tO_bind {f : FO} {σ : St} {H : Hp} {α β : Type} {g : Option Int → Store → R α} {ra : RA α β} {m : Nat → Addr} {ρ : Env} {S : Store} {Q : β → Hp → Prop} (sm : Sim X.K T m S H) (en : EnvOk X.K T m S.length H ρ σ) (p : Post X.K T ca W ((f ρ S).bind g) m S H σ ra Q) :
    tOF X.K T ca W f σ H fun x H1 => ∃ m1 S1, Nx m S.length H m1 S1.length H1 ∧ Sim X.K T m1 S1 H1 ∧ EnvOk X.K T m1 S1.length H1 ρ σ ∧ Post X.K T ca W (g x S1) m1 S1 H1 σ ra Q :=
  ⟨m, ρ, S, sm, en, (Post.bind p).mono fun x H1 ⟨m1, S1, d, nx, sm1, r, q⟩ => by
    have r' : d = x := r
    subst r'
    exact ⟨m1, S1, nx, sm1, en.mv (nx.mv sm), q⟩⟩
theorem tO_mono {f : FO} {σ : St} {H : Hp} {Q Q' : Option Int → Hp → Prop} (h : tOF X.K T ca W f σ H Q) (q : ∀ v H', Q v H' → Q' v H') : tOF X.K T ca W f σ H Q' :=
  let ⟨m, ρ, S, sm, en, p⟩ := h; ⟨m, ρ, S, sm, en, p.mono q⟩
def rS (K : PySem.W.Frag) (T : Tz) : V → Option Int → Option Int → Hp → VK → Prop := fun x lo hi H Q => ∃ m S a, Sim K T m S H ∧ Rep K m S.length H a x ∧ PostO K T (dSl a lo hi S) m S H (Rep K) Q
theorem sl_d : SlR X (rS X.K T) := by
  intro pins s σ H x v vl vu lo hi sl Q I rx hs pl pu ⟨m, S, a, sm, ra, p⟩
  cases a <;> first | exact (p : False).elim | skip
  case tup xs =>
    obtain ⟨a, vs, rfl, q, rr⟩ := ra.tup_inv
    have cr := cut_rep lo hi rr
    refine sl_tupA pins s σ H _ v vl vu lo hi sl Q I rx hs pl pu ⟨a, vs, rfl, tsq q, fun ⟨e1, e2⟩ => ?_, fun _ p' hp => ?_⟩
    · have ec : cutD xs lo hi = xs := by
        unfold cutD
        rw [rr.len] at e1 e2
        rw [e1, e2, List.drop_zero, Nat.sub_zero, List.take_length]
      have p2 : PostO X.K T (some (D.tup (cutD xs lo hi), S)) m S H (Rep X.K) Q := p
      rw [ec] at p2
      exact PostO.here p2 sm (Rep.tup q rr)
    · exact p m _ _ (nx_aside hp) (sm.aside hp) (Rep.tup upd_same (cr.mv (mv_fresh hp)))
  case loc l =>
    obtain ⟨hl, rfl⟩ := ra.loc_inv
    unfold dSl at p
    dsimp only at p
    split at p
    · rename_i xs ec
      obtain ⟨vs, ev, rr⟩ := sm.cell l _ ec
      refine sl_list pins s σ H _ v vl vu lo hi sl Q I rx hs pl pu ⟨_, vs, rfl, .inl (.inl ev), fun p' hp => ?_⟩
      obtain ⟨n1, n2, n3⟩ := new_lst sm (cut_rep lo hi rr) hp
      exact p _ _ _ n1 n2 n3
    · rename_i xs ec
      obtain ⟨vs, o, ev, rr⟩ := sm.cell l _ ec
      refine sl_list pins s σ H _ v vl vu lo hi sl Q I rx hs pl pu ⟨_, vs, rfl, .inl (.inr ⟨o, ev⟩), fun p' hp => ?_⟩
      obtain ⟨n1, n2, n3⟩ := new_lst sm (cut_rep lo hi rr) hp
      exact p _ _ _ n1 n2 n3
    · exact (p : False).elim
theorem ve_sl {e : Expr} {lo hi : Option Expr} {f : F} {fl fh : FO} {p2 pos : Pos} (he : VE X T ca W e f) (hl : VO X T ca W lo fl) (hh : VO X T ca W hi fh) : VE X T ca W (.Subscript e (.Slice lo hi none p2) pos) (fSl f fl fh) :=
  pe_imp (pe_slice (sl_d (T := T)) he hl hh) fun σ H Q ⟨m, ρ, S, sm, en, p⟩ => by
    refine tV_mono (tV_bind sm en p) fun x H1 ⟨m1, S1, d, nx, sm1, en1, r, q⟩ => ?_
    refine tO_mono (tO_bind sm1 en1 q) fun l H2 ⟨m2, S2, nx2, sm2, en2, q2⟩ => ?_
    refine tO_mono (tO_bind sm2 en2 q2) fun h H3 ⟨m3, S3, nx3, sm3, en3, q3⟩ => ?_
    exact ⟨m3, S3, d, sm3, (r.mv (nx2.mv sm1)).mv (nx3.mv sm2), q3.ofO⟩
/-! ### a[i] = v -/
def dSet (o i v : D) (S : Store) : Option Store := match o with
  | .loc l => match S[l]? with
    | some (.lst xs) => match i with
      | .int k => (ixN xs.length k).map fun j => S.set l (.lst (xs.set j v))
      | _ => none
    | some (.dK kvs) => match keyOf i with
      | some k => if kvs.length < sizeLine then some (S.set l (.dK (putD kvs k v))) else none
      | none => none
    | some (.dT kvs) => match i with
      | .tup ys => match keysOf ys with
        | some k => if kvs.length < sizeLine then some (S.set l (.dT (putD kvs k v))) else none
        | none => none
      | _ => none
    | _ => none
  | _ => none
where putD {κ : Type} [DecidableEq κ] (kvs : List (κ × D)) (k : κ) (v : D) : List (κ × D) := if (kvs.any fun kv => decide (kv.1 = k)) = true then kvs.map fun kv => if kv.1 = k then (kv.1, v) else kv else kvs ++ [(k, v)]
end
end G

set_option maxRecDepth 100000
set_option maxHeartbeats 4000000
namespace G
open PySem PySem.Spec PyProof.Rows L2 HotX
/-! # stores, methods, calls -/
section
variable {X : Cx} {T : Tz} {ca : Nat → Addr} {W : WX}
theorem put_rep {κ : Type} [DecidableEq κ] {K : PySem.W.Frag} {m : Nat → Addr} {n : Nat} {H : Hp} {k : κ} {d : D} {v : V} {ds : List (κ × D)} {vs : List (κ × V)} (r : RepK K m n H ds vs) (rv : Rep K m n H d v) : RepK K m n H (dSet.putD ds k d) (putK vs k v) := by
  have e : (ds.any fun kv => decide (kv.1 = k)) = (vs.any fun kv => decide (kv.1 = k)) := by rw [any_rep r, valV_any]
  unfold dSet.putD putK
  rw [e]
  split
  · clear e
    rename_i hx
    clear hx
    induction ds generalizing vs with
    | nil => have e : vs = [] := r; subst e; exact rfl
    | cons p ds ih =>
      obtain ⟨k', d'⟩ := p
      obtain ⟨v', vs', rfl, q, r'⟩ := r
      rw [List.map_cons, List.map_cons]
      by_cases z : k' = k
      · simp only [if_pos z]
        exact ⟨v, _, rfl, rv, ih r'⟩
      · simp only [if_neg z]
        exact ⟨v', _, rfl, q, ih r'⟩
  · clear e
    rename_i hx
    clear hx
    induction ds generalizing vs with
    | nil => have e : vs = [] := r; subst e; exact ⟨v, [], rfl, rv, rfl⟩
    | cons p ds ih =>
      obtain ⟨k', d'⟩ := p
      obtain ⟨v', vs', rfl, q, r'⟩ := r
      exact ⟨v', _, rfl, q, ih r'⟩
theorem RepK.mv' {κ : Type} {K : PySem.W.Frag} {m m' : Nat → Addr} {n n' : Nat} {H H' : Hp} (x : Mv K m n H m' n' H') {ds : List (κ × D)} {vs : List (κ × V)} (r : RepK K m n H ds vs) : RepK K m' n' H' ds vs := r.mv x
/-- the list's cell is written -/
theorem set_lst {K : PySem.W.Frag} {m : Nat → Addr} {S : Store} {H : Hp} {l : Nat} {xs ys : List D} {vs ws : List V} (sm : Sim K T m S H) (hl : l < S.length) (ev : H (m l) = some (.lst vs)) (r : RepL K m S.length H ys ws) :
    Nx m S.length H m (S.set l (.lst ys)).length (upd H (m l) (.lst ws)) ∧ Sim K T m (S.set l (.lst ys)) (upd H (m l) (.lst ws)) := by
  rw [List.length_set]
  exact ⟨nx_set hl ev, sm.set hl ev (.inl ⟨_, rfl⟩) ⟨ws, upd_same, r.mv (sm.set_mv ev (.inl ⟨_, rfl⟩))⟩⟩
def rT (K : PySem.W.Frag) (T : Tz) : TSet := fun o i v H Q => ∃ m S a b d, Sim K T m S H ∧ Rep K m S.length H a o ∧ Rep K m S.length H b i ∧ Rep K m S.length H d v ∧
  match dSet a b d S with
  | some S' => ∀ H', Nx m S.length H m S'.length H' → Sim K T m S' H' → Q H'
  | none => False
theorem set_d (hu : X.A.units + 1 < cLine) : PSet X (rT X.K T) := by
  intro pins s σ H o i v ov iv u Q I ro ri rv ⟨m, S, a, b, d, sm, ra, rb, rd, p⟩
  cases a <;> first | exact (p : False).elim | skip
  obtain ⟨hl, rfl⟩ := ra.loc_inv
  rename_i l
  cases ec : S[l]? with
  | none => simp only [dSet, ec] at p
  | some c =>
    cases c with
    | lst xs =>
      simp only [dSet, ec] at p
      cases b <;> first | exact (p : False).elim | skip
      rename_i k
      obtain rfl := rb.int_inv
      dsimp only at p
      cases ej : ixN xs.length k with
      | none => rw [ej] at p; exact (p : False).elim
      | some j =>
        rw [ej] at p
        obtain ⟨vs, ev, rr⟩ := sm.cell l _ ec
        refine set_list pins s σ H _ _ v ov iv u Q I ro ri rv ⟨_, vs, k, j, rfl, rfl, ev, by rw [rr.len]; exact ej, ?_⟩
        obtain ⟨n1, n2⟩ := set_lst (xs := xs) sm hl ev (rr.set j rd)
        exact p _ n1 n2
    | ro xs => simp only [dSet, ec] at p
    | dK kvs =>
      simp only [dSet, ec] at p
      obtain ⟨vs, ev, rr⟩ := sm.cell l _ ec
      split at p
      · rename_i S' hS
        split at hS
        · rename_i k ek
          split at hS
          · rename_i hz
            cases hS
            have e := rr.len
            refine set_dict hu pins s σ H _ _ v ov iv u Q I ro ri rv ⟨_, _, rfl, .inl ⟨vs, k, ev, keyOf_rep ek rb, by omega, rfl⟩, ?_⟩
            refine p _ ?_ (sm.set hl ev (.inr (.inl ⟨_, rfl⟩)) ⟨_, upd_same, (put_rep rr rd).mv (sm.set_mv ev (.inr (.inl ⟨_, rfl⟩)))⟩)
            rw [List.length_set]
            exact nx_set hl ev
          · cases hS
        · cases hS
      · exact p.elim
    | dT kvs =>
      simp only [dSet, ec] at p
      obtain ⟨vs, ev, rr⟩ := sm.cell l _ ec
      cases b <;> first | exact (p : False).elim | skip
      rename_i ys
      dsimp only at p
      split at p
      · rename_i S' hS
        split at hS
        · rename_i k ek
          split at hS
          · rename_i hz
            cases hS
            have e := rr.len
            obtain ⟨b, ws, rfl, q, r2⟩ := rb.tup_inv
            have eb : H b = some (.tup (k.map kV)) := by rw [← keysOf_rep ek r2]; exact q
            refine set_dict hu pins s σ H _ _ v ov iv u Q I ro ri rv ⟨_, _, rfl, .inr ⟨vs, k, b, ev, rfl, eb, by omega, rfl⟩, ?_⟩
            refine p _ ?_ (sm.set hl ev (.inr (.inr ⟨_, rfl⟩)) ⟨_, upd_same, (put_rep rr rd).mv (sm.set_mv ev (.inr (.inr ⟨_, rfl⟩)))⟩)
            rw [List.length_set]
            exact nx_set hl ev
          · cases hS
        · cases hS
      · exact p.elim
def gSb (fo fi : F) : FG := fun d ρ S => (fo ρ S).bind fun o S1 => (fi ρ S1).bind fun i S2 => match dSet o i d S2 with
  | some S3 => .ok ρ S3
  | none => .bad
theorem vg_sub {o i : Expr} {fo fi : F} {pos : Pos} (hu : X.A.units + 1 < cLine) (ho : VE X T ca W o fo) (hi : VE X T ca W i fi)
    (ha : ∀ v, assign (.Subscript o i pos) X.env v = (do
      let ov ← holding [v] (eval o X.env)
      let iv ← holding [v, ov] (eval i X.env)
      standAt pos
      holding [v, ov, iv] (setItem ov iv v)
      release [v, ov, iv] [])) : VG X T ca W (.Subscript o i pos) (gSb fo fi) :=
  pg_imp (pg_sub ho hi (set_d (T := T) hu) ha) fun v σ H Q ⟨m, ρ, S, d, sm, en, r, p⟩ => by
    refine tV_mono (tV_bind sm en p) fun x H1 ⟨m1, S1, o, nx, sm1, en1, r1, q⟩ => ?_
    refine tV_mono (tV_bind sm1 en1 q) fun y H2 ⟨m2, S2, i, nx2, sm2, en2, r2, q2⟩ => ?_
    refine ⟨m2, S2, o, i, d, sm2, r1.mv (nx2.mv sm1), r2, (r.mv (nx.mv sm)).mv (nx2.mv sm1), ?_⟩
    cases e : dSet o i d S2 with
    | none => rw [e] at q2; exact q2.elim
    | some S3 =>
      rw [e] at q2
      exact fun H' nx3 sm3 => q2 m2 H' σ nx3 sm3 (en2.mv (nx3.mv sm2))
/-! ### methods -/
def tyD (T : String) : D → Store → Bool
  | .str _, _ => T == "str"
  | .int _, _ => T == "int"
  | .loc l, S => match S[l]? with
    | some (.lst _) => T == "list"
    | some (.ro _) => T == "list"
    | some (.dK _) => T == "dict"
    | some (.dT _) => T == "dict"
    | none => false
  | _, _ => false
theorem tyD_ok {K : PySem.W.Frag} {m : Nat → Addr} {S : Store} {H : Hp} {Tn : String} {d : D} {x : V} (sm : Sim K T m S H) (r : Rep K m S.length H d x) (h : tyD Tn d S = true) : tyV K Tn x H := by
  cases d <;> simp only [tyD, Bool.false_eq_true, beq_iff_eq] at h
  case int i => obtain rfl := r.int_inv; exact h
  case str i => obtain rfl := r.str_inv; exact h
  case loc l =>
    obtain ⟨hl, rfl⟩ := r.loc_inv
    split at h
    · rename_i xs e
      obtain ⟨vs, ev, _⟩ := sm.cell l _ e
      exact .inl ⟨eq_of_beq h, _, .inl (.inl ev)⟩
    · rename_i xs e
      obtain ⟨vs, o, ev, _⟩ := sm.cell l _ e
      exact .inl ⟨eq_of_beq h, _, .inl (.inr ⟨o, ev⟩)⟩
    · rename_i xs e
      obtain ⟨vs, ev, _⟩ := sm.cell l _ e
      exact .inr (.inr (.inl ⟨eq_of_beq h, .inl ⟨_, ev⟩⟩))
    · rename_i xs e
      obtain ⟨vs, ev, _⟩ := sm.cell l _ e
      exact .inr (.inr (.inl ⟨eq_of_beq h, .inr ⟨_, ev⟩⟩))
    · cases h
/-- o.name(es) -/
def fMt (Tn : String) (g : D → List D → Store → Option (D × Store)) (f : F) (fl : FL) : F := fun ρ S => (f ρ S).bind fun d S1 => if tyD Tn d S1 = true then (fl ρ S1).bind fun ds S2 => ofO (g d ds S2) else .bad
def rM (K : PySem.W.Frag) (T : Tz) (g : D → List D → Store → Option (D × Store)) : V → List V → Hp → VK → Prop := fun x xs H Q => ∃ m S a as, Sim K T m S H ∧ Rep K m S.length H a x ∧ RepL K m S.length H as xs ∧ PostO K T (g a as S) m S H (Rep K) Q
theorem ve_mt {o e : Expr} {es : List Expr} {name : PySem.Str} {apos cpos : Pos} {Tn id : String} {f : F} {fl : FL} {g : D → List D → Store → Option (D × Store)} (pa : PlainAttrs Tn) (slot : Slot Tn name id) (hty : typeOf (.builtin id) = pure (.type "method_descriptor")) (hm : MtR X id (rM X.K T g)) (ho : VE X T ca W o f) (ha : VA X T ca W (e :: es) fl)
    (hbase : attributeBase o name X.env (eval o X.env) = eval o X.env)
    (hfew : ((backTo cpos (starEach (e :: es) X.env)).all (fun x => !x.1) && (backToKw cpos (keywordEach [] X.env)).all (fun x => x.1.isSome)
      && decide ((e :: es).length + ([] : List Keyword).length + (if ([] : List Keyword).isEmpty then 0 else 1) < 30)) = true)
    (hline : (apos.endLine == cpos.line) = true) (hs : starEach (e :: es) X.env = (false, eval e X.env) :: starEach es X.env) (hplain : (backTo cpos (starEach es X.env)).any (·.1) = false) :
    VE X T ca W (.Call (.Attribute o name apos) (e :: es) [] cpos) (fMt Tn g f fl) :=
  pe_imp (pe_bm pa slot hty hm ho ha hbase hfew hline hs hplain) fun σ H Q ⟨m, ρ, S, sm, en, p⟩ => by
    refine tV_mono (tV_bind sm en p) fun x H1 ⟨m1, S1, d, nx, sm1, en1, r, q⟩ => ?_
    by_cases ht : tyD Tn d S1 = true
    · rw [if_pos ht] at q
      refine ⟨tyD_ok sm1 r ht, tA_mono (tA_bind sm1 en1 q) fun xs H2 ⟨m2, S2, ds, nx2, sm2, en2, r2, q2⟩ => ?_⟩
      exact ⟨m2, S2, d, ds, sm2, r.mv (nx2.mv sm1), r2, q2.ofO⟩
    · rw [if_neg ht] at q; exact q.elim
theorem ve_mt0 {o : Expr} {name : PySem.Str} {apos cpos : Pos} {Tn id : String} {f : F} {g : D → List D → Store → Option (D × Store)} (pa : PlainAttrs Tn) (slot : Slot Tn name id) (hty : typeOf (.builtin id) = pure (.type "method_descriptor")) (hm : MtR X id (rM X.K T g)) (ho : VE X T ca W o f)
    (hbase : attributeBase o name X.env (eval o X.env) = eval o X.env) (hline : (apos.endLine == cpos.line) = true) :
    VE X T ca W (.Call (.Attribute o name apos) [] [] cpos) (fMt Tn g f fNil) :=
  pe_imp (pe_bm0 pa slot hty hm ho hbase hline) fun σ H Q ⟨m, ρ, S, sm, en, p⟩ => by
    refine tV_mono (tV_bind sm en p) fun x H1 ⟨m1, S1, d, nx, sm1, en1, r, q⟩ => ?_
    by_cases ht : tyD Tn d S1 = true
    · rw [if_pos ht] at q
      have q' : Post X.K T ca W (ofO (g d [] S1)) m1 S1 H1 σ (Rep X.K) Q := q
      exact ⟨tyD_ok sm1 r ht, m1, S1, d, [], sm1, r, RepL.nil, q'.ofO⟩
    · rw [if_neg ht] at q; exact q.elim
def mAppend : D → List D → Store → Option (D × Store) := fun o as S => match o, as with
  | .loc l, [y] => match S[l]? with
    | some (.lst xs) => if xs.length < sizeLine then some (.non, S.set l (.lst (xs ++ [y]))) else none
    | _ => none
  | _, _ => none
def mExtend : D → List D → Store → Option (D × Store) := fun o as S => match o, as with
  | .loc l, [.loc k] => match S[l]?, S[k]? with
    | some (.lst xs), some (.lst ys) => if xs.length + ys.length ≤ sizeLine then some (.non, S.set l (.lst (xs ++ ys))) else none
    | _, _ => none
  | _, _ => none
def mPop : D → List D → Store → Option (D × Store) := fun o as S => match o, as with
  | .loc l, [] => match S[l]? with
    | some (.lst xs) => match xs[xs.length - 1]? with
      | some y => some (y, S.set l (.lst xs.dropLast))
      | none => none
    | _ => none
  | _, _ => none
theorem RepL.one {K : PySem.W.Frag} {m : Nat → Addr} {n : Nat} {H : Hp} {d : D} {vs : List V} (r : RepL K m n H [d] vs) : ∃ v, vs = [v] ∧ Rep K m n H d v := by
  obtain ⟨v, vs', rfl, r1, r2⟩ := r.cons_inv
  obtain rfl := r2.nil_inv
  exact ⟨v, rfl, r1⟩
theorem RepL.two {K : PySem.W.Frag} {m : Nat → Addr} {n : Nat} {H : Hp} {d e : D} {vs : List V} (r : RepL K m n H [d, e] vs) : ∃ v w, vs = [v, w] ∧ Rep K m n H d v ∧ Rep K m n H e w := by
  obtain ⟨v, vs', rfl, r1, r2⟩ := r.cons_inv
  obtain ⟨w, rfl, r3⟩ := r2.one
  exact ⟨v, w, rfl, r1, r3⟩
theorem RepL.dropLast {K : PySem.W.Frag} {m : Nat → Addr} {n : Nat} {H : Hp} {xs : List D} {vs : List V} (r : RepL K m n H xs vs) : RepL K m n H xs.dropLast vs.dropLast := by
  rw [List.dropLast_eq_take, List.dropLast_eq_take, r.len]
  exact r.take _
theorem mt_dAppend : MtR X "list.append" (rM X.K T mAppend) := by
  intro pins s σ H x xs v us Q I rx rxs ⟨m, S, a, as, sm, ra, ras, p⟩
  unfold mAppend at p
  split at p
  · rename_i l y
    split at p
    · rename_i ys ec
      split at p
      · rename_i hz
        obtain ⟨hl, rfl⟩ := ra.loc_inv
        obtain ⟨w, rfl, r1⟩ := ras.one
        obtain ⟨vs, ev, rr⟩ := sm.cell l _ ec
        have e := rr.len
        obtain ⟨n1, n2⟩ := set_lst (xs := ys) sm hl ev (rr.append (RepL.cons r1 RepL.nil))
        exact mt_append pins s σ H _ _ v us Q I rx rxs ⟨_, vs, w, rfl, rfl, ev, by omega, p m _ _ n1 n2 Rep.non⟩
      · exact (p : False).elim
    · exact (p : False).elim
  · exact (p : False).elim
theorem mt_dExtend : MtR X "list.extend" (rM X.K T mExtend) := by
  intro pins s σ H x xs v us Q I rx rxs ⟨m, S, a, as, sm, ra, ras, p⟩
  unfold mExtend at p
  split at p
  · rename_i l k
    split at p
    · rename_i ys zs ec ec2
      split at p
      · rename_i hz
        obtain ⟨hl, rfl⟩ := ra.loc_inv
        obtain ⟨w, rfl, r1⟩ := ras.one
        obtain ⟨hk, rfl⟩ := r1.loc_inv
        obtain ⟨vs, ev, rr⟩ := sm.cell l _ ec
        obtain ⟨ws, ew, rr2⟩ := sm.cell k _ ec2
        have e := rr.len
        have e2 := rr2.len
        obtain ⟨n1, n2⟩ := set_lst (xs := ys) sm hl ev (rr.append rr2)
        exact mt_extend pins s σ H _ _ v us Q I rx rxs ⟨_, _, vs, ws, rfl, rfl, ev, ew, by omega, p m _ _ n1 n2 Rep.non⟩
      · exact (p : False).elim
    · exact (p : False).elim
  · exact (p : False).elim
theorem mt_dPop : MtR X "list.pop" (rM X.K T mPop) := by
  intro pins s σ H x xs v us Q I rx rxs ⟨m, S, a, as, sm, ra, ras, p⟩
  unfold mPop at p
  split at p
  · rename_i l
    split at p
    · rename_i ys ec
      split at p
      · rename_i y ey
        obtain ⟨hl, rfl⟩ := ra.loc_inv
        obtain rfl := ras.nil_inv
        obtain ⟨vs, ev, rr⟩ := sm.cell l _ ec
        obtain ⟨w, hw, r1⟩ := rr.get ey
        obtain ⟨n1, n2⟩ := set_lst (xs := ys) sm hl ev rr.dropLast
        refine mt_pop pins s σ H _ _ v us Q I rx rxs ⟨_, vs, w, rfl, rfl, ev, by rw [rr.len]; exact hw, p m _ _ n1 n2 ?_⟩
        have q := r1.mv (sm.set_mv ev (.inl ⟨_, rfl⟩) (o := .lst vs.dropLast))
        rw [List.length_set]
        exact q
      · exact (p : False).elim
    · exact (p : False).elim
  · exact (p : False).elim
end
end G

set_option maxRecDepth 100000
set_option maxHeartbeats 4000000
namespace G
open PySem PySem.Spec PyProof.Rows L2 HotX
/-! # calls of built-in functions -/
def cLen : List D → Store → Option (D × Store) := fun as S => match as with
  | [.tup xs] => some (.int xs.length, S)
  | [.str z] => if z.length ≤ sizeLine then some (.int z.length, S) else none
  | [.loc l] => match S[l]? with
    | some (.lst xs) => some (.int xs.length, S)
    | some (.ro xs) => some (.int xs.length, S)
    | some (.dK kvs) => some (.int kvs.length, S)
    | some (.dT kvs) => some (.int kvs.length, S)
    | none => none
  | [.kl _ xs] => some (.int xs.length, S)
  | _ => none
def cInt : List D → Store → Option (D × Store) := fun as S => match as with
  | [.int i] => some (.int i, S)
  | [.bl b] => some (.int (if b = true then 1 else 0), S)
  | _ => none
def maxI (i j : Int) : Int := if j > i then j else i
def maxL : List Int → Int
  | [] => 0
  | [x] => x
  | x :: xs => maxI x (maxL xs)
def cMax : List D → Store → Option (D × Store) := fun as S => match as with
  | [.int i, .int j] => some (.int (maxI i j), S)
  | [.loc l] => match S[l]? with
    | some (.lst xs) => match intsOf xs with
      | some ns => if 0 < ns.length then some (.int (maxL ns), S) else none
      | none => none
    | _ => none
  | _ => none
def cTuple : List D → Store → Option (D × Store) := fun as S => match as with
  | [.tup xs] => some (.tup xs, S)
  | [.loc l] => match S[l]? with
    | some (.lst xs) => some (.tup xs, S)
    | some (.ro xs) => some (.tup xs, S)
    | _ => none
  | _ => none
def cList : List D → Store → Option (D × Store) := fun as S => match as with
  | [.tup xs] => some (.loc S.length, S ++ [.lst xs])
  | [.loc l] => match S[l]? with
    | some (.lst xs) => some (.loc S.length, S ++ [.lst xs])
    | some (.ro xs) => some (.loc S.length, S ++ [.lst xs])
    | _ => none
  | _ => none
def strsOf : List D → Option (List PySem.Str)
  | [] => some []
  | .str i :: r => (strsOf r).map (i :: ·)
  | _ :: _ => none
theorem maxI_le (i j : Int) : i ≤ maxI i j ∧ j ≤ maxI i j := by unfold maxI; split <;> omega
theorem maxL_spec : ∀ (ns : List Int), 0 < ns.length → maxL ns ∈ ns ∧ ∀ y ∈ ns, y ≤ maxL ns
  | [], h => by simp at h
  | [x], _ => by simp [maxL]
  | x :: y :: r, _ => by
    obtain ⟨h1, h2⟩ := maxL_spec (y :: r) (by simp)
    show maxI x (maxL (y :: r)) ∈ _ ∧ ∀ z ∈ _, z ≤ maxI x (maxL (y :: r))
    have h3 := maxI_le x (maxL (y :: r))
    refine ⟨?_, fun z hz => ?_⟩
    · unfold maxI
      split
      · exact List.mem_cons_of_mem _ h1
      · exact List.mem_cons_self
    · rcases List.mem_cons.mp hz with rfl | hz
      · exact h3.1
      · exact Int.le_trans (h2 z hz) h3.2
theorem maxL_uniq {ns : List Int} {m : Int} (h0 : 0 < ns.length) (h1 : m ∈ ns) (h2 : ∀ y, y ∈ ns → y ≤ m) : m = maxL ns := by
  obtain ⟨a, b⟩ := maxL_spec ns h0
  exact Int.le_antisymm (b m h1) (h2 _ a)
section
variable {X : Cx} {T : Tz}
theorem call_dLen : CallR X (.builtin "len") (rC X.K T cLen) := by
  intro pins s σ H xs us Q I r ⟨m, S, as, sm, ra, p⟩
  unfold cLen at p
  split at p
  · obtain ⟨v, rfl, r1⟩ := ra.one
    obtain ⟨a, vs, rfl, q, rr⟩ := r1.tup_inv
    refine call_len_seq pins s σ H _ us Q I r ⟨a, vs, rfl, .inr (tsq q), ?_⟩
    rw [rr.len]
    exact PostO.here p sm Rep.int
  · obtain ⟨v, rfl, r1⟩ := ra.one
    obtain rfl := r1.str_inv
    split at p
    · exact call_len_str pins s σ H _ us Q I r ⟨_, rfl, ‹_›, PostO.here p sm Rep.int⟩
    · exact (p : False).elim
  · rename_i l
    obtain ⟨v, rfl, r1⟩ := ra.one
    obtain ⟨hl, rfl⟩ := r1.loc_inv
    split at p
    · rename_i xs e
      obtain ⟨vs, ev, rr⟩ := sm.cell l _ e
      refine call_len_seq pins s σ H _ us Q I r ⟨_, vs, rfl, .inl (.inl (.inl ev)), ?_⟩
      rw [rr.len]
      exact PostO.here p sm Rep.int
    · rename_i xs e
      obtain ⟨vs, o, ev, rr⟩ := sm.cell l _ e
      refine call_len_seq pins s σ H _ us Q I r ⟨_, vs, rfl, .inl (.inl (.inr ⟨o, ev⟩)), ?_⟩
      rw [rr.len]
      exact PostO.here p sm Rep.int
    · rename_i xs e
      obtain ⟨vs, ev, rr⟩ := sm.cell l _ e
      refine call_lenD pins s σ H _ us Q I r ⟨_, vs, rfl, ev, ?_⟩
      rw [rr.len]
      exact PostO.here p sm Rep.int
    · rename_i xs e
      obtain ⟨vs, ev, rr⟩ := sm.cell l _ e
      refine call_len_dT pins s σ H _ us Q I r ⟨_, vs, rfl, ev, ?_⟩
      rw [rr.len]
      exact PostO.here p sm Rep.int
    · exact (p : False).elim
  · obtain ⟨v, rfl, r1⟩ := ra.one
    obtain ⟨rfl, hk⟩ := r1.kl_inv
    refine call_len_seq pins s σ H _ us Q I r ⟨_, _, rfl, .inl (.inr hk), ?_⟩
    rw [List.length_map]
    exact PostO.here p sm Rep.int
  · exact (p : False).elim
theorem call_dInt : CallR X (.type "int") (rC X.K T cInt) := by
  intro pins s σ H xs us Q I r ⟨m, S, as, sm, ra, p⟩
  unfold cInt at p
  split at p
  · obtain ⟨v, rfl, r1⟩ := ra.one
    obtain rfl := r1.int_inv
    exact call_int1 pins s σ H _ us Q I r (.inl ⟨_, rfl, PostO.here p sm Rep.int⟩)
  · obtain ⟨v, rfl, r1⟩ := ra.one
    obtain rfl := r1.bl_inv
    exact call_int1 pins s σ H _ us Q I r (.inr ⟨_, rfl, PostO.here p sm Rep.int⟩)
  · exact (p : False).elim
theorem call_dMax (hc : X.calm = true) : CallR X (.builtin "max") (rC X.K T cMax) := by
  intro pins s σ H xs us Q I r ⟨m, S, as, sm, ra, p⟩
  unfold cMax at p
  split at p
  · obtain ⟨v, w, rfl, r1, r2⟩ := ra.two
    obtain rfl := r1.int_inv
    obtain rfl := r2.int_inv
    exact call_max2 hc pins s σ H _ us Q I r ⟨_, _, rfl, PostO.here p sm Rep.int⟩
  · rename_i l
    obtain ⟨v, rfl, r1⟩ := ra.one
    obtain ⟨hl, rfl⟩ := r1.loc_inv
    split at p
    · rename_i xs e
      split at p
      · rename_i ns en
        split at p
        · rename_i hz
          obtain ⟨vs, ev, rr⟩ := sm.cell l _ e
          rw [intsOf_rep en rr] at ev
          refine cr_max hc pins s σ H _ us Q I r ⟨_, ns, rfl, .inl (.inl ev), hz, fun k h1 h2 => ?_⟩
          rw [maxL_uniq hz h1 h2]
          exact PostO.here p sm Rep.int
        · exact (p : False).elim
      · exact (p : False).elim
    · exact (p : False).elim
  · exact (p : False).elim
theorem call_dTuple : CallR X (.type "tuple") (rC X.K T cTuple) := by
  intro pins s σ H xs us Q I r ⟨m, S, as, sm, ra, p⟩
  unfold cTuple at p
  split at p
  · obtain ⟨v, rfl, r1⟩ := ra.one
    obtain ⟨a, vs, rfl, q, rr⟩ := r1.tup_inv
    exact call_tuple_of pins s σ H _ us Q I r ⟨a, vs, rfl, .inr ⟨tsq q, PostO.here p sm (Rep.tup q rr)⟩⟩
  · rename_i l
    obtain ⟨v, rfl, r1⟩ := ra.one
    obtain ⟨hl, rfl⟩ := r1.loc_inv
    split at p
    · rename_i xs e
      obtain ⟨vs, ev, rr⟩ := sm.cell l _ e
      exact call_tuple_of pins s σ H _ us Q I r ⟨_, vs, rfl, .inl ⟨.inl (.inl ev), fun q hq => p m _ _ (nx_aside hq) (sm.aside hq) (Rep.tup upd_same (rr.mv (mv_fresh hq)))⟩⟩
    · rename_i xs e
      obtain ⟨vs, o, ev, rr⟩ := sm.cell l _ e
      exact call_tuple_of pins s σ H _ us Q I r ⟨_, vs, rfl, .inl ⟨.inl (.inr ⟨o, ev⟩), fun q hq => p m _ _ (nx_aside hq) (sm.aside hq) (Rep.tup upd_same (rr.mv (mv_fresh hq)))⟩⟩
    · exact (p : False).elim
  · exact (p : False).elim
theorem call_dList : CallR X (.type "list") (rC X.K T cList) := by
  intro pins s σ H xs us Q I r ⟨m, S, as, sm, ra, p⟩
  unfold cList at p
  split at p
  · obtain ⟨v, rfl, r1⟩ := ra.one
    obtain ⟨a, vs, rfl, q, rr⟩ := r1.tup_inv
    refine call_list_of pins s σ H _ us Q I r ⟨a, vs, rfl, .inr (tsq q), fun q hq => ?_⟩
    obtain ⟨n1, n2, n3⟩ := new_lst sm rr hq
    exact p _ _ _ n1 n2 n3
  · rename_i l
    obtain ⟨v, rfl, r1⟩ := ra.one
    obtain ⟨hl, rfl⟩ := r1.loc_inv
    split at p
    · rename_i xs e
      obtain ⟨vs, ev, rr⟩ := sm.cell l _ e
      refine call_list_of pins s σ H _ us Q I r ⟨_, vs, rfl, .inl (.inl (.inl ev)), fun q hq => ?_⟩
      obtain ⟨n1, n2, n3⟩ := new_lst sm rr hq
      exact p _ _ _ n1 n2 n3
    · rename_i xs e
      obtain ⟨vs, o, ev, rr⟩ := sm.cell l _ e
      refine call_list_of pins s σ H _ us Q I r ⟨_, vs, rfl, .inl (.inl (.inr ⟨o, ev⟩)), fun q hq => ?_⟩
      obtain ⟨n1, n2, n3⟩ := new_lst sm rr hq
      exact p _ _ _ n1 n2 n3
    · exact (p : False).elim
  · exact (p : False).elim
theorem strsOf_rep {K : PySem.W.Frag} {m : Nat → Addr} {n : Nat} {H : Hp} : ∀ {ds : List D} {ns : List PySem.Str} {vs : List V}, strsOf ds = some ns → RepL K m n H ds vs → vs = ns.map V.str
  | [], ns, vs, e, r => by
    simp only [strsOf, Option.some.injEq] at e
    subst e
    exact r.nil_inv
  | d :: ds, ns, vs, e, r => by
    obtain ⟨v, vs', rfl, r1, r2⟩ := r.cons_inv
    cases d <;> simp only [strsOf, reduceCtorEq] at e
    simp only [Option.map_eq_some_iff] at e
    obtain ⟨ms, e, rfl⟩ := e
    obtain rfl := r1.str_inv
    rw [strsOf_rep e r2]
    rfl
def mJoin : D → List D → Store → Option (D × Store) := fun o as S => match o, as with
  | .str a, [.loc l] => match S[l]? with
    | some (.lst xs) => match strsOf xs with
      | some ys => if (ys.map (·.length)).sum + ys.length * a.length ≤ 16777216 then some (.str (Txt.join a ys), S) else none
      | none => none
    | _ => none
  | _, _ => none
theorem mt_dJoin : MtR X "str.join" (rM X.K T mJoin) := by
  intro pins s σ H x xs v us Q I rx rxs ⟨m, S, a, as, sm, ra, ras, p⟩
  unfold mJoin at p
  split at p
  · rename_i a l
    split at p
    · rename_i ys e
      split at p
      · rename_i zs es
        split at p
        · rename_i hz
          obtain rfl := ra.str_inv
          obtain ⟨w, rfl, r1⟩ := ras.one
          obtain ⟨hl, rfl⟩ := r1.loc_inv
          obtain ⟨vs, ev, rr⟩ := sm.cell l _ e
          rw [strsOf_rep es rr] at ev
          exact mt_join pins s σ H _ _ v us Q I rx rxs ⟨a, _, zs, rfl, rfl, .inl (.inl (.inl ev)), hz, PostO.here p sm Rep.str⟩
        · exact (p : False).elim
      · exact (p : False).elim
    · exact (p : False).elim
  · exact (p : False).elim
/-! ### isinstance with a built-in type -/
def tyN : D → Store → Option String
  | .non, _ => some "NoneType"
  | .bl _, _ => some "bool"
  | .int _, _ => some "int"
  | .str _, _ => some "str"
  | .tup _, _ => some "tuple"
  | .loc l, S => match S[l]? with
    | some (.lst _) => some "list"
    | some (.ro _) => some "list"
    | some (.dK _) => some "dict"
    | some (.dT _) => some "dict"
    | none => none
  | .kl _ _, _ => none
def isTy (t ty : String) : Bool := ty == t || (ty == "bool" && t == "int")
theorem kit_ty {K : PySem.W.Frag} {t : String} (ht : t ∈ ["int", "bool", "str", "tuple", "list", "dict"]) {d : D} {S : Store} {ty : String} (e : tyN d S = some ty) : PySem.W.kitOne K (.type ty) (.type t) = some (isTy t ty) := by
  have key : ∀ t ∈ ["int", "bool", "str", "tuple", "list", "dict"], ∀ ty ∈ ["NoneType", "bool", "int", "str", "tuple", "list", "dict"], PySem.W.kitOne K (.type ty) (.type t) = some (isTy t ty) := by
    have big : (["int", "bool", "str", "tuple", "list", "dict"].all fun t => ["NoneType", "bool", "int", "str", "tuple", "list", "dict"].all fun ty => decide (PySem.W.kitOne [] (.type ty) (.type t) = some (isTy t ty))) = true := by decide +kernel
    intro t h1 ty h2
    have z := of_decide_eq_true (List.all_eq_true.mp (List.all_eq_true.mp big t h1) ty h2)
    exact z
  refine key t ht ty ?_
  cases d <;> simp only [tyN, Option.some.injEq] at e
  case loc l =>
    split at e <;> simp only [Option.some.injEq, reduceCtorEq] at e <;> subst e <;> simp
  case kl a xs => cases e
  all_goals subst e; simp
theorem ty_rep {K : PySem.W.Frag} {m : Nat → Addr} {S : Store} {H : Hp} {d : D} {x : V} {ty : String} (sm : Sim K T m S H) (r : Rep K m S.length H d x) (e : tyN d S = some ty) : TyX K H x (.type ty) := by
  cases d <;> simp only [tyN, Option.some.injEq] at e
  case non => subst e; obtain rfl := r.non_inv; exact .base .non
  case bl b => subst e; obtain rfl := r.bl_inv; exact .base (.bl b)
  case int b => subst e; obtain rfl := r.int_inv; exact .base (.int b)
  case str b => subst e; obtain rfl := r.str_inv; exact .base (.str b)
  case tup b => subst e; obtain ⟨a, vs, rfl, q, rr⟩ := r.tup_inv; exact .base (.tup q)
  case kl a xs => cases e
  case loc l =>
    obtain ⟨hl, rfl⟩ := r.loc_inv
    split at e <;> simp only [Option.some.injEq, reduceCtorEq] at e <;> subst e
    · rename_i ec; obtain ⟨vs, ev, rr⟩ := sm.cell l _ ec; exact .base (.lst ev)
    · rename_i ec; obtain ⟨vs, o, ev, rr⟩ := sm.cell l _ ec; exact .base (.frz ev)
    · rename_i ec; obtain ⟨vs, ev, rr⟩ := sm.cell l _ ec; exact .base (.dK ev)
    · rename_i ec; obtain ⟨vs, ev, rr⟩ := sm.cell l _ ec; exact .base (.dT ev)
variable {ca : Nat → Addr} {W : WX}
def fIsT (t : String) (f : F) : F := fun ρ S => (f ρ S).bind fun d S1 => match tyN d S1 with
  | some ty => .ok (.bl (isTy t ty)) S1
  | none => .bad
theorem ve_isT {e : Expr} {f : F} {y : PySem.Str} {t : String} {p p2 pos : Pos} (he : VE X T ca W e f) (ht : t ∈ ["int", "bool", "str", "tuple", "list", "dict"]) (hg : Gl X "isinstance") (hm : X.mg "isinstance" = none) (gy : Gl X y) (my : X.mg y = none) (by_ : bootBuiltins y = some (.type t)) (hn : y ≠ "__name__") (hdy : (y == ("__debug__" : PySem.Str)) = false)
    (hs : starEach [e, .Name y p2] X.env = (false, eval e X.env) :: starEach [.Name y p2] X.env) (hs2 : starEach [.Name y p2] X.env = (false, eval (.Name y p2) X.env) :: starEach [] X.env) (hpl : (backTo pos (starEach [.Name y p2] X.env)).any (·.1) = false) :
    VE X T ca W (.Call (.Name "isinstance" p) [e, .Name y p2] [] pos) (fIsT t f) :=
  pe_imp (pe_callB (call_isi (X := X)) hg hm (by decide +kernel) (pa_cons he (pa_cons (pe_bltn (v := V.ty t) gy my by_ rfl hn hdy) pa_nil hs2) hs) (by decide) (by decide) hs hpl) fun σ H Q ⟨m, ρ, S, sm, en, p⟩ => by
    refine tV_mono (tV_bind sm en p) fun x H1 ⟨m1, S1, d, nx, sm1, en1, r, q⟩ => ?_
    cases e1 : tyN d S1 with
    | none => rw [e1] at q; exact q.elim
    | some ty =>
      rw [e1] at q
      exact ⟨x, .ty t, .type ty, .type t, _, rfl, .ty t, ty_rep sm1 r e1, kit_ty ht e1, Post.here q sm1 Rep.bl⟩
end
end G

set_option maxRecDepth 100000
set_option maxHeartbeats 4000000
namespace G
open PySem PySem.Spec PyProof.Rows L2 HotX
/-! # defs; the rules in short -/
theorem take0 {X : Cx} : L2N.Takes X W0 := fun _ _ ⟨_, _, _, _, _, _, _, _, _, _, _, _, _, _, _, _, z⟩ => z.elim
def enter (n : Nat) (ds : List D) : Env := ds.map some ++ List.replicate (n - ds.length) none
def Fl.out : Fl → R D
  | .nx _ S => .ok .non S
  | .ret d S => .ok d S
  | .exc c w _ S => .exc c w S
  | _ => .bad
/-- what a def does: n slots -/
def runOf (n : Nat) (f : FS) : Run := fun ds S => (f (enter n ds) S).out
theorem enter_ok {K : PySem.W.Frag} {T : Tz} {m : Nat → Addr} {n : Nat} {H : Hp} {N : List PySem.Str} {ds : List D} {vs : List V} (r : RepL K m n H ds vs) (hT : T.fx = []) : EnvOk K T m n H (enter N.length ds) (L2.start N vs) := by
  have e := r.len
  refine ⟨by simp [enter, L2.start, e], fun i d hi => ?_, fun p hp => by rw [hT] at hp; cases hp⟩
  unfold enter at hi
  unfold L2.start
  by_cases h : i < ds.length
  · rw [List.getElem?_append_left (by simpa using h)] at hi
    rw [List.getElem?_map, Option.map_eq_some_iff] at hi
    obtain ⟨d', h1, h2⟩ := hi
    cases h2
    obtain ⟨v, h3, h4⟩ := r.get h1
    refine ⟨v, ?_, h4⟩
    rw [List.getElem?_append_left (by simpa [e] using h), List.getElem?_map, h3]
    rfl
  · rw [List.getElem?_append_right (by simpa using Nat.le_of_not_lt h)] at hi
    rw [List.getElem?_replicate] at hi
    split at hi <;> cases hi
/-- a def of the text keeps the promise -/
structure Ok (P : Program) (w : World) (K : PySem.W.Frag) (mg : PySem.Str → Option Value) (base : Heap) (T : Tz) (ca : Nat → Addr) (x : PySem.Str) (k : Nat) (ps : List PySem.Str) (run : Run) : Prop where
  ex : ∃ fd, (∃ oc od osl, K.lookup (He.ga K x) = some ⟨oc, od, .func fd, osl⟩) ∧ FnOk P w K mg base (L2N.CX P w) k (He.ga K x) fd ps (spG K T ca ps.length run) ∧ Binds K fd ps []
  kp : PySem.W.keepIn K (.ref (He.ga K x)) = true
  gl : mg x = some (.ref (He.ga K x))
section
variable {P : Program} {w : World} {K : PySem.W.Frag} {mg : PySem.Str → Option Value} {base : Heap} {T : Tz} {ca : Nat → Addr}
theorem fn_def {x qual : PySem.Str} {params : Arguments} {body : List Stmt} {scope : Scope} {f : Addr} {fd : FuncData} {N ps : List PySem.Str} {k : Nat} {fs : FS} (F0 : FunD K x qual params body scope [] [] f fd) (S : FnScope N ps scope) (hT : T.fx = [])
    (hb : ∀ (cdv : Value) (A : Around) (outer : List PySem.Env) (s : Shared) (H : Hp) (E : XK), Room k (A.deeper (envOfC qual scope s.heap.objs.size f cdv)) →
      L2N.Takes (cxOf (L2N.CX P w) P w K mg base N qual scope f cdv A outer s H E) (fun cls d _ H' => E cls d H') →
      VSs (cxOf (L2N.CX P w) P w K mg base N qual scope f cdv A outer s H E) T ca (fun cls d _ H' => E cls d H') body fs) :
    FnOk P w K mg base (L2N.CX P w) (k + 1) f fd ps (spG K T ca ps.length (runOf N.length fs)) :=
  F0.ok S (fun vs H Q E h => spG_len h) fun cdv A outer s H vs Q E hr h => ⟨_, hb cdv A outer s H E hr (L2N.takes_of rfl rfl rfl rfl), by
    obtain ⟨m, S0, ds, sm, r, hl, p⟩ := h
    refine ⟨m, enter N.length ds, S0, sm, enter_ok r hT, ?_⟩
    unfold runOf at p
    cases e : fs (enter N.length ds) S0 with
    | nx ρ S1 => rw [e] at p; exact fun m1 H1 σ1 nx sm1 en1 => p m1 H1 .non nx sm1 Rep.non
    | ret d S1 => rw [e] at p; exact fun m1 H1 v nx sm1 rr => p m1 H1 v nx sm1 rr
    | exc c w' ρ S1 => rw [e] at p; exact fun m1 H1 σ1 x v nx sm1 en1 hx rr => p m1 H1 x v nx sm1 hx rr
    | bk ρ S1 => rw [e] at p; exact p.elim
    | ct ρ S1 => rw [e] at p; exact p.elim
    | bad => rw [e] at p; exact p.elim⟩
/-- what it does when it may not be called deeper -/
def RBad : Run := fun _ _ => .bad
theorem fn_bad {CX : CXT} {k n : Nat} {f : Addr} {fd : FuncData} {ps : List PySem.Str} (hn : ps.length = n) : FnOk P w K mg base CX k f fd ps (spG K T ca n RBad) where
  len := fun vs H Q E h => by rw [hn]; exact spG_len h
  run := fun A outer s H args us vs Q E _ _ _ _ ⟨m, S, ds, _, _, _, p⟩ => p.elim
/-- the facts that the law's head tells -/
structure Facts (K : PySem.W.Frag) (mg : PySem.Str → Option Value) (fa : List He.Fa) (fn : List He.DefD) : Prop where
  says : He.SaysD fa fn K
  glo : ∀ (i : Nat) {x : PySem.Str}, fa[i]? = some (.glo x) → mg x = some (.ref (He.ga K x))
  free : ∀ (i : Nat) {x : PySem.Str}, fa[i]? = some (.free x) → mg x = none
  int : ∀ (i : Nat) {x : PySem.Str} {v : Int}, fa[i]? = some (.int x v) → ∃ t, mg x = some (.int v t)
  str : ∀ (i : Nat) {x z : PySem.Str}, fa[i]? = some (.str x z) → ∃ t, mg x = some (.str z t)
theorem facts_of {h : Heap} {fa : List He.Fa} {fn : List He.DefD} (X : K.In h) (G0 : h.Ns mainGlobals mg) (c : He.SaysD fa fn K) : Facts K mg fa fn :=
  ⟨c, fun i x e => He.glo_ok X G0 (c.fact i e), fun i x e => He.free_ok X G0 (c.fact i e), fun i x v e => He.int_ok X G0 (c.fact i e), fun i x v e => He.str_ok X G0 (c.fact i e)⟩
theorem fr0 {T : Tz} (h : T.fx = []) (i : Nat) : T.fr i := fun p hp => by rw [h] at hp; cases hp
theorem frS {T T' : Tz} {i j : Nat} {v : V} (e : T'.fx = (i, v) :: T.fx) (h : j ≠ i) (hj : T.fr j) : T'.fr j := fun p hp => by
  rw [e] at hp
  rcases List.mem_cons.mp hp with rfl | hp
  · exact Ne.symm h
  · exact hj p hp
theorem ok_def {fa : List He.Fa} {fn : List He.DefD} (B : Facts K mg fa fn) (d : He.DefD) {x : PySem.Str} {N ps : List PySem.Str} {k : Nat} {fs : FS} {qual : PySem.Str} {scope : Scope} {body : List Stmt} (j g : Nat) (hd : fn[j]? = some d) (h1 : d.at_ = (x, none)) (h2 : d.dfl = []) (h3 : d.kwd = []) (hg : fa[g]? = some (.glo x)) (eq : d.qual = qual) (es : d.scope = scope) (eb : d.body = body) (S : FnScope N ps d.scope) (hT : T.fx = [])
    (bind : ∀ (kV doc pm : Value) (an : Option Addr) (cdv ct : Value) (us : List Value), us.length = ps.length → bindArgs (PySem.W.fnOf d.name d.qual d.params d.body d.scope .none kV doc pm an cdv ct) ⟨us, []⟩ = pure (ps.zip us))
    (hb : ∀ (cdv : Value) (A : Around) (outer : List PySem.Env) (s : Shared) (H : Hp) (E : XK), Room k (A.deeper (envOfC qual scope s.heap.objs.size (He.ga K x) cdv)) →
      L2N.Takes (cxOf (L2N.CX P w) P w K mg base N qual scope (He.ga K x) cdv A outer s H E) (fun cls d _ H' => E cls d H') →
      VSs (cxOf (L2N.CX P w) P w K mg base N qual scope (He.ga K x) cdv A outer s H E) T ca (fun cls d _ H' => E cls d H') body fs) :
    Ok P w K mg base T ca x (k + 1) ps (runOf N.length fs) := by
  subst eq es eb
  obtain ⟨fd, F0⟩ := B.says.def_ j hd
  have ea : He.fAd K d.at_ = He.ga K x := by rw [h1]; rfl
  have e1 : d.dvs K = [] := by unfold He.DefD.dvs; rw [h2]; rfl
  have e2 : d.kws K = [] := by unfold He.DefD.kws; rw [h3]; rfl
  rw [ea, e1, e2] at F0
  exact ⟨⟨fd, (let ⟨oc, od, _, _, _, _, _, _, _, osl, _, lk, _⟩ := F0.ex; ⟨oc, od, osl, lk⟩), fn_def F0 S hT hb, FunD.bindsN F0 bind⟩, F0.kp, B.glo g hg⟩
end
section
variable {X : Cx} {T : Tz} {ca : Nat → Addr} {W : WX}
theorem vv (i : Nat) {x : PySem.Str} {pos : Pos} (hN : X.N[i]? = some x := by rfl) (hv : Vis X.env.scope x := by first | exact Or.inl rfl | exact Or.inr (Or.inl rfl) | exact Or.inr (Or.inr rfl)) (hd : (x == ("__debug__" : PySem.Str)) = false := by decide)
    (hcd : (x == ("__classdict__" : PySem.Str)) = false := by decide) : VE X T ca W (.Name x pos) (fVar i) := ve_var hN hv hd hcd
theorem vi_ {i : Int} {j pos} : VE X T ca W (.Constant (.int i) j pos) (fCon (.int i)) := ve_con pe_int fun _ _ _ => Rep.int
theorem vb_ {i : Bool} {j pos} : VE X T ca W (.Constant (.bool i) j pos) (fCon (.bl i)) := ve_con pe_bl fun _ _ _ => Rep.bl
theorem vs_ {i : PySem.Str} {j pos} : VE X T ca W (.Constant (.str i) j pos) (fCon (.str i)) := ve_con pe_str fun _ _ _ => Rep.str
theorem vn_ {j pos} : VE X T ca W (.Constant .none j pos) (fCon .non) := ve_con pe_non fun _ _ _ => Rep.non
theorem vgi {x : PySem.Str} {i : Int} {pos : Pos} (h : ∃ t, X.mg x = some (.int i t)) (hg : Gl X x := by rfl) (hd : (x == ("__debug__" : PySem.Str)) = false := by decide) : VE X T ca W (.Name x pos) (fCon (.int i)) :=
  let ⟨t, e⟩ := h; ve_con (pe_glob hg e (v := .int i) ⟨t, rfl⟩ hd) fun _ _ _ => Rep.int
theorem vgs {x : PySem.Str} {i : PySem.Str} {pos : Pos} (h : ∃ t, X.mg x = some (.str i t)) (hg : Gl X x := by rfl) (hd : (x == ("__debug__" : PySem.Str)) = false := by decide) : VE X T ca W (.Name x pos) (fCon (.str i)) :=
  let ⟨t, e⟩ := h; ve_con (pe_glob hg e (v := .str i) ⟨t, rfl⟩ hd) fun _ _ _ => Rep.str
theorem a0 : VA X T ca W [] fNil := va_nil
theorem ac {a : Expr} {es : List Expr} {fa : F} {fr : FL} (ha : VE X T ca W a fa) (hr : VA X T ca W es fr) (hs : starEach (a :: es) X.env = (false, eval a X.env) :: starEach es X.env := by rfl) : VA X T ca W (a :: es) (fCons fa fr) := va_cons ha hr hs
/-- f(es) of a def -/
theorem vc {k : Nat} {x : PySem.Str} {ps : List PySem.Str} {run : Run} {p pos : Pos} {e : Expr} {es : List Expr} {fl : FL} (F0 : Ok X.prog X.w X.K X.mg X.base T ca x k ps run) (hr : Room k X.A) (tk : L2N.Takes X W)
    (ha : VA X T ca W (e :: es) fl) (hg : Gl X x := by rfl) (hdb : (x == ("__debug__" : PySem.Str)) = false := by decide) (he : starEach (e :: es) X.env = (false, eval e X.env) :: starEach es X.env := by rfl) (hpl : (backTo pos (starEach es X.env)).any (·.1) = false := by rfl) :
    VE X T ca W (.Call (.Name x p) (e :: es) [] pos) (fRun ps.length run fl) :=
  let ⟨_, _, F1, hb⟩ := F0.ex; ve_call F1 hr hg F0.gl F0.kp hb tk ha hdb he hpl
theorem vc0 {k : Nat} {x : PySem.Str} {run : Run} {p pos : Pos} (F0 : Ok X.prog X.w X.K X.mg X.base T ca x k [] run) (hr : Room k X.A) (tk : L2N.Takes X W) (hg : Gl X x := by rfl) (hdb : (x == ("__debug__" : PySem.Str)) = false := by decide) :
    VE X T ca W (.Call (.Name x p) [] [] pos) (fRun 0 run fNil) :=
  let ⟨_, _, F1, hb⟩ := F0.ex; ve_call0 F1 hr hg F0.gl F0.kp hb tk hdb
theorem vbl {x : PySem.Str} {p pos : Pos} {e : Expr} {es : List Expr} {fr : FL} {id : String} {g : List D → Store → Option (D × Store)} (hc : CallR X (.builtin id) (rC X.K T g)) (hm : X.mg x = none) (ha : VA X T ca W (e :: es) fr) (hv : bootBuiltins x = some (.builtin id) := by decide +kernel)
    (hg : Gl X x := by rfl) (hn : x ≠ "__name__" := by decide) (hdb : (x == ("__debug__" : PySem.Str)) = false := by decide) (he : starEach (e :: es) X.env = (false, eval e X.env) :: starEach es X.env := by rfl) (hpl : (backTo pos (starEach es X.env)).any (·.1) = false := by rfl) : VE X T ca W (.Call (.Name x p) (e :: es) [] pos) (fCall g fr) :=
  ve_callB hc hg hm hv ha hn hdb he hpl
theorem vty {x : PySem.Str} {p pos : Pos} {e : Expr} {es : List Expr} {fr : FL} {id : String} {g : List D → Store → Option (D × Store)} (hc : CallR X (.type id) (rC X.K T g)) (hm : X.mg x = none) (ha : VA X T ca W (e :: es) fr) (hv : bootBuiltins x = some (.type id) := by decide +kernel)
    (hg : Gl X x := by rfl) (hn : x ≠ "__name__" := by decide) (hdb : (x == ("__debug__" : PySem.Str)) = false := by decide) (he : starEach (e :: es) X.env = (false, eval e X.env) :: starEach es X.env := by rfl) (hpl : (backTo pos (starEach es X.env)).any (·.1) = false := by rfl) : VE X T ca W (.Call (.Name x p) (e :: es) [] pos) (fCall g fr) :=
  ve_callTy hc hg hm hv ha hn hdb he hpl
theorem vis (t : String) {e : Expr} {f : F} {y : PySem.Str} {p p2 pos : Pos} (hm : X.mg "isinstance" = none) (my : X.mg y = none) (he : VE X T ca W e f) (ht : t ∈ ["int", "bool", "str", "tuple", "list", "dict"] := by decide) (by_ : bootBuiltins y = some (.type t) := by decide +kernel) (hg : Gl X "isinstance" := by rfl) (gy : Gl X y := by rfl) (hn : y ≠ "__name__" := by decide) (hdy : (y == ("__debug__" : PySem.Str)) = false := by decide)
    (hs : starEach [e, .Name y p2] X.env = (false, eval e X.env) :: starEach [.Name y p2] X.env := by rfl) (hs2 : starEach [.Name y p2] X.env = (false, eval (.Name y p2) X.env) :: starEach [] X.env := by rfl) (hpl : (backTo pos (starEach [.Name y p2] X.env)).any (·.1) = false := by rfl) :
    VE X T ca W (.Call (.Name "isinstance" p) [e, .Name y p2] [] pos) (fIsT t f) := ve_isT he ht hg hm gy my by_ hn hdy hs hs2 hpl
theorem vop {op : Operator} {g : D → D → Store → Option (D × Store)} {fa fb : F} {a b : Expr} {pos : Pos} (ho : OpR X (binaryOp op) (rB X.K T g)) (ha : VE X T ca W a fa) (hb : VE X T ca W b fb) : VE X T ca W (.BinOp a op b pos) (fB2 g fa fb) := ve_op ho ha hb
theorem vcm {op : CmpOp} {g : D → D → Store → Option (D × Store)} {fa fb : F} {a b : Expr} {pos : Pos} (ho : OpR X (compareOp op) (rB X.K T g)) (ha : VE X T ca W a fa) (hb : VE X T ca W b fb) (hm : behindInMarks op b = false := by rfl) : VE X T ca W (.Compare a [op] [b] pos) (fB2 g fa fb) := ve_cmp ho ha hb hm
theorem tcm {op : CmpOp} {g : D → D → Store → Option (D × Store)} {fa fb : F} {a b : Expr} {pos : Pos} (ho : OpR X (compareOp op) (rB X.K T g)) (ha : VE X T ca W a fa) (hb : VE X T ca W b fb) (hm : behindInMarks op b = false := by rfl) : VT X T ca W (.Compare a [op] [b] pos) (fAsB (fB2 g fa fb)) := vt_cmp ho ha hb hm
theorem vch {op op' : CmpOp} {g h : D → D → Store → Option (D × Store)} {fa fb fc : F} {a b c : Expr} {pos : Pos} (ho : OpR X (compareOp op) (rB X.K T g)) (ho' : OpR X (compareOp op') (rB X.K T h)) (ha : VE X T ca W a fa) (hb : VE X T ca W b fb) (hc : VE X T ca W c fc)
    (hm : lastMarks [op, op'] [b, c] = false := by rfl) : VE X T ca W (.Compare a [op, op'] [b, c] pos) (fChain g h fa fb fc) := ve_chain ho ho' ha hb hc hm
theorem tch {op op' : CmpOp} {g h : D → D → Store → Option (D × Store)} {fa fb fc : F} {a b c : Expr} {pos : Pos} (ho : OpR X (compareOp op) (rB X.K T g)) (ho' : OpR X (compareOp op') (rB X.K T h)) (ha : VE X T ca W a fa) (hb : VE X T ca W b fb) (hc : VE X T ca W c fc)
    (hm : lastMarks [op, op'] [b, c] = false := by rfl) : VT X T ca W (.Compare a [op, op'] [b, c] pos) (fAsB (fChain g h fa fb fc)) := vt_chain ho ho' ha hb hc hm
theorem ttr {e : Expr} {f : F} (h : VE X T ca W e f) (he : ∀ whole, isTrue e X.env whole = (do let v ← whole; standAt e.pos; holding [v] (truthy v)) := by intro _; rfl) : VT X T ca W e (fTru f) := vt_tru h he
theorem vix {a b : Expr} {fa fb : F} {pos : Pos} (ha : VE X T ca W a fa) (hb : VE X T ca W b fb) (hs : PlainIx b := by exact fun _ _ => rfl) : VE X T ca W (.Subscript a b pos) (fB2 dIx fa fb) := ve_ix ha hb hs
theorem vmt {o e : Expr} {es : List Expr} {name : PySem.Str} {apos cpos : Pos} {Tn id : String} {f : F} {fl : FL} {g : D → List D → Store → Option (D × Store)} (pa : PlainAttrs Tn) (slot : Slot Tn name id) (hty : typeOf (.builtin id) = pure (.type "method_descriptor")) (hm : MtR X id (rM X.K T g)) (ho : VE X T ca W o f) (ha : VA X T ca W (e :: es) fl)
    (hbase : attributeBase o name X.env (eval o X.env) = eval o X.env := by rfl)
    (hfew : ((backTo cpos (starEach (e :: es) X.env)).all (fun x => !x.1) && (backToKw cpos (keywordEach [] X.env)).all (fun x => x.1.isSome)
      && decide ((e :: es).length + ([] : List Keyword).length + (if ([] : List Keyword).isEmpty then 0 else 1) < 30)) = true := by rfl)
    (hline : (apos.endLine == cpos.line) = true := by rfl) (hs : starEach (e :: es) X.env = (false, eval e X.env) :: starEach es X.env := by rfl) (hplain : (backTo cpos (starEach es X.env)).any (·.1) = false := by rfl) :
    VE X T ca W (.Call (.Attribute o name apos) (e :: es) [] cpos) (fMt Tn g f fl) := ve_mt pa slot hty hm ho ha hbase hfew hline hs hplain
theorem vm0 {o : Expr} {name : PySem.Str} {apos cpos : Pos} {Tn id : String} {f : F} {g : D → List D → Store → Option (D × Store)} (pa : PlainAttrs Tn) (slot : Slot Tn name id) (hty : typeOf (.builtin id) = pure (.type "method_descriptor")) (hm : MtR X id (rM X.K T g)) (ho : VE X T ca W o f)
    (hbase : attributeBase o name X.env (eval o X.env) = eval o X.env := by rfl) (hline : (apos.endLine == cpos.line) = true := by rfl) :
    VE X T ca W (.Call (.Attribute o name apos) [] [] cpos) (fMt Tn g f fNil) := ve_mt0 pa slot hty hm ho hbase hline
/-! ### dicts that are new -/
def fNewT : F := fun _ S => .ok (.loc S.length) (S ++ [.dT []])
def fNewK : F := fun _ S => .ok (.loc S.length) (S ++ [.dK []])
theorem new_dT {m : Nat → Addr} {S : Store} {H : Hp} {K : PySem.W.Frag} (s : Sim K T m S H) {p : Addr} (hp : H p = none) :
    Nx m S.length H (mPush m S.length p) (S ++ [Cell.dT []]).length (upd H p (.dT [])) ∧ Sim K T (mPush m S.length p) (S ++ [Cell.dT []]) (upd H p (.dT [])) ∧ Rep K (mPush m S.length p) (S ++ [Cell.dT []]).length (upd H p (.dT [])) (.loc S.length) (.ref p) := by
  have e : (S ++ [Cell.dT []]).length = S.length + 1 := by simp
  refine ⟨by rw [e]; exact nx_push hp, s.push hp ⟨[], upd_same, rfl⟩, ?_⟩
  rw [e]
  have z : mPush m S.length p S.length = p := mPush_new
  have q : Rep K (mPush m S.length p) (S.length + 1) (upd H p (.dT [])) (.loc S.length) (.ref (mPush m S.length p S.length)) := Rep.loc (Nat.lt_succ_self _)
  rwa [z] at q
theorem new_dK {m : Nat → Addr} {S : Store} {H : Hp} {K : PySem.W.Frag} (s : Sim K T m S H) {p : Addr} (hp : H p = none) :
    Nx m S.length H (mPush m S.length p) (S ++ [Cell.dK []]).length (upd H p (.dK [])) ∧ Sim K T (mPush m S.length p) (S ++ [Cell.dK []]) (upd H p (.dK [])) ∧ Rep K (mPush m S.length p) (S ++ [Cell.dK []]).length (upd H p (.dK [])) (.loc S.length) (.ref p) := by
  have e : (S ++ [Cell.dK []]).length = S.length + 1 := by simp
  refine ⟨by rw [e]; exact nx_push hp, s.push hp ⟨[], upd_same, rfl⟩, ?_⟩
  rw [e]
  have z : mPush m S.length p S.length = p := mPush_new
  have q : Rep K (mPush m S.length p) (S.length + 1) (upd H p (.dK [])) (.loc S.length) (.ref (mPush m S.length p S.length)) := Rep.loc (Nat.lt_succ_self _)
  rwa [z] at q
theorem vdT {pos : Pos} : VE X T ca W (.Dict [] [] pos) fNewT := pe_imp pe_dnewT fun σ H Q ⟨m, ρ, S, sm, en, p⟩ => fun q hq => by
  obtain ⟨n1, n2, n3⟩ := new_dT sm hq
  exact Post.there p n1 n2 n3
theorem vdK {pos : Pos} : VE X T ca W (.Dict [] [] pos) fNewK := pe_imp pe_dnewK fun σ H Q ⟨m, ρ, S, sm, en, p⟩ => fun q hq => by
  obtain ⟨n1, n2, n3⟩ := new_dK sm hq
  exact Post.there p n1 n2 n3
/-! ### statements in short -/
theorem sset (i : Nat) {x : PySem.Str} {e : Expr} {f : F} {pos pos' : Pos} (hfr : T.fr i) (hN : X.N.Nodup) (he : VE X T ca W e f) (hi : X.N[i]? = some x := by rfl) (hx : Loc X.env.scope x := by first | exact Or.inl rfl | exact Or.inr rfl) (hs : swapsWith e (some (.Name x pos')) pos.line X.env = pure false := by rfl) (hf : X.fn x = true ∨ X.env.scope.names.lookup x = some .local := by first | exact Or.inl rfl | exact Or.inr rfl) :
    VS X T ca W (.Assign [.Name x pos'] e pos) (sAsg f (gNm i)) := vs_set hfr hN hi hx he hs hf
theorem sasg {tg e : Expr} {f : F} {g : FG} {pos : Pos} (he : VE X T ca W e f) (hg : VG X T ca W tg g) (hs : swapsWithSole [tg] e pos.line X.env = pure false := by rfl) (hw : swappedStores [tg] e X.env = pure none := by rfl)
    (h1 : (assignEach [tg] X.env).map (·.2) = [assign tg X.env] := by rfl) : VS X T ca W (.Assign [tg] e pos) (sAsg f g) := vs_asg he hg hs hw h1
theorem sexp {e : Expr} {f : F} {pos : Pos} (h : VE X T ca W e f) (hs : swapsWith e none pos.line X.env = pure false := by rfl) : VS X T ca W (.Expr e pos) (sDrop f) := vs_expr h hs
theorem gsub {o i : Expr} {fo fi : F} {pos : Pos} (hu : X.A.units + 1 < cLine) (ho : VE X T ca W o fo) (hi : VE X T ca W i fi)
    (ha : ∀ v, assign (.Subscript o i pos) X.env v = (do
      let ov ← holding [v] (eval o X.env)
      let iv ← holding [v, ov] (eval i X.env)
      standAt pos
      holding [v, ov, iv] (setItem ov iv v)
      release [v, ov, iv] []) := by intro _; rfl) : VG X T ca W (.Subscript o i pos) (gSb fo fi) := vg_sub hu ho hi ha
/-- names and tuples of names as targets -/
theorem gn (i : Nat) {x : PySem.Str} {pos : Pos} (hN : X.N.Nodup) (hi : X.N[i]? = some x := by rfl) (hx : Loc X.env.scope x := by first | exact Or.inl rfl | exact Or.inr rfl) (hf : X.fn x = true ∨ X.env.scope.names.lookup x = some .local := by first | exact Or.inl rfl | exact Or.inr rfl) : PG X (.Name x pos) (tgT X.K (.nm i)) := by
  simp only [tgT]; exact pg_name hN hi hx hf
theorem g0 : PGs X [] (tgTs X.K []) := by simp only [tgTs]; exact pgs_nil
theorem gc {e : Expr} {es : List Expr} {t : Tgt} {ts : List Tgt} (h1 : PG X e (tgT X.K t)) (h2 : PGs X es (tgTs X.K ts)) (hs : (assignEach (e :: es) X.env).map (·.2) = assign e X.env :: (assignEach es X.env).map (·.2) := by rfl) : PGs X (e :: es) (tgTs X.K (t :: ts)) := by
  simp only [tgTs]; exact pgs_cons h1 h2 hs
theorem gt {es : List Expr} {k : Nat} {pos : Pos} {ts : List Tgt} (h : PGs X es (tgTs X.K ts)) (hc : X.calm = true := by rfl) (hn : (assignEach es X.env).length = ts.length := by rfl) (hst : (assignEach es X.env).findIdx? (·.1) = none := by rfl) : PG X (.Tuple es k pos) (tgT X.K (.tp ts)) := by
  simp only [tgT]; exact pg_tup hc h hn hst
theorem spar2 (i j : Nat) {x y : PySem.Str} {a b : Expr} {fa : FL} {px py pt pos : Pos} {kt k2 pt2} (hfi : T.fr i) (hfj : T.fr j) (hN : X.N.Nodup) (ha : VA X T ca W [a, b] fa) (hc : X.calm = true := by rfl) (hi : X.N[i]? = some x := by rfl) (hj : X.N[j]? = some y := by rfl) (hij : i ≠ j := by decide) (hx : X.env.scope.names.lookup x = some .local := by rfl) (hy : X.env.scope.names.lookup y = some .local := by rfl)
    (hw : swappedStores [.Tuple [.Name x px, .Name y py] kt pt] (.Tuple [a, b] k2 pt2) X.env = pure (some [x, y]) := by rfl) (hs : swapsWithSole [.Tuple [.Name x px, .Name y py] kt pt] (.Tuple [a, b] k2 pt2) pos.line X.env = pure false := by rfl) :
    VS X T ca W (.Assign [.Tuple [.Name x px, .Name y py] kt pt] (.Tuple [a, b] k2 pt2) pos) (sPar2 i j fa) := vs_par2 hfi hfj hc hN hi hj hij hx hy ha hw hs
def sPar3 (i j l : Nat) (a : FL) : FS := fun ρ S => (a ρ S).toFl ρ fun ds S1 => match ds with
  | [x, y, z] => .nx (((ρ.set i (some x)).set j (some y)).set l (some z)) S1
  | _ => .bad
theorem spar3 (i j l : Nat) {x y z : PySem.Str} {a b c : Expr} {fa : FL} {px py pz pt pos : Pos} {kt k2 pt2} (hfi : T.fr i) (hfj : T.fr j) (hfl : T.fr l) (hN : X.N.Nodup) (ha : VA X T ca W [a, b, c] fa) (hc : X.calm = true := by rfl) (hi : X.N[i]? = some x := by rfl) (hj : X.N[j]? = some y := by rfl) (hl : X.N[l]? = some z := by rfl) (hij : i ≠ j := by decide) (hil : i ≠ l := by decide) (hjl : j ≠ l := by decide)
    (hx : X.env.scope.names.lookup x = some .local := by rfl) (hy : X.env.scope.names.lookup y = some .local := by rfl) (hz : X.env.scope.names.lookup z = some .local := by rfl)
    (hw : swappedStores [.Tuple [.Name x px, .Name y py, .Name z pz] kt pt] (.Tuple [a, b, c] k2 pt2) X.env = pure (some [x, y, z]) := by rfl) (hs : swapsWithSole [.Tuple [.Name x px, .Name y py, .Name z pz] kt pt] (.Tuple [a, b, c] k2 pt2) pos.line X.env = pure false := by rfl) :
    VS X T ca W (.Assign [.Tuple [.Name x px, .Name y py, .Name z pz] kt pt] (.Tuple [a, b, c] k2 pt2) pos) (sPar3 i j l fa) :=
  ps_imp (ps_par3 hc hN hi hj hl hij hil hjl hx hy hz ha hw hs) fun Dn σ H ⟨m, ρ, S, sm, en, p⟩ => by
    refine ⟨m, ρ, S, sm, en, (Post.ofFl sm en p).mono fun vs H1 ⟨m1, S1, ds, nx, sm1, en1, r, q⟩ => ?_⟩
    match ds, r, q with
    | [d1, d2, d3], r, q =>
      obtain ⟨v1, vs1, rfl, r1, r⟩ := r.cons_inv
      obtain ⟨v2, v3, rfl, r2, r3⟩ := r.two
      exact ⟨v1, v2, v3, rfl, q m1 H1 _ Nx.refl sm1 (((en1.set r1 i hfi).set r2 j hfj).set r3 l hfl)⟩
    | [], _, q => exact q.elim
    | [_], _, q => exact q.elim
    | [_, _], _, q => exact q.elim
    | _ :: _ :: _ :: _ :: _, _, q => exact q.elim
theorem vts1 {e : Expr} {f : FB} (h : VT X T ca W e f) : PTs X [e] (tT X.K T ca W f) := pts_one h
theorem sfor {tg iter : Expr} {body : List Stmt} {w : Env → Store → R Wk} {t : Tgt} {f : FS} {pos : Pos} (hfr : ∀ i ∈ tgN t, T.fr i) (hi : VI X T ca W tg iter w) (hg : PG X tg (tgT X.K t)) (hb : VSs X T ca W body f) (hp : PassesOwn (model X.prog X.w) X.A X.env X.xe := by exact PassesOwn.never) (hc : X.calm = true := by rfl) (hs : ∀ x, foldedSetIterable iter X.env x = pure x := by intro _; rfl) :
    VS X T ca W (.For tg iter body [] pos) (sFor w (gT t) f) := vs_for hp hc hi (vg_tgt hg hfr) hb hs
def FUEL : Nat := 1000000000
theorem swhile {c : Expr} {body : List Stmt} {t : FB} {f : FS} {pos : Pos} (hc : VT X T ca W c t) (hb : VSs X T ca W body f) (hp : PassesOwn (model X.prog X.w) X.A X.env X.xe := by exact PassesOwn.never) : VS X T ca W (.While c body [] pos) (sWhile FUEL t f) := vs_while hp hc hb
theorem sraise {c k : Nat} {x : PySem.Str} {fI : Addr} {fd : FuncData} {ps : List PySem.Str} {e : Expr} {es : List Expr} {fl : FL} {p pos pos2 : Pos} (E0 : ExT X.K X.mg x (ca c) fI) (F0 : FnOk X.prog X.w X.K X.mg X.base (L2N.CX X.prog X.w) k fI fd ps (spIni X.K))
    (hr : Room (k + 1) X.A) (hb : Binds X.K fd ps []) (tk : L2N.Takes X W) (hx : Passes (L2N.CX X.prog X.w) X (fun _ _ _ => False)) (ha : VA X T ca W (e :: es) fl) (hc : X.calm = true := by rfl) (hg : Gl X x := by rfl)
    (hdb : (x == ("__debug__" : PySem.Str)) = false := by decide) (he : starEach (e :: es) X.env = (false, eval e X.env) :: starEach es X.env := by rfl) (hpl : (backTo pos (starEach es X.env)).any (·.1) = false := by rfl) :
    VS X T ca W (.Raise (some (.Call (.Name x p) (e :: es) [] pos)) none pos2) (sRaise c fl) := vs_raise hc E0 F0 hr hb hx tk hg ha hdb he hpl
theorem passN : Passes (L2N.CX X.prog X.w) X (fun _ _ _ => False) := fun _ _ _ _ _ _ _ h => by
  obtain ⟨_, _, _, _, _, _, _, _, _, _, _, _, z⟩ := h
  exact z.elim
end
end G

set_option maxRecDepth 100000
set_option maxHeartbeats 4000000
namespace G
open PySem PySem.Spec PyProof.Rows L2 HotX
/-! # what the generator's words mean -/
section
variable {X : Cx} {T : Tz} {ca : Nat → Addr} {W : WX}
def dGt := iB fun i j => .bl (decide (j < i))
def dGe := iB fun i j => .bl (decide (j ≤ i))
theorem op_dGt' : OpR X (compareOp .Gt) (rB X.K T dGt) := op_dGt
theorem op_dGe' : OpR X (compareOp .GtE) (rB X.K T dGe) := op_dGe
theorem room_u {k : Nat} {A : Around} {env : PySem.Env} (h : Room k (A.deeper env)) : (A.deeper env).units < cLine := by have := h.un; omega
theorem room_u1 {k : Nat} {A : Around} {env : PySem.Env} (h : Room k (A.deeper env)) : (A.deeper env).units + 1 < cLine := by have := h.un; omega
theorem room_u64 {k : Nat} {A : Around} {env : PySem.Env} (h : Room k (A.deeper env)) : (A.deeper env).units + 64 < cLine := by have := h.un; omega
theorem room_u65 {k : Nat} {A : Around} {env : PySem.Env} (h : Room k (A.deeper env)) : (A.deeper env).units + 65 < cLine := by have := h.un; omega
theorem ok_bad {P : Program} {w : World} {K : PySem.W.Frag} {mg : PySem.Str → Option Value} {base : Heap} {fa : List He.Fa} {fn : List He.DefD} (B : Facts K mg fa fn) (d : He.DefD) {x : PySem.Str} {ps : List PySem.Str} {k : Nat} (j g : Nat) (hd : fn[j]? = some d) (h1 : d.at_ = (x, none)) (h2 : d.dfl = []) (h3 : d.kwd = []) (hg : fa[g]? = some (.glo x))
    (bind : ∀ (kV doc pm : Value) (an : Option Addr) (cdv ct : Value) (us : List Value), us.length = ps.length → bindArgs (PySem.W.fnOf d.name d.qual d.params d.body d.scope .none kV doc pm an cdv ct) ⟨us, []⟩ = pure (ps.zip us)) :
    Ok P w K mg base T ca x k ps RBad := by
  obtain ⟨fd, F0⟩ := B.says.def_ j hd
  have ea : He.fAd K d.at_ = He.ga K x := by rw [h1]; rfl
  have e1 : d.dvs K = [] := by unfold He.DefD.dvs; rw [h2]; rfl
  have e2 : d.kws K = [] := by unfold He.DefD.kws; rw [h3]; rfl
  rw [ea, e1, e2] at F0
  exact ⟨⟨fd, (let ⟨oc, od, _, _, _, _, _, _, _, osl, _, lk, _⟩ := F0.ex; ⟨oc, od, osl, lk⟩), fn_bad rfl, FunD.bindsN F0 bind⟩, F0.kp, B.glo g hg⟩
theorem gtH {x1 : Addr} {o1 : Obj} (hot : HotIn X x1 o1) {es : List Expr} {k : Nat} {pos : Pos} {ts : List Tgt} (h : PGs X es (tgTs X.K ts)) (hn : (assignEach es X.env).length = ts.length := by rfl) (hst : (assignEach es X.env).findIdx? (·.1) = none := by rfl) : PG X (.Tuple es k pos) (tgT X.K (.tp ts)) := by
  simp only [tgT]; exact pg_tupH hot h hn hst
/-! ### the exceptions' classes -/
structure Exs (K : PySem.W.Frag) (mg : PySem.Str → Option Value) (cls : List PySem.Str) : Prop where
  ok : excsB K cls = true
  gl : ∀ x ∈ cls, mg x = some (.ref (He.ga K x))
  ne : 0 < cls.length
end
section
variable {K : PySem.W.Frag} {mg : PySem.Str → Option Value} {cls : List PySem.Str}
theorem excs_parts (h : excsB K cls = true) : ∀ c0 rest, cls = c0 :: rest → (∀ x ∈ cls, excI K (He.ga K x) (He.ma K (He.ga K c0) "__init__") = true) ∧ (∀ c < cls.length, ∀ k < cls.length, PySem.W.kitOne K (.ref (caOf K cls c)) (.ref (caOf K cls k)) = some (kitT cls.length c k) ∧ PySem.W.exmOne K (.ref (caOf K cls c)) (.ref (caOf K cls k)) = some (kitT cls.length c k)) ∧
    PySem.W.findCls K (.type "ValueError") (.type "type") "__init__" = some (.val (.builtin "ValueError.__init__")) := by
  intro c0 rest e
  subst e
  unfold excsB at h
  simp only [Bool.and_eq_true] at h
  obtain ⟨⟨h1, h2⟩, h3⟩ := h
  refine ⟨fun x hx => List.all_eq_true.mp h1 x hx, fun c hc k hk => ?_, ?_⟩
  · have q := List.all_eq_true.mp (List.all_eq_true.mp h2 c (List.mem_range.mpr hc)) k (List.mem_range.mpr hk)
    simp only [Bool.and_eq_true, decide_eq_true_eq] at q
    exact q
  · split at h3
    · rename_i s e
      rw [eq_of_beq h3] at e
      exact e
    · cases h3
theorem nrm_lt {n c : Nat} (h : 0 < n) : nrm n c < n := by unfold nrm; split <;> omega
theorem nrm_nrm {n c : Nat} (h : 0 < n) : nrm n (nrm n c) = nrm n c := by
  have := nrm_lt (c := c) h
  rw [nrm, if_pos this]
theorem ca_nrm {c : Nat} (h : 0 < cls.length) : caOf K cls (nrm cls.length c) = caOf K cls c := by unfold caOf; rw [nrm_nrm h]
theorem kit_nrm {n c k : Nat} (h : 0 < n) : kitT n (nrm n c) (nrm n k) = kitT n c k := by unfold kitT; rw [nrm_nrm h, nrm_nrm h]
namespace Exs
variable (E : Exs K mg cls)
include E
theorem head : ∃ c0 rest, cls = c0 :: rest := by
  have h := E.ne
  cases cls with
  | nil => cases h
  | cons c r => exact ⟨c, r, rfl⟩
theorem kit (c k : Nat) : PySem.W.kitOne K (.ref (caOf K cls c)) (.ref (caOf K cls k)) = some (kitT cls.length c k) := by
  obtain ⟨c0, r, e⟩ := E.head
  have q := (excs_parts E.ok c0 r e).2.1 _ (nrm_lt (c := c) E.ne) _ (nrm_lt (c := k) E.ne)
  rw [ca_nrm E.ne, ca_nrm E.ne, kit_nrm E.ne] at q
  exact q.1
theorem exm (c k : Nat) : PySem.W.exmOne K (.ref (caOf K cls c)) (.ref (caOf K cls k)) = some (kitT cls.length c k) := by
  obtain ⟨c0, r, e⟩ := E.head
  have q := (excs_parts E.ok c0 r e).2.1 _ (nrm_lt (c := c) E.ne) _ (nrm_lt (c := k) E.ne)
  rw [ca_nrm E.ne, ca_nrm E.ne, kit_nrm E.ne] at q
  exact q.2
theorem at_ {i : Nat} {x : PySem.Str} (h : cls[i]? = some x) : caOf K cls i = He.ga K x := by
  have hl := (List.getElem?_eq_some_iff.mp h).1
  unfold caOf nrm
  rw [if_pos hl, List.getD_eq_getElem?_getD, h]
  rfl
theorem ext (c : Nat) : ∃ x, ExT K mg x (caOf K cls c) (He.ma K (He.ga K (cls.headD "")) "__init__") := by
  obtain ⟨c0, r, e⟩ := E.head
  have hl := nrm_lt (c := c) E.ne
  have hx : cls[nrm cls.length c]? = some cls[nrm cls.length c] := List.getElem?_eq_getElem hl
  have hm : cls[nrm cls.length c] ∈ cls := List.getElem_mem hl
  have q := (excs_parts E.ok c0 r e).1 _ hm
  have a := E.at_ hx
  rw [ca_nrm E.ne] at a
  refine ⟨cls[nrm cls.length c], ?_⟩
  rw [a]
  have e2 : cls.headD "" = c0 := by rw [e]; rfl
  rw [e2]
  exact exc_of (E.gl _ hm) q
theorem ex (i : Nat) (x : PySem.Str) (h : cls[i]? = some x) : ExT K mg x (caOf K cls i) (He.ma K (He.ga K (cls.headD "")) "__init__") := by
  obtain ⟨c0, r, e⟩ := E.head
  have hm : x ∈ cls := List.mem_of_getElem? h
  have q := (excs_parts E.ok c0 r e).1 _ hm
  rw [E.at_ h]
  have e2 : cls.headD "" = c0 := by rw [e]; rfl
  rw [e2]
  exact exc_of (E.gl _ hm) q
theorem exc (c : Nat) : ExcC K (caOf K cls c) := let ⟨_, h⟩ := E.ext c; h.exc
theorem no (c : Nat) : PySem.W.findIn K (.ref (caOf K cls c)) "what" = some none := let ⟨_, h⟩ := E.ext c; h.no
theorem clsm (i : Nat) {x : PySem.Str} (h : cls[i]? = some x) : mg x = some (.ref (caOf K cls i)) := (E.ex i x h).gC
theorem ve : PySem.W.findCls K (.type "ValueError") (.type "type") "__init__" = some (.val (.builtin "ValueError.__init__")) := by
  obtain ⟨c0, r, e⟩ := E.head
  exact (excs_parts E.ok c0 r e).2.2
end Exs
end
section
variable {X : Cx} {T : Tz} {ca : Nat → Addr} {W : WX}
theorem Suit.nf {i : Nat} {a : Addr} {oe : Obj} {Cl d : Addr} {w : D} (z : Suit X T i a oe Cl d w) : ∀ (pins : List (Addr × Obj)) (σ : St) (H : Hp) (s : Shared), Inv X pins σ H s → a ∉ frs X.stack := fun pins σ H s I h => by
  obtain ⟨_, _, h1, h2, _⟩ := I.pin (a, oe) (List.mem_append_left _ z.mem)
  rcases List.mem_cons.mp (I.stkSub _ h) with e | e
  · exact h1 e
  · exact h2 e
theorem suit_of {c : Nat} {i : Nat} {a : Addr} {oe : Obj} {d : Addr} {w : D} {pn : List (Addr × Obj)} (zn : L2N.Zn (.ref (ca c)) (some d) oe) (fl : ∃ vs, oe.data = .fields vs) :
    Suit (X.suite a ((a, oe) :: pn)) { T with xs := (d, w) :: T.xs, fx := (i, .ref a) :: T.fx } i a oe (ca c) d w := ⟨List.mem_cons_self, zn, fl, rfl, List.mem_cons_self, List.mem_cons_self⟩
theorem ve_whatX {Cl : Addr} {i : Nat} {n : PySem.Str} {a : Addr} {oe : Obj} {d : Addr} {w : D} {p pos : Pos} (z : Suit X T i a oe Cl d w) (E : ExcC X.K Cl) (no : PySem.W.findIn X.K (.ref Cl) "what" = some none) (hN : X.N[i]? = some n) (hv : Vis X.env.scope n) (hd : (n == ("__debug__" : PySem.Str)) = false) (hcd : (n == ("__classdict__" : PySem.Str)) = false)
    (hb : attributeBase (.Name n p) "what" X.env (eval (.Name n p) X.env) = eval (.Name n p) X.env) : VE X T ca W (.Attribute (.Name n p) "what" pos) (fCon w) := by
  refine ⟨fun pins s σ H Q I h => ?_⟩
  obtain ⟨m, ρ, S, sm, en, q⟩ := h
  refine attr_of hb (thn ((pe_var (X := X) (pos := p) hN hv hd hcd).run pins s σ H (fun v H1 => v = .ref a ∧ H1 = H) I ⟨_, en.2.2 (i, .ref a) z.fx, rfl, rfl⟩) fun u s1 ⟨v, H1, J, rv, ev, eH⟩ => ?_)
  subst ev
  subst eH
  obtain rfl : u = Value.ref a := rv
  obtain ⟨vw, hx, rw'⟩ := sm.exs _ z.xs
  obtain ⟨mA, hns, hr⟩ := J.hok d _ hx
  obtain ⟨od, ho, hl⟩ := lookIn_ns hns
  have l : List.lookup ("what" : PySem.Str) [(("what" : PySem.Str), vw)] = some vw := by simp [List.lookup]
  obtain ⟨uw, hu, ru⟩ := RelO.some_of (v := vw) (o := mA "what") (by rw [← l]; exact hr "what")
  exact HandSPX.exc_get J.kIn (z.inst J ho) E.hg E.hk E.hs (PySem.W.findObj_own E.hd no rfl (by rw [hl, hu])) (handed_of ru) ⟨vw, H1, J.tok _, ru, Post.here q sm rw'⟩
end
end G

set_option maxRecDepth 100000
set_option maxHeartbeats 4000000
namespace G
open PySem PySem.Spec PyProof.Rows L2 HotX
/-! # a lambda without parameters, handed to a def that calls it -/
/-- the lambda's body: as LamX's context, what leaves it lies as L2N says -/
abbrev lamN (X : Cx) (A : Around) (outer : List PySem.Env) (s : Shared) (H : Hp) (E : XK) (scope : Scope) (f c' : Addr) : Cx :=
  { LamX.lamCx X A outer s H E scope f c' with xe := fun e s' => wpAny (model X.prog X.w) (A.deeper (LamX.lamEnv X scope s.heap.objs.size f c')) (leaving (LamX.lamEnv X scope s.heap.objs.size f c') e) (fun _ s'' => L2N.CX X.prog X.w outer H s E e s'') (fun e' s'' => L2N.CX X.prog X.w outer H s E e' s'') s' }
theorem lamN_takes {X : Cx} {A : Around} {outer : List PySem.Env} {s : Shared} {H : Hp} {E : XK} {scope : Scope} {f c' : Addr} : L2N.Takes (lamN X A outer s H E scope f c') fun cls d _ H' => E cls d H' := L2N.takes_of rfl rfl rfl rfl
section
variable {X : Cx} {pins : List (Addr × Obj)} {σ : L2.St} {H HZ : Hp} {s s1 : Shared} {W : WX}
/-- a(), in the def that got it -/
theorem pe_actN {Eg : XK} {Ng : List PySem.Str} {qg : PySem.Str} {sg : Scope} {g f c' : Addr} {cdg pm ctv : Value} {params : Arguments} {body : Expr} {scope : Scope} {k i : Nat} {a : PySem.Str} {pn : List (Addr × Obj)} {xe : Value → Shared → Prop} {t : XK → TE} {p1 p2 : Pos}
    (I : Inv X pins σ H s) (L : LamX.LamS X.env.scope scope) (hf : s.heap.get? f = some (PySem.W.kla_obj "<lambda>" (X.env.qual ++ "<lambda>") params body scope (cloFrom X.env.cells scope.names []) pm c' ctv)) (hfn : H f = none) (hfr : f ∉ frs X.stack)
    (hbind : bindArgs (PySem.W.kla_fn "<lambda>" (X.env.qual ++ "<lambda>") params body scope (cloFrom X.env.cells scope.names []) pm (.ref c') ctv) ⟨[], []⟩ = pure [])
    (tk : L2N.Takes ((cxOf (L2N.CX X.prog X.w) X.prog X.w X.K X.mg X.base Ng qg sg g cdg X.A X.stack s H Eg).tr pn xe) W) (hr : Room (k + 1) (X.A.deeper (envOfC qg sg s.heap.objs.size g cdg)))
    (hbody : ∀ (A : Around) (outer : List PySem.Env) (s : Shared) (H : Hp) (E : XK), Room k (A.deeper (LamX.lamEnv X scope s.heap.objs.size f c')) → PE (lamN X A outer s H E scope f c') body (t E))
    (hN : Ng[i]? = some a) (hv : Vis sg a) (hd : (a == ("__debug__" : PySem.Str)) = false) (hcd : (a == ("__classdict__" : PySem.Str)) = false) :
    PE ((cxOf (L2N.CX X.prog X.w) X.prog X.w X.K X.mg X.base Ng qg sg g cdg X.A X.stack s H Eg).tr pn xe) (.Call (.Name a p1) [] [] p2)
      (fun σZ HZ Q => σZ[i]? = some (some (.ref f)) ∧ HZ c' = some (LamX.CodeO c' (X.env.qual ++ "<lambda>")) ∧ t (fun cls d H' => W cls d σZ H') σ HZ Q) := by
  refine ⟨fun pz sZ σZ HZ Q IZ ⟨h1, h2, h3⟩ => ?_⟩
  refine wpAny_Call_Name_kw (thn ((pe_var (pos := p1) (i := i) hN hv hd hcd).run pz sZ σZ HZ (fun v H1 => v = .ref f ∧ H1 = HZ) IZ ⟨.ref f, h1, rfl, rfl⟩) fun u s1 ⟨v, H1, J, rv, e1, e2⟩ => ?_)
  subst e1 e2
  obtain rfl : u = Value.ref f := rv
  have there : s1.heap.get? f = some (PySem.W.kla_obj "<lambda>" (X.env.qual ++ "<lambda>") params body scope (cloFrom X.env.cells scope.names []) pm c' ctv) := J.base.keep f _ hf hfn hfr fun z => nomatch (show f ∈ ([] : List Addr) from z)
  obtain ⟨⟨oc, vs, t', b1, b2, b3⟩, _, _⟩ := J.hok c' _ h2
  refine PySem.W.callWith_F0 ⟨_, _, _, _, there⟩ (wpAny_call (codeAny_mono (R := CR (L2N.CX X.prog X.w) (envOfC qg sg s.heap.objs.size g cdg :: X.stack) X.prog X.w H1 s1 Q fun cls d H' => W cls d σZ H') (PySem.W.kla_callFunE hr.depth there rfl L.co L.gen rfl ⟨c', oc, vs, t', rfl, b1, b2, b3⟩ ?_) fun r s' hq => ?_))
  · have hbind' : bindArgs (PySem.W.kla_fn "<lambda>" (X.env.qual ++ "<lambda>") params body scope (cloFrom X.env.cells scope.names []) pm (.ref c') ctv) ⟨[] ++ [], []⟩ = pure [] := hbind
    rw [hbind']
    refine wpAny_pure (wpAny_newFunctionEnv (fun y hy => (L.own y hy).2) (fun y hy => absurd hy (by simp)) (fun h₁ hns hsb => ⟨J.nolimit.fresh _ hsb, ?_⟩) L.kind)
    show codeAny _ _ (.expr body (LamX.lamEnv X scope s1.heap.objs.size f c')) _ _
    have kp : ∀ b o, s1.heap.get? b = some o → h₁.get? b = some o := fun b o e => hsb.extBut b o (Nat.ne_of_lt (Heap.lt_size e)) (Heap.get?_push_of_some _ e)
    have M : Inv (LamX.lamCx X (X.A.deeper (envOfC qg sg s.heap.objs.size g cdg)) (envOfC qg sg s.heap.objs.size g cdg :: X.stack) s1 H1 (fun cls d H' => W cls d σZ H') scope f c') [] σ H1 { s1 with heap := h₁, toks := s1.toks + ([] : List (PySem.Str × Value)).length } :=
      LamX.lam_start2 I L J.env0 hr.hd J.base hns kp
    refine PySem.W.kla_codeExpr (wpAny_mono ((hbody _ _ s1 H1 _ (hr.deeper _)).run [] _ _ H1 Q (M.toTry _) h3) (fun v s' ⟨w', H', M', rv, q⟩ => ⟨w', H', M'.os, M'.bare, M'.base, M'.hok, rv, q⟩) fun e s' hq => hq)
  · cases r with
    | error e => exact tk e s' (L2N.XE.of_call (X := (cxOf (L2N.CX X.prog X.w) X.prog X.w X.K X.mg X.base Ng qg sg g cdg X.A X.stack s H Eg).tr pn xe) (E := fun cls d H' => W cls d σZ H') J (fun cls d H' h => h) hq)
    | ok fl =>
      cases fl with
      | ret u => exact J.after hq
      | next => exact False.elim hq
      | brk => exact False.elim hq
      | cont => exact False.elim hq
end
def fLam (callee : (Store → R D) → Store → R D) (body : F) : F := fun ρ S => callee (fun S' => body ρ S') S
def fAct (lam : Store → R D) : F := fun _ S => lam S
def runL (n : Nat) (fs : (Store → R D) → FS) : (Store → R D) → Store → R D := fun lam S => (fs lam (enter n []) S).out
section
variable {K : PySem.W.Frag} {T T' : Tz} {ca : Nat → Addr} {m m' : Nat → Addr} {S S' : Store} {H H' : Hp}
/-- what T' tracks besides stays -/
theorem Sim.back (s : Sim K T' m S H) (nx : Nx m S.length H m' S'.length H') (s' : Sim K T m' S' H') (e : T'.tb = T.tb) : Sim K T' m' S' H' where
  inj := s'.inj
  cell := s'.cell
  tabs := by rw [e]; exact s'.tabs
  exs := fun p hp => by
    obtain ⟨v, h1, h2⟩ := s.exs p hp
    exact ⟨v, nx.frame _ _ h1 (s.out h1 (.inr (.inr ⟨_, rfl⟩))) (by intro _ z; cases z), h2.mv (nx.mv s)⟩
  evs := fun p hp => (s.evs p hp).mv (nx.mv s)
  cos := fun p hp => by
    have h1 := s.cos p hp
    refine nx.frame _ _ h1 (fun l hl z => ?_) (fun ps => LamX.codeO_ne ps)
    obtain ⟨c, _, hc⟩ := s.at hl
    cases c with
    | lst xs => obtain ⟨vs, ev, _⟩ := hc; rw [z, h1] at ev; cases ev
    | ro xs => obtain ⟨vs, o, ev, _⟩ := hc; rw [z, h1] at ev; cases ev
    | dK xs => obtain ⟨vs, ev, _⟩ := hc; rw [z, h1] at ev; cases ev
    | dT xs => obtain ⟨vs, ev, _⟩ := hc; rw [z, h1] at ev; cases ev
/-- less is tracked -/
theorem Sim.less (s : Sim K T' m S H) (e : T'.tb = T.tb) (e1 : ∀ p ∈ T.xs, p ∈ T'.xs) (e2 : ∀ p ∈ T.ev, p ∈ T'.ev) (e3 : ∀ p ∈ T.co, p ∈ T'.co) : Sim K T m S H :=
  ⟨s.inj, s.cell, by rw [← e]; exact s.tabs, fun p hp => s.exs p (e1 p hp), fun p hp => s.evs p (e2 p hp), fun p hp => s.cos p (e3 p hp)⟩
end
/-- a def that calls what it got; its promise over whatever that does -/
structure OkL (P : Program) (w : World) (K : PySem.W.Frag) (mg : PySem.Str → Option Value) (base : Heap) (tb : List (Addr × PySem.Str)) (ca : Nat → Addr) (x : PySem.Str) (k : Nat) (a : PySem.Str) (Ng : List PySem.Str) (fs : (Store → R D) → FS) : Prop where
  ex : ∃ (pg : Arguments) (bg : List Stmt) (sg : Scope) (fd : FuncData), FunD K x x pg bg sg [] [] (He.ga K x) fd ∧ Binds K fd [a] [] ∧ FnScope Ng [a] sg ∧ Ng[0]? = some a ∧ Vis sg a ∧
    ∀ (T' : Tz) (f : Addr) (lam : Store → R D) (cdv : Value) (A : Around) (outer : List PySem.Env) (s : Shared) (H : Hp) (E : XK), T'.fx = [(0, .ref f)] → T'.tb = tb → Room k (A.deeper (envOfC x sg s.heap.objs.size (He.ga K x) cdv)) →
      L2N.Takes (cxOf (L2N.CX P w) P w K mg base Ng x sg (He.ga K x) cdv A outer s H E) (fun cls d _ H' => E cls d H') →
      (∀ (W' : WX) (pn : List (Addr × Obj)) (xe : Value → Shared → Prop) (p1 p2 : Pos), L2N.Takes ((cxOf (L2N.CX P w) P w K mg base Ng x sg (He.ga K x) cdv A outer s H E).tr pn xe) W' → VE ((cxOf (L2N.CX P w) P w K mg base Ng x sg (He.ga K x) cdv A outer s H E).tr pn xe) T' ca W' (.Call (.Name a p1) [] [] p2) (fAct lam)) →
      VSs (cxOf (L2N.CX P w) P w K mg base Ng x sg (He.ga K x) cdv A outer s H E) T' ca (fun cls d _ H' => E cls d H') bg (fs lam)
  kp : PySem.W.keepIn K (.ref (He.ga K x)) = true
  gl : mg x = some (.ref (He.ga K x))
theorem OkL.mono {P : Program} {w : World} {K : PySem.W.Frag} {mg : PySem.Str → Option Value} {base : Heap} {tb : List (Addr × PySem.Str)} {ca : Nat → Addr} {x : PySem.Str} {j k : Nat} {a : PySem.Str} {Ng : List PySem.Str} {fs : (Store → R D) → FS} (h : OkL P w K mg base tb ca x j a Ng fs) (hk : j ≤ k) : OkL P w K mg base tb ca x k a Ng fs :=
  ⟨let ⟨pg, bg, sg, fd, h1, h2, h3, h4, h5, h6⟩ := h.ex; ⟨pg, bg, sg, fd, h1, h2, h3, h4, h5, fun T' f lam cdv A outer s H E e1 e2 hr => h6 T' f lam cdv A outer s H E e1 e2 (hr.mono hk)⟩, h.kp, h.gl⟩
/-- x(lambda: body) -/
theorem ve_lam {X : Cx} {T : Tz} {ca : Nat → Addr} {W : WX} {x a : PySem.Str} {c Pt : Addr} {k : Nat} {Ng : List PySem.Str} {fs : (Store → R D) → FS} {params : Arguments} {body : Expr} {scope : Scope} {fb : F} {p lpos pos : Pos}
    {q : PySem.Str} (F0 : OkL X.prog X.w X.K X.mg X.base T.tb ca x k a Ng fs) (hg : Gl X x) (TB : LamX.TabB X.base X.mg c Pt) (hcode : X.env.code = .ref c) (hq : X.env.qual = q) (hmT : (Pt, q ++ "<lambda>") ∈ T.tb) (hu : ∀ p ∈ T.tb, p.1 = Pt → p.2 = q ++ "<lambda>") (hr : Room (k + 1) X.A) (hr2 : 1 ≤ k) (tk : L2N.Takes X W)
    (L : LamX.LamS X.env.scope scope) (hdef : defaultsOf params X.env = ([], [])) (hbind : ∀ (q : PySem.Str) (cl : List (PySem.Str × Addr)) (pm cv ctv : Value), bindArgs (PySem.W.kla_fn "<lambda>" q params body scope cl pm cv ctv) ⟨[], []⟩ = pure [])
    (hbody : ∀ (A : Around) (outer : List PySem.Env) (s : Shared) (H : Hp) (E : XK) (f c' : Addr), Room (k - 1) (A.deeper (LamX.lamEnv X scope s.heap.objs.size f c')) → L2N.Takes (lamN X A outer s H E scope f c') (fun cls d _ H' => E cls d H') → VE (lamN X A outer s H E scope f c') T ca (fun cls d _ H' => E cls d H') body fb)
    (hdb : (x == ("__debug__" : PySem.Str)) = false) (hd : (a == ("__debug__" : PySem.Str)) = false) (hcd : (a == ("__classdict__" : PySem.Str)) = false) :
    VE X T ca W (.Call (.Name x p) [.Lambda params body scope lpos] [] pos) (fLam (runL Ng.length fs) fb) := by
  rw [← hq] at hmT hu
  refine ⟨fun pins s σ H Q I ⟨m, ρ, S, sm, en, q⟩ => ?_⟩
  obtain ⟨pg, bg, sg, fd, FD, hb, Sg, hNg, hva, hG⟩ := F0.ex
  refine wpAny_Call_Name_kw (ld_glob I hg F0.gl (PySem.W.callWith_K (h₀ := X.base) I.ok.mod.kin F0.kp ?_ (by rfl) (by rfl)) hdb)
  show wpAny _ _ (spliced ((false, eval (.Lambda params body scope lpos) X.env) :: backTo pos (starEach [] X.env))) _ _ s
  refine Calls.spliced_cons (LamX.lam_make2 I TB hcode hmT hu sm.tabs hdef (L.has I.ok) fun f c' pm' ctv H1 s' I1 eN T1 hf hfn hfr hco => Calls.spliced_nil ⟨I1.kIn, ?_⟩)
  have mv : Mv X.K m S.length H m S.length H1 := ⟨Nat.le_refl _, fun _ _ => rfl, fun b vs h => eN b _ h (by intro _ z; cases z)⟩
  have at_ : ∀ l c0, S[l]? = some c0 → H1 (m l) = H (m l) := fun l c0 e => by
    obtain ⟨o, h1, _, _, h2, _⟩ := (sm.cell l c0 e).notTup
    rw [h1]; exact eN _ _ h1 h2
  have nx : Nx m S.length H m S.length H1 := ⟨Nat.le_refl _, fun _ _ => rfl, fun l h1 h2 => absurd (Nat.lt_of_lt_of_le h2 h1) (Nat.lt_irrefl _), fun b o e _ nt => eN b o e nt, fun b o e nt => ⟨o, eN b o e nt, nt⟩⟩
  have sm1 : Sim X.K T m S H1 := ⟨sm.inj, fun l c0 e => (sm.cell l c0 e).mv mv (at_ l c0 e), T1, fun p hp => by
    obtain ⟨v, h1, h2⟩ := sm.exs p hp
    exact ⟨v, eN _ _ h1 (by intro _ z; cases z), h2.mv mv⟩, fun p hp => (sm.evs p hp).mv mv, fun p hp => eN _ _ (sm.cos p hp) fun ps => LamX.codeO_ne ps⟩
  have en1 : EnvOk X.K T m S.length H1 ρ σ := en.mv mv
  let T' : Tz := { tb := T.tb, xs := T.xs, fx := [(0, .ref f)], ev := (σ, ρ) :: T.ev, co := (c', X.env.qual ++ "<lambda>") :: T.co }
  have sm2 : Sim X.K T' m S H1 := ⟨sm1.inj, sm1.cell, sm1.tabs, sm1.exs, fun p hp => by
    rcases List.mem_cons.mp hp with rfl | hp
    · exact ⟨en1.1, en1.2.1⟩
    · exact sm1.evs p hp, fun p hp => by
    rcases List.mem_cons.mp hp with rfl | hp
    · exact hco
    · exact sm1.cos p hp⟩
  obtain ⟨oc, od, dV, kV, doc, pm, an, cdv, ct, osl, rfl, lk, hcd', _, _⟩ := FD.ex
  have rc : codeAny (model X.prog X.w) X.A (.call (.ref (He.ga X.K x)) ⟨[.ref f], []⟩) (CR (L2N.CX X.prog X.w) X.stack X.prog X.w H1 s' Q (fun cls d H' => W cls d σ H')) s' := by
    refine LamX.run_ofS (N := Ng) (ps := [a]) (us := [.ref f]) (vs := [.ref f]) lk hcd' Sg hr I1.env0 (hb s' [.ref f] I1.kIn rfl) (.cons rfl .nil) rfl fun hr' => ⟨_, hG T' f (fun S' => fb ρ S') cdv X.A X.stack s' H1 _ rfl rfl hr' (L2N.takes_of rfl rfl rfl rfl) (fun W' pn xe p1 p2 tk' => ?_), ?_⟩
    · have hr3 : Room (k - 1 + 1) (X.A.deeper (envOfC x sg s'.heap.objs.size (He.ga X.K x) cdv)) := by rw [Nat.sub_add_cancel hr2]; exact hr'
      refine pe_imp (pe_actN (t := fun E => tV X.K T ca (fun cls d _ H' => E cls d H') fb) (pn := pn) (xe := xe) I1 L hf hfn hfr (hbind _ _ _ _ _) tk' hr3 (fun A outer s2 H2 E hr4 => hbody A outer s2 H2 E f c' ⟨hr4.hd, hr4.dp, hr4.un⟩ lamN_takes) hNg hva hd hcd) fun σZ HZ QZ ⟨mZ, ρZ, SZ, smZ, enZ, qZ⟩ => ?_
      have ev := smZ.evs (σ, ρ) List.mem_cons_self
      refine ⟨enZ.2.2 (0, .ref f) List.mem_cons_self, smZ.cos (c', _) List.mem_cons_self, mZ, ρ, SZ, smZ.less rfl (fun _ h => h) (fun _ h => List.mem_cons_of_mem _ h) (fun _ h => List.mem_cons_of_mem _ h), ⟨ev.1, ev.2, en.2.2⟩, ?_⟩
      have qZ' : Post X.K T' ca W' (fb ρ SZ) mZ SZ HZ σZ (Rep X.K) QZ := qZ
      cases e : fb ρ SZ with
      | ok d S2 => rw [e] at qZ'; exact fun m2 H2 v nx2 s2 r2 => qZ' m2 H2 v nx2 (smZ.back nx2 s2 rfl) r2
      | exc cc ww S2 => rw [e] at qZ'; exact fun m2 H2 y v nx2 s2 hx rr => qZ' m2 H2 y v nx2 (smZ.back nx2 s2 rfl) hx rr
      | bad => rw [e] at qZ'; exact qZ'
    · refine ⟨m, enter Ng.length [], S, sm2, ?_, ?_⟩
      · have hl := (List.getElem?_eq_some_iff.mp hNg).1
        refine ⟨by simp [enter, L2.start]; omega, fun i d e => ?_, fun p hp => ?_⟩
        · unfold enter at e
          rw [List.map_nil, List.nil_append, List.getElem?_replicate] at e
          split at e <;> cases e
        · have hp' : p ∈ [((0, .ref f) : Nat × V)] := hp
          obtain rfl : p = (0, .ref f) := by simpa using hp'
          rfl
      · have q' := Post.shift nx q
        unfold fLam runL at q'
        cases e : fs (fun S' => fb ρ S') (enter Ng.length []) S with
        | nx ρ1 S1 => rw [e] at q'; exact fun m1 H2 σ1 nx1 s1 en1 => q' m1 H2 .non nx1 (s1.less rfl (fun _ h => h) (fun _ h => List.mem_cons_of_mem _ h) (fun _ h => List.mem_cons_of_mem _ h)) Rep.non
        | ret d S1 => rw [e] at q'; exact fun m1 H2 v nx1 s1 rr => q' m1 H2 v nx1 (s1.less rfl (fun _ h => h) (fun _ h => List.mem_cons_of_mem _ h) (fun _ h => List.mem_cons_of_mem _ h)) rr
        | exc cc ww ρ1 S1 => rw [e] at q'; exact fun m1 H2 σ1 y v nx1 s1 en1 hx rr => q' m1 H2 y v nx1 (s1.less rfl (fun _ h => h) (fun _ h => List.mem_cons_of_mem _ h) (fun _ h => List.mem_cons_of_mem _ h)) hx rr
        | bk ρ1 S1 => rw [e] at q'; exact q'.elim
        | ct ρ1 S1 => rw [e] at q'; exact q'.elim
        | bad => rw [e] at q'; exact q'.elim
  refine wpAny_call (codeAny_mono rc fun r s2 hq => ?_)
  cases r with
  | error e => exact tk e s2 (L2N.XE.of_call I1 (fun cls d H' h => h) hq)
  | ok fl =>
    cases fl with
    | ret u => exact I1.after hq
    | next => exact False.elim hq
    | brk => exact False.elim hq
    | cont => exact False.elim hq
end G

set_option maxRecDepth 100000
set_option maxHeartbeats 4000000
namespace G
open PySem PySem.Spec PyProof.Rows L2 HotX
section
variable {prog : Program} {w : World} {A : Around} {E : Value → Shared → Prop} {s : Shared}
theorem pick_rev (xs : Array Value) : ((List.range xs.size).filterMap fun (k : Nat) => xs[(((xs.size : Int) - 1) + (k : Int) * (-1)).toNat]?).toArray = xs.toList.reverse.toArray := by
  congr 1
  apply List.ext_getElem?
  intro j
  have e : ((List.range xs.size).filterMap fun (k : Nat) => xs[(((xs.size : Int) - 1) + (k : Int) * (-1)).toNat]?) = (List.range xs.size).map fun k => xs.getD (xs.size - 1 - k) .none := by
    have h : ∀ l : List Nat, (∀ k ∈ l, k < xs.size) → (l.filterMap fun (k : Nat) => xs[(((xs.size : Int) - 1) + (k : Int) * (-1)).toNat]?) = l.map fun k => xs.getD (xs.size - 1 - k) .none := by
      intro l
      induction l with
      | nil => intro _; rfl
      | cons a l ih =>
        intro hl
        have ha := hl a List.mem_cons_self
        have e1 : (((xs.size : Int) - 1) + (a : Int) * (-1)).toNat = xs.size - 1 - a := by omega
        rw [List.filterMap_cons, e1, Array.getElem?_eq_getElem (by omega), List.map_cons, ih fun k hk => hl k (List.mem_cons_of_mem _ hk)]
        simp only [List.cons.injEq, and_true]
        simp [Array.getD, show xs.size - 1 - a < xs.size by omega]
    exact h _ fun k hk => List.mem_range.mp hk
  rw [e]
  by_cases hj : j < xs.size
  · rw [List.getElem?_map, List.getElem?_range hj, List.getElem?_reverse (by simpa using hj)]
    simp [Array.getD, show xs.size - 1 - j < xs.size by omega]
  · rw [List.getElem?_eq_none (by simpa using Nat.le_of_not_lt hj), List.getElem?_eq_none (by simpa using Nat.le_of_not_lt hj)]
theorem get_rev {t sl : Addr} {items : Array Value} {vl vu vs : Value} {Q : Value → Shared → Prop} (ht : IsTup s.heap t items) (hs : s.heap.IsSliceOf sl vl vu vs) (pl : IsPart vl none) (pu : IsPart vu none) (ps : IsPart vs (some (-1)))
    (h : Q (.ref s.heap.objs.size) { s with heap := s.heap.push { cls := .type "tuple", data := .seq items.toList.reverse.toArray } }) (hsz : items.size ≤ sizeLine) : wpAny (model prog w) A (getItem (.ref t) (.ref sl)) Q E s := by
  have fits : sizeOk (.seq items.toList.reverse.toArray) := by
    show items.toList.reverse.toArray.size ≤ sizeLine
    simpa using hsz
  obtain ⟨os, hos, hcs, hds⟩ := id hs
  have ty : s.TypeIs (.ref sl) "slice" := ⟨os, hos, hcs⟩
  unfold getItem; try with_reducible refine wpAny_holding ?_
  first | refine wpAny_bind (wpAny_pure ?_) | skip
  refine wpAny_bind (wpAny_sequenceKey ht.typeIs (by decide) (wpAny_bind (wpAny_callSpecial?_slot (name := Str.ofString "__getitem__") ht.typeIs PyProof.Rows.slot_tuple_getitem (wpAny_call_entry PyProof.Rows.slot_tuple_getitem ht.typeIs entry_tuple_getitem ?_ (args_tuple_getitem _ _)))))
  show wpAny _ _ (Builtin.Tuple.tupleItemsOf (.ref t) >>= _) _ _ s; refine wpAny_bind (tupleItemsOf_ ht (wpAny_bind (wpAny_typeOf ty ?_))); rw [if_pos (by decide)]
  have ap : wpAny (model prog w) A.in1 (Builtin.Slice.sliceApplied (.ref sl) (pure (items.size : Int))) (fun r s' => r = ((items.size : Int) - 1, -1, items.size) ∧ s' = s) E s := by
    unfold Builtin.Slice.sliceApplied Builtin.Slice.sliceFields
    refine wpAny_bind (wpAny_bind (wpAny_field hos hds (x := vl) rfl (wpAny_bind (wpAny_field hos hds (x := vu) rfl (wpAny_bind (wpAny_field hos hds (x := vs) rfl (wpAny_pure ?_)))))))
    refine wpAny_bind (HT.slicePart_ ps ?_)
    show wpAny _ _ (if ((-1 : Int) == 0) = true then _ else _) _ _ s; rw [if_neg (by decide)]
    refine wpAny_bind (HT.slicePart_ pl (wpAny_bind (HT.slicePart_ pu (wpAny_bind (wpAny_pure ?_)))))
    show wpAny _ _ (pure ((items.size : Int) - 1, (-1 : Int), Builtin.Slice.slicePlaces ((items.size : Int) - 1) (-1) (-1))) _ _ s
    have e : Builtin.Slice.slicePlaces ((items.size : Int) - 1) (-1) (-1) = items.size := by
      unfold Builtin.Slice.slicePlaces
      rw [if_neg (by decide)]
      by_cases h : 0 < items.size
      · rw [if_pos (by omega)]
        have : ((items.size : Int) - 1 - -1 - 1) / -(-1) + 1 = items.size := by
          rw [show (-(-1) : Int) = 1 from rfl, Int.ediv_one]; omega
        rw [this]; rfl
      · rw [if_neg (by omega)]; omega
    rw [e]
    exact wpAny_pure ⟨rfl, rfl⟩
  refine wpAny_bind (wpAny_mono ap (fun r s' hr => ?_) fun _ _ z => z)
  obtain ⟨rfl, rfl⟩ := hr
  show wpAny _ _ (if ((((items.size : Int) - 1) == 0 && (-1 : Int) == 1 && items.size == items.size) = true) then _ else _) _ _ _
  rw [if_neg (by rw [show ((-1 : Int) == 1) = false from rfl, Bool.and_false, Bool.false_and]; exact Bool.false_ne_true), pick_rev]
  first
    | exact wpAny_bind (m := Builtin.Tuple.tupleExact _) (wpAny_newObj_type (wpAny_pure ⟨_, rfl, wpAny_pure h⟩) fits)
    | exact wpAny_bind (wpAny_bind (m := Builtin.Tuple.tupleExact _) (wpAny_newObj_type (wpAny_pure (wpAny_pure ⟨_, rfl, wpAny_pure h⟩)) fits))
    | exact wpAny_bind (wpAny_bind (m := Builtin.Tuple.tupleExact _) (wpAny_newObj_type (wpAny_pure ⟨_, rfl, wpAny_pure h⟩) fits))
end
section
variable {X : Cx} {T : Tz} {ca : Nat → Addr} {W : WX}
def dRev (a : D) (S : Store) : Option (D × Store) := match a with
  | .tup xs => some (.tup xs.reverse, S)
  | .loc l => match S[l]? with
    | some (.lst xs) => some (.loc S.length, S ++ [.lst xs.reverse])
    | some (.ro xs) => some (.loc S.length, S ++ [.lst xs.reverse])
    | _ => none
  | _ => none
def fRev (f : F) : F := fun ρ S => (f ρ S).bind fun d S1 => ofO (dRev d S1)
def tRv (K : PySem.W.Frag) (te : TE) : TE := fun σ H Q => te σ H fun x H1 => ∃ a xs, x = .ref a ∧ ((SqL K H1 a xs ∧ ∀ p, H1 p = none → Q (.ref p) (upd H1 p (.lst xs.reverse))) ∨ (SqT K H1 a xs ∧ ∀ p, H1 p = none → Q (.ref p) (upd H1 p (.tup xs.reverse))))
theorem pe_rv {e : Expr} {te : TE} {k : Nat} {p1 p2 p3 pos : Pos} (he : PE X e te) : PE X (.Subscript e (.Slice none none (some (.UnaryOp .USub (.Constant (.int 1) k p1) p2)) p3) pos) (tRv X.K te) := by
  refine ⟨fun pins s σ H Q I h => Subscript_ (thn (he.run pins s σ H _ I h) fun v s1 ⟨x, H1, I1, r1, a, xs, ex, q⟩ => ?_)⟩
  subst ex; cases r1
  have step : PO X (some (.UnaryOp .USub (.Constant (.int 1) k p1) p2)) (tPart (tUn (rU fun i => .int (-i)) (tC (.int 1)))) := po_some (pe_un un_neg pe_int)
  refine wpAny_Slice (thn (po_none.run pins s1 σ H1 (fun o H2 => o = none ∧ H2 = H1) I1 ⟨rfl, rfl⟩) fun vl s2 ⟨l, H2, I2, pl, el, e2⟩ => thn (po_none.run pins s2 σ H2 (fun o H3 => o = none ∧ H3 = H2) I2 ⟨rfl, rfl⟩) fun vu s3 ⟨u, H3, I3, pu, eu, e3⟩ => ?_)
  subst el e2 eu e3
  refine thn (step.run pins s3 σ H3 (fun o H4 => o = some (-1) ∧ H4 = H3) I3 ⟨1, rfl, -1, rfl, rfl, rfl⟩) fun vs s4 ⟨o, H4, I4, ps, eo, e4⟩ => ?_
  subst eo e4
  have J : Inv X pins σ H4 { s4 with heap := s4.heap.push { cls := .type "slice", data := .fields #[vl, vu, vs] } } := I4.kept (t' := s4.toks) fun b ob q => Heap.get?_push_of_some _ q
  show wpAny (model X.prog X.w) X.A (subscriptTail e (.Slice none none (some (.UnaryOp .USub (.Constant (.int 1) k p1) p2)) p3) (.ref a) (.ref s4.heap.objs.size)) (EP X pins σ Q) X.xe { s4 with heap := s4.heap.push { cls := .type "slice", data := .fields #[vl, vu, vs] } }
  rcases q with ⟨hx, q⟩ | ⟨hx, q⟩
  · obtain ⟨its, r, ht, hz⟩ := J.list hx
    have hlen := r.length
    refine tail_any (ops := [.ref a, .ref s4.heap.objs.size]) ht.isList.typeIs (PySem.slot_list_getitem.lookup) (wpAny_getItem_list_slice ht.isList (Heap.IsSliceOf.new _ vl vu vs) pl pu ps (by decide) ?_ (by rw [List.size_toArray]; omega)) (by with_unfolding_all rfl)
    rw [PySem.W.krv_pick]
    exact ⟨.ref _, _, J.laid (t' := s4.toks) (o := .lst xs.reverse) (fun b ob q => Heap.get?_push_of_some _ q) (Nat.le_refl _) ⟨by rw [List.length_reverse]; exact hz, _, 0, r.reverse, Heap.get?_push_size _ rfl⟩, rfl, q _ (J.hok.fresh (Nat.le_refl _))⟩
  · obtain ⟨its, r, ht, hz⟩ := J.tuple hx
    have hlen := r.length
    refine tail_any (ops := [.ref a, .ref s4.heap.objs.size]) ht.typeIs PyProof.Rows.slot_tuple_getitem.lookup (get_rev ht (Heap.IsSliceOf.new _ vl vu vs) pl pu ps ?_ (by rw [List.size_toArray]; omega)) (by with_unfolding_all rfl)
    exact ⟨.ref _, _, J.laid (t' := s4.toks) (o := .tup xs.reverse) (fun b ob q => Heap.get?_push_of_some _ q) (Nat.le_refl _) ⟨by rw [List.length_reverse]; exact hz, _, r.reverse, IsTup.new _ _⟩, rfl, q _ (J.hok.fresh (Nat.le_refl _))⟩
/-- xs[::-1] -/
theorem ve_rev {e : Expr} {f : F} {k : Nat} {p1 p2 p3 pos : Pos} (he : VE X T ca W e f) : VE X T ca W (.Subscript e (.Slice none none (some (.UnaryOp .USub (.Constant (.int 1) k p1) p2)) p3) pos) (fRev f) :=
  pe_imp (pe_rv he) fun σ H Q ⟨m, ρ, S, sm, en, p⟩ => by
    refine tV_mono (tV_bind sm en p) fun x H1 ⟨m1, S1, d, nx, sm1, en1, r, q⟩ => ?_
    cases d with
    | loc l =>
      obtain ⟨hl, rfl⟩ := r.loc_inv
      unfold dRev at q
      dsimp only at q
      split at q
      · rename_i xs ec
        obtain ⟨vs, ev, rr⟩ := sm1.cell _ _ ec
        refine ⟨_, vs, rfl, .inl ⟨.inl (.inl ev), fun p' hp => ?_⟩⟩
        obtain ⟨n1, n2, n3⟩ := new_lst sm1 rr.reverse hp
        exact Post.there q n1 n2 n3
      · rename_i xs ec
        obtain ⟨vs, o, ev, rr⟩ := sm1.cell _ _ ec
        refine ⟨_, vs, rfl, .inl ⟨.inl (.inr ⟨o, ev⟩), fun p' hp => ?_⟩⟩
        obtain ⟨n1, n2, n3⟩ := new_lst sm1 rr.reverse hp
        exact Post.there q n1 n2 n3
      · exact q.elim
    | tup xs =>
      obtain ⟨a, vs, rfl, qa, rr⟩ := r.tup_inv
      exact ⟨a, vs, rfl, .inr ⟨tsq qa, fun p' hp => Post.there q (nx_aside hp) (sm1.aside hp) (Rep.tup upd_same (rr.reverse.mv (mv_fresh hp)))⟩⟩
    | _ => exact q.elim
/-! ### max(.., default=0) -/
def dMaxD (a : D) (S : Store) : Option (D × Store) := match a with
  | .loc l => match S[l]? with
    | some (.lst xs) => match intsOf xs with
      | some ns => some (.int (if ns = [] then 0 else maxL ns), S)
      | none => none
    | _ => none
  | _ => none
def fMaxD (f : F) : F := fun ρ S => (f ρ S).bind fun d S1 => ofO (dMaxD d S1)
end
end G

set_option maxRecDepth 100000
set_option maxHeartbeats 4000000
namespace G
open PySem PySem.Spec PyProof.Rows L2 HotX
section
variable {X : Cx} {T : Tz} {ca : Nat → Addr} {W : WX}
/-! # max(.., default=0) -/
theorem foldMax_mem : ∀ (ns : List Int) (n : Int), (n :: ns).foldl max 0 = (n :: ns).foldl max 0 := fun _ _ => rfl
theorem foldl_max (ns : List Int) : ∀ n : Int, ns.foldl max n ∈ n :: ns ∧ ∀ y ∈ n :: ns, y ≤ ns.foldl max n := by
  induction ns with
  | nil => intro n; simp
  | cons a r ih =>
    intro n
    obtain ⟨h1, h2⟩ := ih (max n a)
    rw [List.foldl_cons]
    refine ⟨?_, fun y hy => ?_⟩
    · rcases List.mem_cons.mp h1 with e | e
      · rw [e]
        rcases Int.le_total n a with h | h
        · rw [Int.max_eq_right h]; simp
        · rw [Int.max_eq_left h]; simp
      · exact List.mem_cons_of_mem _ (List.mem_cons_of_mem _ e)
    · have h3 := h2 (max n a) List.mem_cons_self
      rcases List.mem_cons.mp hy with rfl | hy
      · exact Int.le_trans (Int.le_max_left _ _) h3
      · rcases List.mem_cons.mp hy with rfl | hy
        · exact Int.le_trans (Int.le_max_right _ _) h3
        · exact h2 y (List.mem_cons_of_mem _ hy)
theorem ints_dp {K : PySem.W.Frag} {H : Hp} : ∀ ns : List Int, DpAll K H (ns.map V.int) (ns.map PyData.int)
  | [] => .nil
  | n :: ns => .cons (.int n) (ints_dp ns)
theorem ints_depth : ∀ ns : List Int, PyData.depthAll (ns.map PyData.int) = 0
  | [] => rfl
  | n :: ns => by
    show max (PyData.depth (.int n)) (PyData.depthAll (ns.map PyData.int)) = 0
    rw [ints_depth ns]; rfl
def rMaxK (K : PySem.W.Frag) : List V → List V → Hp → VK → Prop := fun vs zs H Q => ∃ (a : Addr) (ns : List Int), vs = [.ref a] ∧ zs = [.int 0] ∧ SqL K H a (ns.map V.int) ∧ Q (.int (if ns = [] then 0 else maxL ns)) H
theorem cr_maxK (hc : X.calm = true) (hu : X.A.units + 1 < cLine) : CallRK X (.builtin "max") [PySem.Str.ofString "default"] (rMaxK X.K) := by
  intro pins s σ H xs zs us ws Q I r rz ⟨a, ns, e1, e2, hs, q⟩
  subst e1 e2
  rw [Vals.ref1 r]
  obtain ⟨w0, rfl, rw0⟩ := rz.one
  obtain ⟨its, rv, hl, hz⟩ := I.list hs
  obtain ⟨as, hr⟩ := Dp.readsAll I (ns.map PyData.int) _ its (ints_dp ns) rv
  have al : PySem.W.AlikeAll (ns.map PyData.int) := ⟨fun x hx y hy => by
    obtain ⟨i, _, rfl⟩ := List.mem_map.mp hx
    obtain ⟨j, _, rfl⟩ := List.mem_map.mp hy
    rfl, fun x hx => by obtain ⟨i, _, rfl⟩ := List.mem_map.mp hx; intro z; cases z⟩
  refine PySem.W.max_list_default (vs := its.toArray) (I.ok.hd hc) hl.isList (by simpa using hr) al (by rw [ints_depth]; omega) (fun e h' tk hk => ?_) fun y ys i v h' tk bs e hv hR hk => ?_
  · have e' : ns = [] := List.map_eq_nil_iff.mp e
    subst e'
    exact ⟨.int 0, H, I.kept (t' := tk) hk, rw0, q⟩
  · cases ns with
    | nil => cases e
    | cons n ns =>
      simp only [List.map_cons, List.cons.injEq] at e
      obtain ⟨rfl, rfl⟩ := e
      rw [PySem.W.maxD_ints] at hR
      cases hR with
      | int i t =>
        refine ⟨.int _, H, I.kept (t' := tk) hk, ⟨t, rfl⟩, ?_⟩
        obtain ⟨h1, h2⟩ := foldl_max ns n
        rw [if_neg (by simp), ← maxL_uniq (by simp) h1 h2] at q
        exact q
theorem ve_maxD {e : Expr} {f : F} {p pos kp kpos : Pos} {j : Nat} (hc : X.calm = true) (hu : X.A.units + 1 < cLine) (hm : X.mg "max" = none) (he : VE X T ca W e f) (hg : Gl X "max" := by rfl)
    (hs : backTo pos (starEach [e] X.env) = (false, eval e X.env) :: backTo pos (starEach [] X.env) := by rfl) (hs2 : starEach [e] X.env = (false, eval e X.env) :: starEach [] X.env := by rfl) (hpl : (backTo pos (starEach [e] X.env)).any (·.1) = false := by rfl)
    (hall : (backToKw pos (keywordEach [⟨some "default", .Constant (.int 0) j kp, kpos⟩] X.env)).all (·.1.isSome) = true := by rfl) (hnone : (backToKw pos (keywordEach [⟨some "default", .Constant (.int 0) j kp, kpos⟩] X.env)).any (·.1.isNone) = false := by rfl)
    (hks : (backToKw pos (keywordEach [⟨some "default", .Constant (.int 0) j kp, kpos⟩] X.env)).filterMap (·.1) = [PySem.Str.ofString "default"] := by rfl) :
    VE X T ca W (.Call (.Name "max" p) [e] [⟨some "default", .Constant (.int 0) j kp, kpos⟩] pos) (fMaxD f) :=
  pe_imp (pe_callBK (cr_maxK hc hu) hg hm (by decide +kernel) (pa_cons he pa_nil hs2) (pk_cons pe_int pk_nil) (by decide) (by decide) hs hpl hall hnone hks) fun σ H Q ⟨m, ρ, S, sm, en, p⟩ => by
    refine tV_mono (tV_bind sm en p) fun x H1 ⟨m1, S1, d, nx, sm1, en1, r, q⟩ => ?_
    cases d with
    | loc l =>
      obtain ⟨hl, rfl⟩ := r.loc_inv
      unfold dMaxD at q
      dsimp only at q
      split at q
      · rename_i xs ec
        split at q
        · rename_i ns en'
          obtain ⟨vs, ev, rr⟩ := sm1.cell _ _ ec
          rw [intsOf_rep en' rr] at ev
          exact ⟨_, ns, rfl, rfl, .inl (.inl ev), Post.here q sm1 Rep.int⟩
        · exact q.elim
      · exact q.elim
    | _ => exact q.elim
end
end G

set_option maxRecDepth 100000
set_option maxHeartbeats 4000000
namespace G
open PySem PySem.Spec PyProof.Rows L2 HotX
/-! # sorted(..) of plain data -/
def keyD : Key → D
  | .inl i => .int i
  | .inr z => .str z
/-- the items of what is sorted -/
def seqOf (d : D) (S : Store) : Option (List D) := match d with
  | .tup xs => some xs
  | .loc l => match S[l]? with
    | some (.lst xs) => some xs
    | some (.ro xs) => some xs
    | some (.dT kvs) => some (kvs.map fun kv => .tup (kv.1.map keyD))
    | _ => none
  | _ => none
def encOf (S : Store) (d : D) : PyData := (pyOf 20 S d).getD .none
def sortOk (S : Store) (xs : List D) : Bool :=
  (xs.all fun x => (pyOf 20 S x).isSome && decide ((encOf S x).depth ≤ 40)) && (xs.all fun x => xs.all fun y => PySem.W.alike (encOf S x) (encOf S y)) &&
    ((xs.all fun x => match encOf S x with | .tuple (_ :: _) => true | _ => false) || xs.all fun x => match encOf S x with | .none => false | .tuple _ => false | _ => true) && decide (xs.length ≤ sizeLine)
def cSorted : List D → Store → Option (D × Store) := fun as S => match as with
  | [d] => match seqOf d S with
    | some xs => if sortOk S xs = true then some (.loc S.length, S ++ [.lst (xs.mergeSort (PySem.W.dataLe false (encOf S)))]) else none
    | none => none
  | _ => none
section
variable {prog : Program} {w : World} {A : Around} {E : Value → Shared → Prop} {s : Shared}
theorem collect_tup {l : Addr} {vs : List Value} {Q : List Value → Shared → Prop} (hl : IsTup s.heap l vs.toArray)
    (h : Q vs { s with heap := (s.heap.push (seqObj "list" #[] 0)).update s.heap.objs.size (Obj.mapSeq (· ++ vs.toArray)) }) (hsz : vs.length ≤ sizeLine) : wpAny (model prog w) A (collect (.ref l)) Q E s := by
  obtain ⟨o, ho, hc, n, hd⟩ := id hl
  have ho' : (s.heap.push (seqObj "list" #[] 0)).get? l = some o := Heap.get?_push_of_some _ ho
  have hN : (s.heap.push (seqObj "list" #[] 0)).get? s.heap.objs.size = some (seqObj "list" #[] 0) := Heap.get?_push_size _ rfl
  unfold collect
  refine wpAny_bind (wpAny_runValue (codeAny_builtin entry_proto_collect' ?_))
  show wpAny _ _ (do again (.builtin "list.__iadd__" ⟨[← newList [], .ref l], []⟩)) _ _ s
  refine wpAny_bind (wpAny_newList (wpAny_pure ⟨Code.quiet_builtin _ (by decide +kernel), codeAny_builtin entry_list_iadd' ?_⟩))
  show wpAny _ _ (Builtin.List.listExtendWith (.ref s.heap.objs.size) (.ref l) (.ref s.heap.objs.size)) _ _ { s with heap := s.heap.push (seqObj "list" #[] 0) }
  unfold Builtin.List.listExtendWith; refine wpAny_bind (wpAny_typeOf (T := "tuple") ⟨o, ho', hc⟩ ?_)
  rw [if_pos (by rw [show (Value.type "tuple" == Value.type "tuple") = true from rfl, Bool.or_true])]
  refine wpAny_bind (listItems_at ho' hd (wpAny_bind (listItems_at (xs := #[]) (n := 0) hN rfl ?_)))
  rw [if_neg (by simp)]
  refine wpAny_bind (listUpdate_at (xs := #[]) (n := 0) hN rfl (wpAny_pure ?_) (Nat.zero_le _) (by show (#[] ++ vs.toArray).size ≤ sizeLine + 1; simp only [Array.size_append, List.size_toArray, List.length_nil]; omega))
  show wpAny (model prog w) A (do
      let o ← load s.heap.objs.size
      match o.data with
      | .seq xs _ => pure xs.toList
      | _ => unsupported "internal:collect") Q E { s with heap := (s.heap.push (seqObj "list" #[] 0)).update s.heap.objs.size (Obj.mapSeq (· ++ vs.toArray)) }
  refine wpAny_bind (wpAny_load (get?_update_seq hN _) ?_)
  show wpAny _ _ (pure ((#[] : Array Value) ++ vs.toArray).toList) Q E _; rw [show ((#[] : Array Value) ++ vs.toArray).toList = vs by simp]; exact wpAny_pure h
end
section
variable {X : Cx} {T : Tz}
theorem each_of {K : PySem.W.Frag} {m : Nat → Addr} {n : Nat} {H : Hp} : ∀ {xs : List D} {vs : List V} {us : List Value}, RepL K m n H xs vs → Vals vs us → PySem.W.EachIs (fun v d => ∃ x, L2.RelV x v ∧ Rep K m n H d x) us xs
  | [], vs, us, r, rv => by obtain rfl := r.nil_inv; cases rv; exact .nil
  | d :: ds, vs, us, r, rv => by
    obtain ⟨x, vs', rfl, r1, r2⟩ := r.cons_inv
    cases rv with
    | cons a b => exact .cons ⟨x, a, r1⟩ (each_of r2 b)
theorem of_each {K : PySem.W.Frag} {m : Nat → Addr} {n : Nat} {H : Hp} : ∀ {xs : List D} {us : List Value}, PySem.W.EachIs (fun v d => ∃ x, L2.RelV x v ∧ Rep K m n H d x) us xs → ∃ vs, RepL K m n H xs vs ∧ Vals vs us
  | _, _, .nil => ⟨[], RepL.nil, .nil⟩
  | _, _, .cons ⟨x, a, r⟩ t => by
    obtain ⟨vs, h1, h2⟩ := of_each t
    exact ⟨x :: vs, RepL.cons r h1, .cons a h2⟩
theorem enc_ok {K : PySem.W.Frag} {m : Nat → Addr} {S : Store} {H : Hp} (sm : Sim K T m S H) {d : D} {v : V} (h : (pyOf 20 S d).isSome = true) (r : Rep K m S.length H d v) : Dp K H v (encOf S d) := by
  obtain ⟨e, he⟩ := Option.isSome_iff_exists.mp h
  unfold encOf
  rw [he]
  exact pyOf_ok sm 20 he r
theorem sortOk_parts {S : Store} {xs : List D} (h : sortOk S xs = true) : (∀ x ∈ xs, (pyOf 20 S x).isSome = true ∧ (encOf S x).depth ≤ 40) ∧ PySem.W.AllAlike (xs.map (encOf S)) ∧ PySem.W.Sortable (xs.map (encOf S)) ∧ xs.length ≤ sizeLine := by
  unfold sortOk at h
  simp only [Bool.and_eq_true, Bool.or_eq_true, List.all_eq_true, decide_eq_true_eq] at h
  obtain ⟨⟨⟨h1, h2⟩, h3⟩, h4⟩ := h
  refine ⟨h1, fun d hd d' hd' => ?_, ?_, h4⟩
  · obtain ⟨x, hx, rfl⟩ := List.mem_map.mp hd
    obtain ⟨y, hy, rfl⟩ := List.mem_map.mp hd'
    exact h2 x hx y hy
  · rcases h3 with h3 | h3
    · left
      intro d hd
      obtain ⟨x, hx, rfl⟩ := List.mem_map.mp hd
      have q := h3 x hx
      split at q
      · rename_i a b e
        exact ⟨a, b, e⟩
      · cases q
    · right
      intro d hd
      obtain ⟨x, hx, rfl⟩ := List.mem_map.mp hd
      have q := h3 x hx
      split at q
      · cases q
      · cases q
      · rename_i h5 h6
        exact ⟨h5, h6⟩
/-- behind the collecting -/
theorem sort_tail {pins : List (Addr × Obj)} {σ : St} {H : Hp} {s : Shared} {m : Nat → Addr} {S : Store} {xs : List D} {vs : List V} {us : List Value} {Q : VK} {h' : Heap} {tk : Nat} (hu : X.A.units + 64 < cLine) (I : Inv X pins σ H s) (sm : Sim X.K T m S H) (hk : ∀ b o, s.heap.get? b = some o → h'.get? b = some o)
    (r : RepL X.K m S.length H xs vs) (rv : Vals vs us) (ok : sortOk S xs = true) (q : PostO X.K T (some (D.loc S.length, S ++ [.lst (xs.mergeSort (PySem.W.dataLe false (encOf S)))])) m S H (Rep X.K) Q) :
    wpAny (model X.prog X.w) X.A.in1 (do let l ← newList us; let _ ← holding [l] (call (.builtin "list.sort") [l] []); ret l) (fun f s' => ∃ u, f = Fin.done (.ret u) ∧ EP X pins σ Q u s') X.xe { s with heap := h', toks := tk } := by
  obtain ⟨o1, o2, o3, o4⟩ := sortOk_parts ok
  have J : Inv X pins σ H { s with heap := h', toks := tk } := I.kept (t' := tk) hk
  have e := each_of r rv
  have hlen : us.length = xs.length := e.length
  refine wpAny_bind (wpAny_newList ?_ (by rw [hlen]; exact o4))
  have hoL : (h'.push (seqObj "list" us.toArray 0)).get? h'.objs.size = some (seqObj "list" us.toArray 0) := Heap.get?_push_size _ rfl
  have er : PySem.W.EachIs (fun v b => ∃ as, Reads (h'.push (seqObj "list" us.toArray 0)) v (encOf S b) as ∧ h'.objs.size ∉ as) us xs := by
    have key : ∀ (ys : List D) (zs : List Value), (∀ x ∈ ys, (pyOf 20 S x).isSome = true) → PySem.W.EachIs (fun v d => ∃ x, L2.RelV x v ∧ Rep X.K m S.length H d x) zs ys → PySem.W.EachIs (fun v b => ∃ as, Reads (h'.push (seqObj "list" us.toArray 0)) v (encOf S b) as ∧ h'.objs.size ∉ as) zs ys := by
      intro ys zs hy he
      induction he with
      | nil => exact .nil
      | cons hx _ ih =>
        obtain ⟨x, ra, rd⟩ := hx
        obtain ⟨as, hr⟩ := Dp.reads J _ _ _ (enc_ok sm (hy _ List.mem_cons_self) rd) ra
        refine .cons ⟨as, PyProof.Rows.Reads.keeps (fun b o q => Heap.get?_push_of_some _ q) hr, fun hn => ?_⟩ (ih fun x hx => hy x (List.mem_cons_of_mem _ hx))
        obtain ⟨o, ho⟩ := PyProof.On.reads_mem_get hr _ hn
        exact Nat.lt_irrefl _ (Heap.lt_size ho)
    exact key xs us (fun x hx => (o1 x hx).1) e
  show wpAny _ _ _ _ _ { s with heap := h'.push (seqObj "list" us.toArray 0), toks := tk }
  refine wpAny_bind (wpAny_holding (PySem.W.list_sort_data (s := { s with heap := h'.push (seqObj "list" us.toArray 0), toks := tk }) hoL e er o2 o3 o4 (fun b hb => ?_) fun out hl2 ho => ?_))
  · have := (o1 b hb).2
    show X.A.units + 1 + 1 + _ < _
    omega
  · obtain ⟨c, hc⟩ := PyProof.Rows.sortedHeap_at (vs := us) (out := out.toArray) hoL
    obtain ⟨ws, rw1, rw2⟩ := of_each ho
    have hn : H h'.objs.size = none := J.hok.fresh (Nat.le_refl _)
    obtain ⟨n1, n2, n3⟩ := new_lst sm rw1 hn
    refine wpAny_pure ⟨_, rfl, .ref h'.objs.size, upd H h'.objs.size (.lst ws), J.laid (t' := tk) (fun b u eb => ?_) (Nat.le_refl _) ?_, rfl, q _ _ _ n1 n2 n3⟩
    · have hb : b < h'.objs.size := Heap.lt_size eb
      rw [PyProof.Rows.sortedHeap_old (Nat.ne_of_lt hb) (by rw [size_push']; exact Nat.lt_succ_of_lt hb)]
      exact Heap.get?_push_of_some _ eb
    · exact ⟨by rw [rw1.len]; simpa using o4, out, c, rw2, hc⟩
theorem keyD_rep {K : PySem.W.Frag} {m : Nat → Addr} {n : Nat} {H : Hp} (k : Key) : Rep K m n H (keyD k) (kV k) := by
  cases k with
  | inl i => exact Rep.int
  | inr z => exact Rep.str
theorem keysD_rep {K : PySem.W.Frag} {m : Nat → Addr} {n : Nat} {H : Hp} : ∀ ks : List Key, RepL K m n H (ks.map keyD) (ks.map kV)
  | [] => RepL.nil
  | k :: ks => RepL.cons (keyD_rep k) (keysD_rep ks)
theorem call_dSorted (hc : X.calm = true) (hu : X.A.units + 64 < cLine) : CallR X (.builtin "sorted") (rC X.K T cSorted) := by
  intro pins s σ H xs us Q I r ⟨m, S, as, sm, ra, p⟩
  unfold cSorted at p
  split at p
  case h_2 => exact (p : False).elim
  rename_i d
  obtain ⟨v, rfl, r1⟩ := ra.one
  obtain ⟨u, rfl, ru⟩ := r.one
  cases es : seqOf d S with
  | none => rw [es] at p; exact (p : False).elim
  | some ys =>
    rw [es] at p
    dsimp only at p
    split at p
    case isFalse => exact (p : False).elim
    rename_i ok
    have ho := (sortOk_parts ok).2.2.2
    refine Calls.call_function_entry PyProof.Rows.kind_sorted PyProof.Rows.plain_sorted PyProof.Rows.entry_sorted (PyProof.Rows.args_sorted1 _) ?_
    unfold Builtin.«sorted»
    refine wpAny_bind (m := checkCount "sorted" 1 1 _) (wpAny_pure ?_)
    have lists : ∀ {a : Addr} {vs : List V}, SqL X.K H a vs → RepL X.K m S.length H ys vs → u = .ref a → wpAny (model X.prog X.w) X.A.in1 (do let l ← newList (← collect u); let _ ← holding [l] (call (.builtin "list.sort") [l] []); ret l) (fun f s' => ∃ u, f = Fin.done (.ret u) ∧ EP X pins σ Q u s') X.xe s := by
      intro a vs hs rr e
      subst e
      obtain ⟨its, rv, hl, hz⟩ := I.list hs
      refine wpAny_bind (collect_list hl.isList ?_ (by have := rv.length; omega))
      refine sort_tail (tk := s.toks) hu I sm (fun b o e => ?_) rr rv ok p
      have hb := Heap.lt_size e
      rw [Heap.get?_update_ne _ _ _ _ (Nat.ne_of_lt hb)]
      exact Heap.get?_push_of_some _ e
    cases d <;> simp only [seqOf, reduceCtorEq, Option.some.injEq] at es
    case tup zs =>
      subst es
      obtain ⟨a, vs, rfl, qa, rr⟩ := r1.tup_inv
      cases ru
      obtain ⟨its, rv, ht, hz⟩ := I.tuple (tsq qa)
      refine wpAny_bind (collect_tup ht ?_ (by have := rv.length; omega))
      refine sort_tail (tk := s.toks) hu I sm (fun b o e => ?_) rr rv ok p
      have hb := Heap.lt_size e
      rw [Heap.get?_update_ne _ _ _ _ (Nat.ne_of_lt hb)]
      exact Heap.get?_push_of_some _ e
    case loc l =>
      obtain ⟨hl, rfl⟩ := r1.loc_inv
      cases ru
      split at es
      · rename_i zs ec
        obtain rfl := Option.some.inj es
        obtain ⟨vs, ev, rr⟩ := sm.cell l _ ec
        exact lists (.inl (.inl ev)) rr rfl
      · rename_i zs ec
        obtain rfl := Option.some.inj es
        obtain ⟨vs, o, ev, rr⟩ := sm.cell l _ ec
        exact lists (.inl (.inr ⟨o, ev⟩)) rr rfl
      · rename_i kvs ec
        obtain rfl := Option.some.inj es
        obtain ⟨kvs', ev, rr⟩ := sm.cell l _ ec
        obtain ⟨z, hs, ks, pr, o, eds, ep, hob, hx, hdt, he, hn⟩ := (show ObjOk X.prog X.w H s.heap (m l) (.dT kvs') from Rd.ok (.inl ev) I.hok)
        have l1 : eds.size = ks.length := size_of_entries he
        have l2 : kvs'.length = ks.length := Paired.length pr
        refine wpAny_bind (PySem.W.kdu_collect (A := X.A.in1) (kdl_raw hs hx hdt) (I.ok.hd hc) hob (by omega) fun h' tk acc hk hacc => ?_)
        have ea : acc.toList = (ks.map fun x => x.2.1).map Value.ref := by
          rw [List.map_map]
          apply List.ext_getElem?
          intro j
          rw [List.getElem?_map]
          have hl : acc.toList.length = ks.length := by rw [Array.length_toList, hacc.1]; exact l1
          cases hj : acc.toList[j]? with
          | none =>
            have h1 := List.getElem?_eq_none_iff.mp hj
            rw [List.getElem?_eq_none (by omega)]
            rfl
          | some v =>
            obtain ⟨en, hen, hv⟩ := hacc.2 j v (by rw [← Array.getElem?_toList]; exact hj)
            have qe := entry_at he j
            rw [hen] at qe
            cases hb : ks[j]? with
            | none => rw [hb] at qe; exact nomatch (show some en = none from qe)
            | some b =>
              rw [hb] at qe
              have e2 : en = entryOfKey (tupleKind (mixKind X.prog X.w)) b := Option.some.inj qe
              rw [hv, e2]; rfl
        have rk : RepL X.K m S.length H (kvs.map fun kv => .tup (kv.1.map keyD)) ((ks.map fun x => x.2.1).map V.ref) := by
          have g : ∀ (a : List (List Key × D)) (b : List (List Key × V)) (c : List (List Key × Addr × Value)), RepK X.K m S.length H a b → KT H b c → RepL X.K m S.length H (a.map fun kv => .tup (kv.1.map keyD)) ((c.map fun x => x.2.1).map V.ref) := by
            intro a
            induction a with
            | nil =>
              intro b c h1 h2
              have e : b = [] := h1
              subst e
              cases h2
              exact RepL.nil
            | cons p a ih =>
              intro b c h1 h2
              obtain ⟨k, d⟩ := p
              obtain ⟨v, b', rfl, _, h1⟩ := h1
              cases h2 with
              | cons h t => exact RepL.cons (Rep.tup h.2.1 (keysD_rep k)) (ih _ _ h1 t)
          exact g kvs kvs' ks rr pr
        rw [ea]
        exact sort_tail hu I sm hk rk (vals_refs _) ok p
      · cases es
end
end G

set_option maxRecDepth 100000
set_option maxHeartbeats 4000000
namespace G
open PySem PySem.Spec PyProof.Rows L2 HotX
/-! # defs that make lambdas, defs that get them -/
section
variable {P : Program} {w : World} {K : PySem.W.Frag} {mg : PySem.Str → Option Value} {base : Heap} {T : Tz} {ca : Nat → Addr}
theorem ok_defC {fa : List He.Fa} {fn : List He.DefD} (B : Facts K mg fa fn) (d : He.DefD) {x : PySem.Str} {N ps : List PySem.Str} {k : Nat} {fs : FS} {qual : PySem.Str} {scope : Scope} {body : List Stmt} (j g : Nat) (hd : fn[j]? = some d) (h1 : d.at_ = (x, none)) (h2 : d.dfl = []) (h3 : d.kwd = []) (hg : fa[g]? = some (.glo x)) (eq : d.qual = qual) (es : d.scope = scope) (eb : d.body = body) (S : FnScope N ps d.scope) (hT : T.fx = [])
    (bind : ∀ (kV doc pm : Value) (an : Option Addr) (cdv ct : Value) (us : List Value), us.length = ps.length → bindArgs (PySem.W.fnOf d.name d.qual d.params d.body d.scope .none kV doc pm an cdv ct) ⟨us, []⟩ = pure (ps.zip us))
    (hb : ∀ (cdv : Value) (A : Around) (outer : List PySem.Env) (s : Shared) (H : Hp) (E : XK), cdv = .ref (He.codeOf K (x, none)) → Room k (A.deeper (envOfC qual scope s.heap.objs.size (He.ga K x) cdv)) →
      L2N.Takes (cxOf (L2N.CX P w) P w K mg base N qual scope (He.ga K x) cdv A outer s H E) (fun cls d _ H' => E cls d H') →
      VSs (cxOf (L2N.CX P w) P w K mg base N qual scope (He.ga K x) cdv A outer s H E) T ca (fun cls d _ H' => E cls d H') body fs) :
    Ok P w K mg base T ca x (k + 1) ps (runOf N.length fs) := by
  subst eq es eb
  obtain ⟨fd, F0⟩ := B.says.def_ j hd
  have ea : He.fAd K d.at_ = He.ga K x := by rw [h1]; rfl
  have e1 : d.dvs K = [] := by unfold He.DefD.dvs; rw [h2]; rfl
  have e2 : d.kws K = [] := by unfold He.DefD.kws; rw [h3]; rfl
  rw [ea, e1, e2] at F0
  refine ⟨⟨fd, (let ⟨oc, od, _, _, _, _, _, _, _, osl, _, lk, _⟩ := F0.ex; ⟨oc, od, osl, lk⟩), ?_, FunD.bindsN F0 bind⟩, F0.kp, B.glo g hg⟩
  obtain ⟨oc, od, dV, kV, doc, pm, an, cdv, ct, osl, rfl, lk, hcd, _, _⟩ := F0.ex
  obtain ⟨c0, ec⟩ := He.codeIn_ref hcd
  have ecd : cdv = .ref (He.codeOf K (x, none)) := by
    have q := He.codeOf_eq (p := (x, none)) lk ec
    rw [q, ec]
  refine fn_of lk hcd S (fun vs H Q E h => spG_len h) fun A outer s H vs Q E hr h => ⟨_, hb cdv A outer s H E ecd hr (L2N.takes_of rfl rfl rfl rfl), ?_⟩
  obtain ⟨m, S0, ds, sm, r, hl, p⟩ := h
  refine ⟨m, enter N.length ds, S0, sm, enter_ok r hT, ?_⟩
  unfold runOf at p
  cases e : fs (enter N.length ds) S0 with
  | nx ρ S1 => rw [e] at p; exact fun m1 H1 σ1 nx sm1 en1 => p m1 H1 .non nx sm1 Rep.non
  | ret d S1 => rw [e] at p; exact fun m1 H1 v nx sm1 rr => p m1 H1 v nx sm1 rr
  | exc c w' ρ S1 => rw [e] at p; exact fun m1 H1 σ1 x v nx sm1 en1 hx rr => p m1 H1 x v nx sm1 hx rr
  | bk ρ S1 => rw [e] at p; exact p.elim
  | ct ρ S1 => rw [e] at p; exact p.elim
  | bad => rw [e] at p; exact p.elim
theorem okl_def {fa : List He.Fa} {fn : List He.DefD} {tb : List (Addr × PySem.Str)} (B : Facts K mg fa fn) (d : He.DefD) {x a : PySem.Str} {N : List PySem.Str} {k : Nat} {fs : (Store → R D) → FS} {scope : Scope} {body : List Stmt} (j g : Nat) (hd : fn[j]? = some d) (h1 : d.at_ = (x, none)) (hn : d.name = x) (hq : d.qual = x) (h2 : d.dfl = []) (h3 : d.kwd = []) (hg : fa[g]? = some (.glo x)) (es : d.scope = scope) (eb : d.body = body) (S : FnScope N [a] d.scope) (hN : N[0]? = some a) (hv : Vis d.scope a)
    (bind : ∀ (kV doc pm : Value) (an : Option Addr) (cdv ct : Value) (us : List Value), us.length = [a].length → bindArgs (PySem.W.fnOf d.name d.qual d.params d.body d.scope .none kV doc pm an cdv ct) ⟨us, []⟩ = pure ([a].zip us))
    (hb : ∀ (T' : Tz) (f : Addr) (lam : Store → R D) (cdv : Value) (A : Around) (outer : List PySem.Env) (s : Shared) (H : Hp) (E : XK), T'.fx = [(0, .ref f)] → T'.tb = tb → Room k (A.deeper (envOfC x scope s.heap.objs.size (He.ga K x) cdv)) →
      L2N.Takes (cxOf (L2N.CX P w) P w K mg base N x scope (He.ga K x) cdv A outer s H E) (fun cls d _ H' => E cls d H') →
      (∀ (W' : WX) (pn : List (Addr × Obj)) (xe : Value → Shared → Prop) (p1 p2 : Pos), L2N.Takes ((cxOf (L2N.CX P w) P w K mg base N x scope (He.ga K x) cdv A outer s H E).tr pn xe) W' → VE ((cxOf (L2N.CX P w) P w K mg base N x scope (He.ga K x) cdv A outer s H E).tr pn xe) T' ca W' (.Call (.Name a p1) [] [] p2) (fAct lam)) →
      VSs (cxOf (L2N.CX P w) P w K mg base N x scope (He.ga K x) cdv A outer s H E) T' ca (fun cls d _ H' => E cls d H') body (fs lam)) :
    OkL P w K mg base tb ca x k a N fs := by
  subst es eb
  obtain ⟨fd, F0⟩ := B.says.def_ j hd
  have ea : He.fAd K d.at_ = He.ga K x := by rw [h1]; rfl
  have e1 : d.dvs K = [] := by unfold He.DefD.dvs; rw [h2]; rfl
  have e2 : d.kws K = [] := by unfold He.DefD.kws; rw [h3]; rfl
  rw [ea, e1, e2] at F0
  have bd := FunD.bindsN F0 bind
  rw [hn, hq] at F0
  exact ⟨⟨_, _, _, fd, F0, bd, S, hN, hv, hb⟩, F0.kp, B.glo g hg⟩
end
def tabsOk (tb : List (Addr × PySem.Str)) : Bool := tb.all fun p => tb.all fun q => p.1 != q.1 || p.2 == q.2
theorem tabs_uniq {tb : List (Addr × PySem.Str)} (h : tabsOk tb = true) {i : Nat} {p : Addr × PySem.Str} (hp : tb[i]? = some p) : ∀ q ∈ tb, q.1 = p.1 → q.2 = p.2 := fun q hq e => by
  have z := List.all_eq_true.mp (List.all_eq_true.mp h q hq) p (List.mem_of_getElem? hp)
  rw [Bool.or_eq_true] at z
  rcases z with z | z
  · rw [e] at z; simp at z
  · exact eq_of_beq z
end G

set_option maxRecDepth 100000
set_option maxHeartbeats 4000000
namespace G
open PySem PySem.Spec PyProof.Rows L2 HotX
/-! # the script -/
/-- how the script may lie -/
def ScrD (d : D) (S : Store) (ns : List Int) : Prop := (d = .loc 0 ∧ S = [.lst (ns.map .int)]) ∨ (d = .loc 0 ∧ S = [.ro (ns.map .int)]) ∨ ∃ a, d = .kl a ns ∧ S = []
theorem ints_rep {K : PySem.W.Frag} {m : Nat → Addr} {n : Nat} {H : Hp} : ∀ ns : List Int, RepL K m n H (ns.map .int) (ns.map V.int)
  | [] => RepL.nil
  | _ :: ns => RepL.cons Rep.int (ints_rep ns)
theorem sim_one {K : PySem.W.Frag} {T : Tz} {H : Hp} {a : Addr} {c : Cell} (h1 : T.xs = []) (h2 : T.ev = []) (h3 : T.co = []) (tabs : LamX.Tabs T.tb H) (hc : CellOk K (fun _ => a) 1 H a c) : Sim K T (fun _ => a) [c] H where
  inj := fun l l' h h' _ => by simp at h h'; omega
  cell := fun l c' e => by
    have hl := (List.getElem?_eq_some_iff.mp e).1
    have : l = 0 := by simp at hl; omega
    subst this
    simp at e
    subst e
    exact hc
  tabs := tabs
  exs := fun p hp => by rw [h1] at hp; cases hp
  evs := fun p hp => by rw [h2] at hp; cases hp
  cos := fun p hp => by rw [h3] at hp; cases hp
theorem sim_none {K : PySem.W.Frag} {T : Tz} {H : Hp} {m : Nat → Addr} (h1 : T.xs = []) (h2 : T.ev = []) (h3 : T.co = []) (tabs : LamX.Tabs T.tb H) : Sim K T m [] H where
  inj := fun l l' h _ _ => by simp at h
  cell := fun l c' e => by simp at e
  tabs := tabs
  exs := fun p hp => by rw [h1] at hp; cases hp
  evs := fun p hp => by rw [h2] at hp; cases hp
  cos := fun p hp => by rw [h3] at hp; cases hp
theorem sp_of {K : PySem.W.Frag} {T : Tz} {ca : Nat → Addr} {run : Run} {H : Hp} {a : Addr} {ns : List Int} (h1 : T.xs = []) (h2 : T.ev = []) (h3 : T.co = []) (tabs : LamX.Tabs T.tb H) (hS : SqL K H a (ns.map V.int))
    (hl : ∀ d S, ScrD d S ns → ∃ S', run [d] S = .ok (.bl true) S') : spG K T ca 1 run [.ref a] H (fun v _ => v = .bl true) fun _ _ _ => False := by
  rcases hS with (hS | ⟨o, hS⟩) | hS
  · obtain ⟨S', e⟩ := hl _ _ (.inl ⟨rfl, rfl⟩)
    refine ⟨fun _ => a, [.lst (ns.map .int)], [.loc 0], sim_one h1 h2 h3 tabs ⟨_, hS, ints_rep ns⟩, RepL.cons (Rep.loc (m := fun _ => a) (by simp)) RepL.nil, rfl, ?_⟩
    rw [e]
    exact fun m' H' b _ _ r => r.bl_inv
  · obtain ⟨S', e⟩ := hl _ _ (.inr (.inl ⟨rfl, rfl⟩))
    refine ⟨fun _ => a, [.ro (ns.map .int)], [.loc 0], sim_one h1 h2 h3 tabs ⟨_, o, hS, ints_rep ns⟩, RepL.cons (Rep.loc (m := fun _ => a) (by simp)) RepL.nil, rfl, ?_⟩
    rw [e]
    exact fun m' H' b _ _ r => r.bl_inv
  · obtain ⟨S', e⟩ := hl _ _ (.inr (.inr ⟨a, rfl, rfl⟩))
    refine ⟨fun _ => a, [], [.kl a ns], sim_none h1 h2 h3 tabs, RepL.cons (Rep.kl hS) RepL.nil, rfl, ?_⟩
    rw [e]
    exact fun m' H' b _ _ r => r.bl_inv
theorem exs_of {K : PySem.W.Frag} {mg : PySem.Str → Option Value} {fa : List He.Fa} {fn : List He.DefD} {cls : List PySem.Str} (B : Facts K mg fa fn) (h : excsB K cls = true) (hg : ∀ x ∈ cls, ∃ i : Nat, fa[i]? = some (He.Fa.glo x)) (hn : 0 < cls.length) : Exs K mg cls :=
  ⟨h, fun x hx => let ⟨i, e⟩ := hg x hx; B.glo i e, hn⟩
end G

set_option maxRecDepth 100000
set_option maxHeartbeats 1000000
namespace P
open G
abbrev Key := L2.Key
abbrev Env := G.Env

/-! # pure values: what data in a store stand for -/
inductive PV where
  | non | bl (b : Bool) | int (i : Int) | str (x : PySem.Str) | tup (xs : List PV) | lst (xs : List PV)
  | dK (ks : List Key) (vs : List PV) | dT (ks : List (List Key)) (vs : List PV)
mutual
def Den (O : Nat → Prop) (S : Store) : PV → D → Prop
  | .non, d => d = .non
  | .bl b, d => d = .bl b
  | .int i, d => d = .int i
  | .str x, d => d = .str x
  | .tup ps, d => ∃ ds, d = .tup ds ∧ DenL O S ps ds
  | .lst ps, d => ∃ l, d = .loc l ∧ ¬ O l ∧ ∃ ds, S[l]? = some (Cell.lst ds) ∧ DenL O S ps ds
  | .dK ks vs, d => ∃ l, d = .loc l ∧ ¬ O l ∧ ∃ es, S[l]? = some (Cell.dK es) ∧ es.map Prod.fst = ks ∧ DenL O S vs (es.map Prod.snd)
  | .dT ks vs, d => ∃ l, d = .loc l ∧ ¬ O l ∧ ∃ es, S[l]? = some (Cell.dT es) ∧ es.map Prod.fst = ks ∧ DenL O S vs (es.map Prod.snd)
def DenL (O : Nat → Prop) (S : Store) : List PV → List D → Prop
  | [], ds => ds = []
  | p :: ps, ds => ∃ d ds', ds = d :: ds' ∧ Den O S p d ∧ DenL O S ps ds'
end
/-- the cell's content -/
def CellV (O : Nat → Prop) (S : Store) (v : PV) (l : Nat) : Prop := match v with
  | .lst ps => ∃ ds, S[l]? = some (Cell.lst ds) ∧ DenL O S ps ds
  | .dK ks vs => ∃ es, S[l]? = some (Cell.dK es) ∧ es.map Prod.fst = ks ∧ DenL O S vs (es.map Prod.snd)
  | .dT ks vs => ∃ es, S[l]? = some (Cell.dT es) ∧ es.map Prod.fst = ks ∧ DenL O S vs (es.map Prod.snd)
  | _ => False
def isC : PV → Bool
  | .lst _ => true
  | .dK _ _ => true
  | .dT _ _ => true
  | _ => false
def Top (O : Nat → Prop) (S : Store) (v : PV) (d : D) : Prop := if isC v = true then ∃ l, d = .loc l ∧ CellV O S v l else Den O S v d

section
variable {O O' : Nat → Prop} {S S' : Store}
theorem lt_of {α : Type} {xs : List α} {l : Nat} {c : α} (h : xs[l]? = some c) : l < xs.length := (List.getElem?_eq_some_iff.mp h).1
mutual
theorem Den.mv (h1 : ∀ k, k < S.length → O' k → O k) (h2 : ∀ k, k < S.length → ¬ O k → S'[k]? = S[k]?) : ∀ {v : PV} {d : D}, Den O S v d → Den O' S' v d
  | .non, _, h => by simpa only [Den] using h
  | .bl _, _, h => by simpa only [Den] using h
  | .int _, _, h => by simpa only [Den] using h
  | .str _, _, h => by simpa only [Den] using h
  | .tup ps, _, h => by
    simp only [Den] at h ⊢
    obtain ⟨ds, e, r⟩ := h
    exact ⟨ds, e, DenL.mv h1 h2 r⟩
  | .lst ps, _, h => by
    simp only [Den] at h ⊢
    obtain ⟨l, e, n, ds, g, r⟩ := h
    exact ⟨l, e, fun z => n (h1 _ (lt_of g) z), ds, by rw [h2 _ (lt_of g) n]; exact g, DenL.mv h1 h2 r⟩
  | .dK ks ps, _, h => by
    simp only [Den] at h ⊢
    obtain ⟨l, e, n, ds, g, q, r⟩ := h
    exact ⟨l, e, fun z => n (h1 _ (lt_of g) z), ds, by rw [h2 _ (lt_of g) n]; exact g, q, DenL.mv h1 h2 r⟩
  | .dT ks ps, _, h => by
    simp only [Den] at h ⊢
    obtain ⟨l, e, n, ds, g, q, r⟩ := h
    exact ⟨l, e, fun z => n (h1 _ (lt_of g) z), ds, by rw [h2 _ (lt_of g) n]; exact g, q, DenL.mv h1 h2 r⟩
theorem DenL.mv (h1 : ∀ k, k < S.length → O' k → O k) (h2 : ∀ k, k < S.length → ¬ O k → S'[k]? = S[k]?) : ∀ {vs : List PV} {ds : List D}, DenL O S vs ds → DenL O' S' vs ds
  | [], _, h => by simpa only [DenL] using h
  | v :: vs, _, h => by
    simp only [DenL] at h ⊢
    obtain ⟨d, ds', e, q, r⟩ := h
    exact ⟨d, ds', e, Den.mv h1 h2 q, DenL.mv h1 h2 r⟩
end
theorem Den.non : Den O S .non .non := by simp only [Den]
theorem Den.bl {b : Bool} : Den O S (.bl b) (.bl b) := by simp only [Den]
theorem Den.int {b : Int} : Den O S (.int b) (.int b) := by simp only [Den]
theorem Den.str {b : PySem.Str} : Den O S (.str b) (.str b) := by simp only [Den]
theorem Den.tup {ps : List PV} {ds : List D} (h : DenL O S ps ds) : Den O S (.tup ps) (.tup ds) := by simp only [Den]; exact ⟨ds, rfl, h⟩
theorem DenL.nil : DenL O S [] [] := by simp only [DenL]
theorem DenL.cons {v : PV} {vs : List PV} {d : D} {ds : List D} (h : Den O S v d) (r : DenL O S vs ds) : DenL O S (v :: vs) (d :: ds) := by simp only [DenL]; exact ⟨d, ds, rfl, h, r⟩
theorem DenL.nil_inv {ds : List D} (h : DenL O S [] ds) : ds = [] := by simpa only [DenL] using h
theorem DenL.cons_inv {v : PV} {vs : List PV} {ds : List D} (h : DenL O S (v :: vs) ds) : ∃ d ds', ds = d :: ds' ∧ Den O S v d ∧ DenL O S vs ds' := by simpa only [DenL] using h
theorem DenL.nil_inv' {vs : List PV} (h : DenL O S vs []) : vs = [] := by
  cases vs with
  | nil => rfl
  | cons v vs => obtain ⟨_, _, e, _⟩ := h.cons_inv; cases e
theorem DenL.cons_inv' {vs : List PV} {d : D} {ds : List D} (h : DenL O S vs (d :: ds)) : ∃ v vs', vs = v :: vs' ∧ Den O S v d ∧ DenL O S vs' ds := by
  cases vs with
  | nil => cases h.nil_inv
  | cons v vs => obtain ⟨_, _, e, q, r⟩ := h.cons_inv; cases e; exact ⟨v, vs, rfl, q, r⟩
theorem Den.tup_inv {ps : List PV} {d : D} (h : Den O S (.tup ps) d) : ∃ ds, d = .tup ds ∧ DenL O S ps ds := by simpa only [Den] using h
theorem Den.int_inv {i : Int} {d : D} (h : Den O S (.int i) d) : d = .int i := by simpa only [Den] using h
theorem Den.bl_inv {i : Bool} {d : D} (h : Den O S (.bl i) d) : d = .bl i := by simpa only [Den] using h
theorem Den.str_inv {i : PySem.Str} {d : D} (h : Den O S (.str i) d) : d = .str i := by simpa only [Den] using h
theorem Den.non_inv {d : D} (h : Den O S .non d) : d = .non := by simpa only [Den] using h
theorem Den.lst_inv {ps : List PV} {d : D} (h : Den O S (.lst ps) d) : ∃ l, d = .loc l ∧ ¬ O l ∧ ∃ ds, S[l]? = some (Cell.lst ds) ∧ DenL O S ps ds := by simpa only [Den] using h
theorem den_cell {v : PV} {d : D} (hc : isC v = true) : Den O S v d ↔ ∃ l, d = .loc l ∧ ¬ O l ∧ CellV O S v l := by
  cases v <;> first | (cases hc; done) | simp only [Den, CellV]
theorem Den.top {v : PV} {d : D} (h : Den O S v d) : Top O S v d := by
  unfold Top
  split
  · obtain ⟨l, e, _, c⟩ := (den_cell (by assumption)).mp h
    exact ⟨l, e, c⟩
  · exact h
theorem cellV_isC {v : PV} {l : Nat} (h : CellV O S v l) : isC v = true := by cases v <;> first | exact h.elim | rfl
theorem CellV.top {v : PV} {l : Nat} (h : CellV O S v l) : Top O S v (.loc l) := by unfold Top; rw [if_pos (cellV_isC h)]; exact ⟨l, rfl, h⟩
theorem CellV.den {v : PV} {l : Nat} (h : CellV O S v l) (n : ¬ O l) : Den O S v (.loc l) := (den_cell (cellV_isC h)).mpr ⟨l, rfl, n, h⟩
theorem CellV.lt {v : PV} {l : Nat} (h : CellV O S v l) : l < S.length := by
  cases v <;> first | exact h.elim | skip
  · obtain ⟨_, g, _⟩ := h; exact lt_of g
  · obtain ⟨_, g, _⟩ := h; exact lt_of g
  · obtain ⟨_, g, _⟩ := h; exact lt_of g
theorem CellV.mv {v : PV} {l : Nat} (h : CellV O S v l) (h1 : ∀ k, k < S.length → O' k → O k) (h2 : ∀ k, k < S.length → ¬ O k → S'[k]? = S[k]?) (h3 : S'[l]? = S[l]?) : CellV O' S' v l := by
  cases v <;> first | exact h.elim | skip
  · obtain ⟨ds, g, r⟩ := h; exact ⟨ds, by rw [h3]; exact g, r.mv h1 h2⟩
  · obtain ⟨ds, g, e, r⟩ := h; exact ⟨ds, by rw [h3]; exact g, e, r.mv h1 h2⟩
  · obtain ⟨ds, g, e, r⟩ := h; exact ⟨ds, by rw [h3]; exact g, e, r.mv h1 h2⟩
theorem Top.mv {v : PV} {d : D} (h : Top O S v d) (h1 : ∀ k, k < S.length → O' k → O k) (h2 : ∀ k, k < S.length → ¬ O k → S'[k]? = S[k]?) (h3 : ∀ l, d = .loc l → S'[l]? = S[l]?) : Top O' S' v d := by
  unfold Top at *
  split
  · rw [if_pos (by assumption)] at h
    obtain ⟨l, e, c⟩ := h
    exact ⟨l, e, c.mv h1 h2 (h3 l e)⟩
  · rw [if_neg (by assumption)] at h
    exact h.mv h1 h2
theorem DenL.len : ∀ {vs : List PV} {ds : List D}, DenL O S vs ds → ds.length = vs.length
  | [], _, h => by rw [h.nil_inv]; rfl
  | v :: vs, _, h => by obtain ⟨d, ds', rfl, q, r⟩ := h.cons_inv; simp [r.len]
theorem DenL.get : ∀ {vs : List PV} {ds : List D} {i : Nat} {v : PV}, DenL O S vs ds → vs[i]? = some v → ∃ d, ds[i]? = some d ∧ Den O S v d
  | [], _, _, _, _, e => by simp at e
  | v :: vs, _, 0, w, h, e => by obtain ⟨d, ds', rfl, q, r⟩ := h.cons_inv; simp at e; subst e; exact ⟨d, rfl, q⟩
  | v :: vs, _, i + 1, w, h, e => by
    obtain ⟨d, ds', rfl, q, r⟩ := h.cons_inv
    obtain ⟨d', h1, h2⟩ := DenL.get (i := i) r (by simpa using e)
    exact ⟨d', by simpa using h1, h2⟩
theorem DenL.append : ∀ {vs ws : List PV} {ds es : List D}, DenL O S vs ds → DenL O S ws es → DenL O S (vs ++ ws) (ds ++ es)
  | [], _, _, _, h, h2 => by rw [h.nil_inv]; exact h2
  | v :: vs, _, _, _, h, h2 => by obtain ⟨d, ds', rfl, q, r⟩ := h.cons_inv; exact DenL.cons q (r.append h2)
theorem DenL.take : ∀ {vs : List PV} {ds : List D} (i : Nat), DenL O S vs ds → DenL O S (vs.take i) (ds.take i)
  | _, _, 0, _ => by simp only [List.take_zero]; exact DenL.nil
  | [], _, _ + 1, h => by rw [h.nil_inv]; simp only [List.take_nil]; exact DenL.nil
  | v :: vs, _, i + 1, h => by obtain ⟨d, ds', rfl, q, r⟩ := h.cons_inv; exact DenL.cons q (r.take i)
theorem DenL.drop : ∀ {vs : List PV} {ds : List D} (i : Nat), DenL O S vs ds → DenL O S (vs.drop i) (ds.drop i)
  | _, _, 0, h => h
  | [], _, _ + 1, h => by rw [h.nil_inv]; simp only [List.drop_nil]; exact DenL.nil
  | v :: vs, _, i + 1, h => by obtain ⟨d, ds', rfl, q, r⟩ := h.cons_inv; simpa using r.drop i
theorem DenL.reverse : ∀ {vs : List PV} {ds : List D}, DenL O S vs ds → DenL O S vs.reverse ds.reverse
  | [], _, h => by rw [h.nil_inv]; exact DenL.nil
  | v :: vs, _, h => by obtain ⟨d, ds', rfl, q, r⟩ := h.cons_inv; simp only [List.reverse_cons]; exact r.reverse.append (DenL.cons q DenL.nil)
theorem DenL.set : ∀ {vs : List PV} {ds : List D} {v : PV} {d : D} (i : Nat), DenL O S vs ds → Den O S v d → DenL O S (vs.set i v) (ds.set i d)
  | [], _, _, _, _, h, _ => by rw [h.nil_inv]; exact DenL.nil
  | v0 :: vs, _, v, d, 0, h, q => by obtain ⟨d0, ds', rfl, q0, r⟩ := h.cons_inv; exact DenL.cons q r
  | v0 :: vs, _, v, d, i + 1, h, q => by obtain ⟨d0, ds', rfl, q0, r⟩ := h.cons_inv; exact DenL.cons q0 (r.set i q)
theorem DenL.rep {vs : List PV} {ds : List D} (h : DenL O S vs ds) : ∀ (n : Nat), DenL O S (List.replicate n vs).flatten (List.replicate n ds).flatten
  | 0 => DenL.nil
  | n + 1 => by rw [List.replicate_succ, List.replicate_succ, List.flatten_cons, List.flatten_cons]; exact h.append (h.rep n)
end

/-! # slots and their states -/
inductive PSl where
  | sh (v : PV) | pk (v : PV) | ow (v : PV) | mu (v : PV)
def PSl.val : PSl → PV
  | .sh v => v
  | .pk v => v
  | .ow v => v
  | .mu v => v
abbrev PEnv := List (Option PSl)
def Own (ρ : Env) (π : PEnv) (k : Nat) : Prop := ∃ (i : Nat) (v : PV), π[i]? = some (some (PSl.ow v)) ∧ ρ[i]? = some (some (D.loc k))
def MM (B : Nat → Prop) (ρ : Env) (π : PEnv) (k : Nat) : Prop := B k ∨ Own ρ π k
def OO (B C : Nat → Prop) (ρ : Env) (π : PEnv) (k : Nat) : Prop := MM B ρ π k ∨ C k
def SlotOk (B C : Nat → Prop) (ρ : Env) (S : Store) (π : PEnv) (i : Nat) : PSl → Prop
  | .sh v => ∃ d, ρ[i]? = some (some d) ∧ Den (OO B C ρ π) S v d
  | .pk v => ∃ d, ρ[i]? = some (some d) ∧ Top (OO B C ρ π) S v d ∧ ∀ l, d = .loc l → ¬ MM B ρ π l ∧ l < S.length
  | .ow v => ∃ l, ρ[i]? = some (some (D.loc l)) ∧ CellV (OO B C ρ π) S v l ∧ ¬ B l ∧ ¬ C l
  | .mu v => ∃ l, ρ[i]? = some (some (D.loc l)) ∧ CellV (OO B C ρ π) S v l ∧ B l
def isM : PSl → Bool
  | .ow _ => true
  | .mu _ => true
  | _ => false
structure Rel (B C : Nat → Prop) (ρ : Env) (S : Store) (π : PEnv) : Prop where
  len : ρ.length = π.length
  bc : ∀ k, B k ∨ C k → k < S.length
  slot : ∀ (i : Nat) (s : PSl), π[i]? = some (some s) → SlotOk B C ρ S π i s
  sep : ∀ (i j : Nat) (s t : PSl) (l : Nat), i ≠ j → π[i]? = some (some s) → isM s = true → π[j]? = some (some t) → isM t = true → ρ[i]? = some (some (D.loc l)) → ρ[j]? ≠ some (some (D.loc l))
structure Unch (M : Nat → Prop) (S S' : Store) : Prop where
  le : S.length ≤ S'.length
  un : ∀ k, k < S.length → ¬ M k → S'[k]? = S[k]?
structure Nxt (B : Nat → Prop) (ρ : Env) (S : Store) (π : PEnv) (ρ' : Env) (S' : Store) (π' : PEnv) : Prop where
  un : Unch (MM B ρ π) S S'
  ow : ∀ k, k < S.length → Own ρ' π' k → Own ρ π k
  mu : ∀ (i : Nat) (v : PV), π[i]? = some (some (PSl.mu v)) → ρ'[i]? = ρ[i]? ∧ ∃ v', π'[i]? = some (some (PSl.mu v'))
  len : ρ'.length = ρ.length
  pk : ∀ (i : Nat) (w : PV), π'[i]? = some (some (PSl.pk w)) → ρ'[i]? = ρ[i]? ∧ ∃ w', π[i]? = some (some (PSl.pk w'))
section
variable {B C M : Nat → Prop} {ρ ρ' ρ1 ρ2 : Env} {S S' S1 S2 : Store} {π π' π1 π2 : PEnv}
theorem Unch.refl : Unch M S S := ⟨Nat.le_refl _, fun _ _ _ => rfl⟩
theorem Nxt.refl : Nxt B ρ S π ρ S π := ⟨Unch.refl, fun _ _ h => h, fun i v h => ⟨rfl, v, h⟩, rfl, fun i v h => ⟨rfl, v, h⟩⟩
theorem Nxt.unT (a : Nxt B ρ S π ρ1 S1 π1) (b : Unch (MM B ρ1 π1) S1 S2) : Unch (MM B ρ π) S S2 :=
  ⟨Nat.le_trans a.un.le b.le, fun k h n => by
    rw [b.un k (Nat.lt_of_lt_of_le h a.un.le) (fun z => n (z.elim .inl fun o => .inr (a.ow k h o)))]
    exact a.un.un k h n⟩
theorem Nxt.trans (a : Nxt B ρ S π ρ1 S1 π1) (b : Nxt B ρ1 S1 π1 ρ2 S2 π2) : Nxt B ρ S π ρ2 S2 π2 where
  un := a.unT b.un
  ow := fun k h o => a.ow k h (b.ow k (Nat.lt_of_lt_of_le h a.un.le) o)
  mu := fun i v h => by
    obtain ⟨e1, v1, g1⟩ := a.mu i v h
    obtain ⟨e2, v2, g2⟩ := b.mu i v1 g1
    exact ⟨e2.trans e1, v2, g2⟩
  len := b.len.trans a.len
  pk := fun i w h => by
    obtain ⟨e1, v1, g1⟩ := b.pk i w h
    obtain ⟨e2, v2, g2⟩ := a.pk i v1 g1
    exact ⟨e1.trans e2, v2, g2⟩
theorem Nxt.h1 (a : Nxt B ρ S π ρ1 S1 π1) : ∀ k, k < S.length → OO B C ρ1 π1 k → OO B C ρ π k := fun k h z => z.elim (fun m => .inl (m.elim .inl fun o => .inr (a.ow k h o))) .inr
theorem Unch.h2 (a : Unch (MM B ρ π) S S1) : ∀ k, k < S.length → ¬ OO B C ρ π k → S1[k]? = S[k]? := fun k h n => a.un k h fun m => n (.inl m)
theorem Nxt.den (a : Nxt B ρ S π ρ1 S1 π1) {v : PV} {d : D} (h : Den (OO B C ρ π) S v d) : Den (OO B C ρ1 π1) S1 v d := h.mv a.h1 a.un.h2
theorem Nxt.denL (a : Nxt B ρ S π ρ1 S1 π1) {v : List PV} {d : List D} (h : DenL (OO B C ρ π) S v d) : DenL (OO B C ρ1 π1) S1 v d := h.mv a.h1 a.un.h2
/-- the cells that only grow -/
def Pre (S S' : Store) : Prop := S.length ≤ S'.length ∧ ∀ k, k < S.length → S'[k]? = S[k]?
theorem Pre.refl : Pre S S := ⟨Nat.le_refl _, fun _ _ => rfl⟩
theorem Pre.app (S : Store) (cs : List Cell) : Pre S (S ++ cs) := ⟨by simp, fun k h => List.getElem?_append_left h⟩
theorem Pre.trans (a : Pre S S1) (b : Pre S1 S2) : Pre S S2 := ⟨Nat.le_trans a.1 b.1, fun k h => (b.2 k (Nat.lt_of_lt_of_le h a.1)).trans (a.2 k h)⟩
theorem Pre.un (a : Pre S S') : Unch M S S' := ⟨a.1, fun k h _ => a.2 k h⟩
theorem Pre.nxt (a : Pre S S') : Nxt B ρ S π ρ S' π := ⟨a.un, fun _ _ h => h, fun i v h => ⟨rfl, v, h⟩, rfl, fun i v h => ⟨rfl, v, h⟩⟩
theorem Pre.den {O : Nat → Prop} (a : Pre S S') {v : PV} {d : D} (h : Den O S v d) : Den O S' v d := h.mv (fun _ _ z => z) fun k h _ => a.2 k h
theorem Pre.denL {O : Nat → Prop} (a : Pre S S') {v : List PV} {d : List D} (h : DenL O S v d) : DenL O S' v d := h.mv (fun _ _ z => z) fun k h _ => a.2 k h
theorem Rel.pre (h : Rel B C ρ S π) (a : Pre S S') : Rel B C ρ S' π where
  len := h.len
  bc := fun k z => Nat.lt_of_lt_of_le (h.bc k z) a.1
  sep := h.sep
  slot := fun i s e => by
    have g := h.slot i s e
    cases s with
    | sh v => obtain ⟨d, e1, q⟩ := g; exact ⟨d, e1, a.den q⟩
    | pk v =>
      obtain ⟨d, e1, q, n⟩ := g
      exact ⟨d, e1, q.mv (fun _ _ z => z) (fun k h _ => a.2 k h) (fun l e => a.2 l (n l e).2), fun l e => ⟨(n l e).1, Nat.lt_of_lt_of_le (n l e).2 a.1⟩⟩
    | ow v => obtain ⟨l, e1, q, n⟩ := g; exact ⟨l, e1, q.mv (fun _ _ z => z) (fun k h _ => a.2 k h) (a.2 l q.lt), n⟩
    | mu v => obtain ⟨l, e1, q, n⟩ := g; exact ⟨l, e1, q.mv (fun _ _ z => z) (fun k h _ => a.2 k h) (a.2 l q.lt), n⟩
/-- the state's cells that may change have changed: the slots that point there stand for other values -/
theorem Rel.chg {C' : Nat → Prop} (h : Rel B C ρ S π) (hc1 : ∀ k, C' k → k < S'.length) (hc2 : ∀ k, k < S.length → C' k → C k) (u : Unch (MM B ρ π) S S') (hl : π'.length = π.length)
    (hw : ∀ k, Own ρ π' k → Own ρ π k) (hw' : ∀ k, Own ρ π k → Own ρ π' k)
    (hs : ∀ (i : Nat) (s' : PSl), π'[i]? = some (some s') → (isM s' = false ∧ π[i]? = some (some s')) ∨ ∃ s, π[i]? = some (some s) ∧ isM s = true ∧ (∃ l, ρ[i]? = some (some (D.loc l)) ∧ CellV (OO B C' ρ π) S' s'.val l) ∧ ((∃ v v', s = .ow v ∧ s' = .ow v') ∨ ∃ v v', s = .mu v ∧ s' = .mu v')) : Rel B C' ρ S' π' where
  len := h.len.trans hl.symm
  bc := fun k z => z.elim (fun b => Nat.lt_of_lt_of_le (h.bc k (.inl b)) u.le) (hc1 k)
  sep := fun i j s t l hne e1 m1 e2 m2 r => by
    rcases hs i s e1 with ⟨z, _⟩ | ⟨s1, g1, n1, _⟩
    · rw [m1] at z; cases z
    rcases hs j t e2 with ⟨z, _⟩ | ⟨s2, g2, n2, _⟩
    · rw [m2] at z; cases z
    exact h.sep i j s1 s2 l hne g1 n1 g2 n2 r
  slot := fun i s e => by
    have h1 : ∀ k, k < S.length → OO B C' ρ π' k → OO B C ρ π k := fun k lt z => z.elim (fun m => .inl (m.elim .inl fun o => .inr (hw k o))) fun c => .inr (hc2 k lt c)
    have h1' : ∀ k, k < S'.length → OO B C' ρ π' k → OO B C' ρ π k := fun k lt z => z.elim (fun m => .inl (m.elim .inl fun o => .inr (hw k o))) .inr
    have h2 : ∀ k, k < S.length → ¬ OO B C ρ π k → S'[k]? = S[k]? := u.h2
    rcases hs i s e with ⟨m, e0⟩ | ⟨s0, e0, m0, ⟨l, el, c⟩, st⟩
    · have g := h.slot i s e0
      cases s with
      | sh v => obtain ⟨d, e1, q⟩ := g; exact ⟨d, e1, q.mv h1 h2⟩
      | pk v =>
        obtain ⟨d, e1, q, n⟩ := g
        exact ⟨d, e1, q.mv h1 h2 (fun l e => u.un l (n l e).2 (n l e).1), fun l e => ⟨fun z => (n l e).1 (z.elim .inl fun o => .inr (hw l o)), Nat.lt_of_lt_of_le (n l e).2 u.le⟩⟩
      | ow v => cases m
      | mu v => cases m
    · have g := h.slot i s0 e0
      have c' : CellV (OO B C' ρ π') S' s.val l := c.mv h1' (fun _ _ _ => rfl) rfl
      rcases st with ⟨v, v', rfl, rfl⟩ | ⟨v, v', rfl, rfl⟩
      · obtain ⟨l', e1, q, n⟩ := g
        have : l' = l := by rw [el] at e1; cases e1; rfl
        subst this
        exact ⟨l', el, c', n.1, fun z => n.2 (hc2 _ q.lt z)⟩
      · obtain ⟨l', e1, q, n⟩ := g
        have : l' = l := by rw [el] at e1; cases e1; rfl
        subst this
        exact ⟨l', el, c', n⟩
end
end P

set_option maxRecDepth 100000
set_option maxHeartbeats 1000000
namespace P
open G

/-! # what an evaluation comes to, in plain values -/
inductive PR (α : Type) where
  | ok (a : α) (π : PEnv)
  | exc (c : Nat) (w : PV) (π : PEnv)
  | bad
def PR.bind {α β : Type} (r : PR α) (k : α → PEnv → PR β) : PR β := match r with
  | .ok a π => k a π
  | .exc c w π => .exc c w π
  | .bad => .bad
@[simp] theorem PR.bind_ok {α β : Type} (a : α) (π : PEnv) (k : α → PEnv → PR β) : (PR.ok a π).bind k = k a π := rfl
@[simp] theorem PR.bind_exc {α β : Type} (c : Nat) (w : PV) (π : PEnv) (k : α → PEnv → PR β) : (PR.exc c w π : PR α).bind k = .exc c w π := rfl
@[simp] theorem PR.bind_bad {α β : Type} (k : α → PEnv → PR β) : (PR.bad : PR α).bind k = .bad := rfl
abbrev PX (α : Type) := PEnv → PR α
def ofP {α : Type} (o : Option α) (π : PEnv) : PR α := match o with
  | some a => .ok a π
  | none => .bad
@[simp] theorem ofP_some {α : Type} (a : α) (π : PEnv) : ofP (some a) π = .ok a π := rfl
@[simp] theorem ofP_none {α : Type} (π : PEnv) : ofP (none : Option α) π = .bad := rfl

def RR {α β : Type} (B C : Nat → Prop) (ρ : Env) (S : Store) (π : PEnv) (r : R α) (p : PR β) (Q : α → Store → β → PEnv → Prop) : Prop := match p with
  | .ok b π' => ∃ a S', r = .ok a S' ∧ Nxt B ρ S π ρ S' π' ∧ Rel B C ρ S' π' ∧ Q a S' b π'
  | .exc c w π' => ∃ d S', r = .exc c d S' ∧ Nxt B ρ S π ρ S' π' ∧ Rel B C ρ S' π' ∧ Den (OO B C ρ π') S' w d
  | .bad => True
/-- C and one cell more -/
def more (C : Nat → Prop) (l : Nat) : Nat → Prop := fun k => C k ∨ k = l
def QF (B C : Nat → Prop) (ρ : Env) (S : Store) (d : D) (S' : Store) (v : PV) (π' : PEnv) : Prop :=
  ∃ l, d = .loc l ∧ S.length ≤ l ∧ Rel B (more C l) ρ S' π' ∧ CellV (OO B (more C l) ρ π') S' v l ∧ ∀ (i : Nat) (w : PV), π'[i]? = some (some (PSl.pk w)) → ρ[i]? ≠ some (some (D.loc l))
inductive Md where
  | v | k | f
def QM (md : Md) (B C : Nat → Prop) (ρ : Env) (S : Store) (d : D) (S' : Store) (v : PV) (π' : PEnv) : Prop := match md with
  | .v => Den (OO B C ρ π') S' v d
  | .k => Top (OO B C ρ π') S' v d
  | .f => QF B C ρ S d S' v π'
def E (md : Md) (f : F) (p : PX PV) : Prop := ∀ B C ρ S π, Rel B C ρ S π → RR B C ρ S π (f ρ S) (p π) (QM md B C ρ S)
def ET (f : FB) (p : PX Bool) : Prop := ∀ B C ρ S π, Rel B C ρ S π → RR B C ρ S π (f ρ S) (p π) fun b _ b' _ => b = b'
def EL (f : FL) (p : PX (List PV)) : Prop := ∀ B C ρ S π, Rel B C ρ S π → RR B C ρ S π (f ρ S) (p π) fun d S' v π' => DenL (OO B C ρ π') S' v d
section
variable {α β γ δ : Type} {B C : Nat → Prop} {ρ ρ' : Env} {S S' : Store} {π π' : PEnv}
theorem RR.bind {r : R α} {p : PR β} {Q : α → Store → β → PEnv → Prop} {f : α → Store → R γ} {g : β → PEnv → PR δ} {Q' : γ → Store → δ → PEnv → Prop}
    (h : RR B C ρ S π r p Q) (k : ∀ a S1 b π1, Nxt B ρ S π ρ S1 π1 → Rel B C ρ S1 π1 → Q a S1 b π1 → RR B C ρ S1 π1 (f a S1) (g b π1) Q') : RR B C ρ S π (r.bind f) (p.bind g) Q' := by
  cases p with
  | bad => trivial
  | exc c w π' => obtain ⟨d, S', rfl, u, e⟩ := h; exact ⟨d, S', rfl, u, e⟩
  | ok b π1 =>
    obtain ⟨a, S1, rfl, nx, rl, q⟩ := h
    have z := k a S1 b π1 nx rl q
    show RR B C ρ S π (f a S1) (g b π1) Q'
    unfold RR at z ⊢
    cases e : g b π1 with
    | bad => trivial
    | exc c w π' => rw [e] at z; obtain ⟨d, S', e1, u, e⟩ := z; exact ⟨d, S', e1, nx.trans u, e⟩
    | ok b' π2 => rw [e] at z; obtain ⟨a', S', e1, nx2, rl2, q2⟩ := z; exact ⟨a', S', e1, nx.trans nx2, rl2, q2⟩
theorem RR.shift {S1 : Store} {π1 : PEnv} {r : R α} {p : PR β} {Q : α → Store → β → PEnv → Prop} (nx : Nxt B ρ S π ρ S1 π1) (h : RR B C ρ S1 π1 r p Q) : RR B C ρ S π r p Q := by
  cases p with
  | bad => trivial
  | exc c w π' => obtain ⟨d, S', e, n2, q⟩ := h; exact ⟨d, S', e, nx.trans n2, q⟩
  | ok b π1 => obtain ⟨a, S1, e, n2, q⟩ := h; exact ⟨a, S1, e, nx.trans n2, q⟩
theorem RR.mono {r : R α} {p : PR β} {Q Q' : α → Store → β → PEnv → Prop} (h : RR B C ρ S π r p Q) (k : ∀ a S1 b π1, Nxt B ρ S π ρ S1 π1 → Rel B C ρ S1 π1 → Q a S1 b π1 → Q' a S1 b π1) : RR B C ρ S π r p Q' := by
  cases p with
  | bad => trivial
  | exc c w π' => exact h
  | ok b π1 => obtain ⟨a, S1, e, nx, rl, q⟩ := h; exact ⟨a, S1, e, nx, rl, k _ _ _ _ nx rl q⟩
theorem RR.here {a : α} {b : β} {Q : α → Store → β → PEnv → Prop} (rl : Rel B C ρ S π) (q : Q a S b π) : RR B C ρ S π (.ok a S) (.ok b π) Q := ⟨a, S, rfl, Nxt.refl, rl, q⟩
theorem RR.here' {a : α} {b : β} {Q : α → Store → β → PEnv → Prop} (rl : Rel B C ρ S π) (pr : Pre S S') (q : Q a S' b π) : RR B C ρ S π (.ok a S') (.ok b π) Q := ⟨a, S', rfl, pr.nxt, rl.pre pr, q⟩
theorem RR.ofP {o : Option β} {r : R α} {Q : α → Store → β → PEnv → Prop} (rl : Rel B C ρ S π) (h : ∀ b, o = some b → ∃ a S', r = .ok a S' ∧ Pre S S' ∧ Q a S' b π) : RR B C ρ S π r (P.ofP o π) Q := by
  cases o with
  | none => trivial
  | some b => obtain ⟨a, S', rfl, pr, q⟩ := h b rfl; exact RR.here' rl pr q
theorem Rel.less {l : Nat} (h : Rel B (more C l) ρ S π) : Rel B C ρ S π where
  len := h.len
  bc := fun k z => h.bc k (z.elim .inl fun c => .inr (.inl c))
  sep := h.sep
  slot := fun i s e => by
    have h1 : ∀ k, k < S.length → OO B C ρ π k → OO B (more C l) ρ π k := fun k _ z => z.elim .inl fun c => .inr (.inl c)
    have g := h.slot i s e
    cases s with
    | sh v => obtain ⟨d, e1, q⟩ := g; exact ⟨d, e1, q.mv h1 fun _ _ _ => rfl⟩
    | pk v => obtain ⟨d, e1, q, n⟩ := g; exact ⟨d, e1, q.mv h1 (fun _ _ _ => rfl) (fun _ _ => rfl), n⟩
    | ow v => obtain ⟨d, e1, q, n, n2⟩ := g; exact ⟨d, e1, q.mv h1 (fun _ _ _ => rfl) rfl, n, fun c => n2 (.inl c)⟩
    | mu v => obtain ⟨d, e1, q, n⟩ := g; exact ⟨d, e1, q.mv h1 (fun _ _ _ => rfl) rfl, n⟩
theorem oo_more {l : Nat} : ∀ k, k < S.length → OO B C ρ π k → OO B (more C l) ρ π k := fun k _ z => z.elim .inl fun c => .inr (.inl c)
/-- a cell that is new to the state may be kept apart -/
theorem Rel.add {l : Nat} (h : Rel B C ρ S π) (pr : Pre S S') (hl : S.length ≤ l) (hl' : l < S'.length) : Rel B (more C l) ρ S' π where
  len := h.len
  bc := fun k z => by
    rcases z with b | c | rfl
    · exact Nat.lt_of_lt_of_le (h.bc k (.inl b)) pr.1
    · exact Nat.lt_of_lt_of_le (h.bc k (.inr c)) pr.1
    · exact hl'
  sep := h.sep
  slot := fun i s e => by
    have h1 : ∀ k, k < S.length → OO B (more C l) ρ π k → OO B C ρ π k := fun k lt z => z.elim .inl fun c => .inr (c.elim id fun e => absurd lt (by subst e; omega))
    have h2 : ∀ k, k < S.length → ¬ OO B C ρ π k → S'[k]? = S[k]? := fun k lt _ => pr.2 k lt
    have g := h.slot i s e
    cases s with
    | sh v => obtain ⟨d, e1, q⟩ := g; exact ⟨d, e1, q.mv h1 h2⟩
    | pk v => obtain ⟨d, e1, q, n⟩ := g; exact ⟨d, e1, q.mv h1 h2 (fun l e => pr.2 l (n l e).2), fun l e => ⟨(n l e).1, Nat.lt_of_lt_of_le (n l e).2 pr.1⟩⟩
    | ow v =>
      obtain ⟨d, e1, q, n, n2⟩ := g
      exact ⟨d, e1, q.mv h1 h2 (pr.2 _ q.lt), n, fun c => c.elim n2 fun e => absurd q.lt (by omega)⟩
    | mu v => obtain ⟨d, e1, q, n⟩ := g; exact ⟨d, e1, q.mv h1 h2 (pr.2 _ q.lt), n⟩
theorem QF.of {c : Cell} {v : PV} (rl : Rel B C ρ S π) (h : ∀ O : Nat → Prop, (∀ k, k < S.length → O k → OO B C ρ π k) → CellV O (S ++ [c]) v S.length) : QF B C ρ S (.loc S.length) (S ++ [c]) v π :=
  ⟨S.length, rfl, Nat.le_refl _, rl.add (Pre.app S [c]) (Nat.le_refl _) (by simp), h _ fun k lt z => z.elim .inl fun q => .inr (q.elim id fun e => absurd lt (by omega)), fun i w e z => by
    obtain ⟨d, e1, _, n⟩ := rl.slot i _ e
    rw [z] at e1; cases e1
    exact absurd (n _ rfl).2 (Nat.lt_irrefl _)⟩
theorem QF.top {d : D} {v : PV} (h : QF B C ρ S d S' v π) : Top (OO B C ρ π) S' v d := by
  obtain ⟨l, rfl, _, rl, c, _⟩ := h
  exact (c.mv oo_more (fun _ _ _ => rfl) rfl).top
theorem QF.den {d : D} {v : PV} (r0 : Rel B C ρ S' π) (h : QF B C ρ S d S' v π) (hb : ∀ k, B k ∨ C k → k < S.length) (ho : ∀ k, Own ρ π k → k < S.length ∨ True) : Den (OO B C ρ π) S' v d := by
  obtain ⟨l, rfl, hl, rl, c, _⟩ := h
  refine (c.mv oo_more (fun _ _ _ => rfl) rfl).den fun z => ?_
  rcases z with (b | ⟨i, w, e1, e2⟩) | b
  · exact absurd (hb _ (.inl b)) (by omega)
  · have g := rl.slot i _ e1
    obtain ⟨l', e3, _, _, n⟩ := g
    rw [e2] at e3; cases e3
    exact n (.inr rfl)
  · exact absurd (hb _ (.inr b)) (by omega)
theorem QM.sub {md : Md} {S0 : Store} {d : D} {v : PV} (h : QM md B C ρ S d S' v π) (le : S0.length ≤ S.length) : QM md B C ρ S0 d S' v π := by
  cases md with
  | v => exact h
  | k => exact h
  | f => obtain ⟨l, e, hl, x⟩ := h; exact ⟨l, e, Nat.le_trans le hl, x⟩
theorem QM.v_ {d : D} {v : PV} (h : Den (OO B C ρ π) S' v d) : QM .v B C ρ S d S' v π := h
theorem QM.d_ {d : D} {v : PV} (h : QM .v B C ρ S d S' v π) : Den (OO B C ρ π) S' v d := h
theorem E.toK {md : Md} {f : F} {p : PX PV} (h : E md f p) : E .k f p := fun B C ρ S π rl => (h B C ρ S π rl).mono fun a S1 b π1 nx rl1 q => by
  cases md with
  | v => exact Den.top q
  | k => exact q
  | f => exact QF.top q
theorem E.toV {f : F} {p : PX PV} (h : E .f f p) : E .v f p := fun B C ρ S π rl => (h B C ρ S π rl).mono fun a S1 b π1 nx rl1 q => QF.den rl1 q rl.bc fun _ _ => .inr trivial
end

/-! # plain combinators and their rules -/
def qVar (i : Nat) : PX PV := fun π => match π[i]? with
  | some (some (.sh v)) => .ok v π
  | _ => .bad
/-- the slot's list is not changed any more -/
def qFrz (i : Nat) : PX PV := fun π => match π[i]? with
  | some (some (.sh v)) => .ok v π
  | some (some (.ow v)) => .ok v (π.set i (some (.sh v)))
  | _ => .bad
def slv (i : Nat) (π : PEnv) : Option PV := match π[i]? with
  | some (some s) => some s.val
  | _ => none
def qPk (i : Nat) : PX PV := fun π => ofP (slv i π) π
def qCon (v : PV) : PX PV := fun π => .ok v π
def qB2 (g : PV → PV → Option PV) (a b : PX PV) : PX PV := fun π => (a π).bind fun x π1 => (b π1).bind fun y π2 => ofP (g x y) π2
/-- the first is a slot, looked at behind the second -/
def qB2s (i : Nat) (g : PV → PV → Option PV) (b : PX PV) : PX PV := fun π => (ofP (slv i π) π).bind fun _ _ => (b π).bind fun y π2 => ofP ((slv i π2).bind fun x => g x y) π2
def qU (g : PV → Option PV) (a : PX PV) : PX PV := fun π => (a π).bind fun x π1 => ofP (g x) π1
def qNil : PX (List PV) := fun π => .ok [] π
def qCons (a : PX PV) (r : PX (List PV)) : PX (List PV) := fun π => (a π).bind fun x π1 => (r π1).bind fun xs π2 => .ok (x :: xs) π2
def qTup (r : PX (List PV)) : PX PV := fun π => (r π).bind fun xs π1 => if xs.length ≤ PySem.sizeLine then .ok (.tup xs) π1 else .bad
def qLst (r : PX (List PV)) : PX PV := fun π => (r π).bind fun xs π1 => if xs.length ≤ PySem.sizeLine then .ok (.lst xs) π1 else .bad
def qCall (g : List PV → Option PV) (r : PX (List PV)) : PX PV := fun π => (r π).bind fun xs π1 => ofP (g xs) π1
def qIf (t : PX Bool) (a b : PX PV) : PX PV := fun π => (t π).bind fun c π1 => if c = true then a π1 else b π1
def ptru (v : PV) : Option Bool := match v with
  | .non => some false
  | .bl b => some b
  | .int i => some (i != 0)
  | .str x => if x.length ≤ PySem.sizeLine then some ((x.length : Int) != 0) else none
  | .tup xs => some (!xs.isEmpty)
  | .lst xs => some (!xs.isEmpty)
  | .dK ks _ => some (!ks.isEmpty)
  | .dT _ _ => none
def qTru (a : PX PV) : PX Bool := fun π => (a π).bind fun x π1 => ofP (ptru x) π1
def qNotB (t : PX Bool) : PX Bool := fun π => (t π).bind fun c π1 => .ok (!c) π1
def qAndB (t u : PX Bool) : PX Bool := fun π => (t π).bind fun c π1 => if c = true then u π1 else .ok false π1
def qOrB (t u : PX Bool) : PX Bool := fun π => (t π).bind fun c π1 => if c = true then .ok true π1 else u π1
def qAnd (a b : PX PV) : PX PV := fun π => (a π).bind fun x π1 => (ofP (ptru x) π1).bind fun c π2 => if c = true then b π2 else .ok x π2
def qOr (a b : PX PV) : PX PV := fun π => (a π).bind fun x π1 => (ofP (ptru x) π1).bind fun c π2 => if c = true then .ok x π2 else b π2
def qNot (a : PX PV) : PX PV := fun π => (a π).bind fun x π1 => (ofP (ptru x) π1).bind fun c π2 => .ok (.bl (!c)) π2
def ptoB (v : PV) : Option Bool := match v with
  | .bl b => some b
  | _ => none
def qAsB (a : PX PV) : PX Bool := fun π => (a π).bind fun x π1 => ofP (ptoB x) π1
def qChain (g h : PV → PV → Option PV) (a b c : PX PV) : PX PV := fun π => (a π).bind fun x π1 => (b π1).bind fun y π2 => (ofP (g x y) π2).bind fun z π3 => (ofP (ptoB z) π3).bind fun k π4 =>
  if k = true then (c π4).bind fun w π5 => ofP (h y w) π5 else .ok (.bl false) π4
def OpV (g : D → D → Store → Option (D × Store)) (gp : PV → PV → Option PV) : Prop := ∀ O S a b x y v, Top O S a x → Top O S b y → gp a b = some v → ∃ d S', g x y S = some (d, S') ∧ Pre S S' ∧ Den O S' v d
def OpF (g : D → D → Store → Option (D × Store)) (gp : PV → PV → Option PV) : Prop := ∀ O S a b x y v, Top O S a x → Top O S b y → gp a b = some v → ∃ c, g x y S = some (.loc S.length, S ++ [c]) ∧ ∀ O' : Nat → Prop, (∀ k, k < S.length → O' k → O k) → CellV O' (S ++ [c]) v S.length
def CaV (g : List D → Store → Option (D × Store)) (gp : List PV → Option PV) : Prop := ∀ O S a x v, DenL O S a x → gp a = some v → ∃ d S', g x S = some (d, S') ∧ Pre S S' ∧ Den O S' v d
def C1V (g : D → Store → Option (D × Store)) (gp : PV → Option PV) : Prop := ∀ O S a x v, Top O S a x → gp a = some v → ∃ d S', g x S = some (d, S') ∧ Pre S S' ∧ Den O S' v d
def C1F (g : D → Store → Option (D × Store)) (gp : PV → Option PV) : Prop := ∀ O S a x v, Top O S a x → gp a = some v → ∃ c, g x S = some (.loc S.length, S ++ [c]) ∧ ∀ O' : Nat → Prop, (∀ k, k < S.length → O' k → O k) → CellV O' (S ++ [c]) v S.length
section
variable {md : Md} {fa fb fc : F} {pa pb pc : PX PV} {fl : FL} {pl : PX (List PV)} {ft fu : FB} {pt pu : PX Bool}
theorem e_var (i : Nat) : E .v (fVar i) (qVar i) := fun B C ρ S π rl => by
  unfold qVar
  split
  · rename_i v e
    obtain ⟨d, e1, q⟩ := rl.slot i _ e
    unfold fVar; rw [e1]
    exact RR.here rl q
  · trivial
theorem e_pk (i : Nat) : E .k (fVar i) (qPk i) := fun B C ρ S π rl => by
  unfold qPk slv
  split
  · rename_i s e
    have g := rl.slot i _ e
    cases s with
    | sh v => obtain ⟨d, e1, q⟩ := g; unfold fVar; rw [e1]; exact RR.here rl q.top
    | pk v => obtain ⟨d, e1, q, _⟩ := g; unfold fVar; rw [e1]; exact RR.here rl q
    | ow v => obtain ⟨d, e1, q, _⟩ := g; unfold fVar; rw [e1]; exact RR.here rl q.top
    | mu v => obtain ⟨d, e1, q, _⟩ := g; unfold fVar; rw [e1]; exact RR.here rl q.top
  · trivial
theorem own_set {ρ : Env} {π : PEnv} {i : Nat} {s : Option PSl} (hs : ∀ v, s ≠ some (.ow v)) {k : Nat} (h : Own ρ (π.set i s) k) : Own ρ π k := by
  obtain ⟨j, v, e1, e2⟩ := h
  by_cases hj : i = j
  · subst hj
    rw [List.getElem?_set] at e1
    simp at e1
    exact absurd e1.2 (hs v)
  · rw [List.getElem?_set_ne hj] at e1; exact ⟨j, v, e1, e2⟩
theorem Rel.freeze {B C : Nat → Prop} {ρ : Env} {S : Store} {π : PEnv} (rl : Rel B C ρ S π) {i : Nat} {v : PV} (e : π[i]? = some (some (.ow v))) : ∃ l, ρ[i]? = some (some (D.loc l)) ∧ Rel B C ρ S (π.set i (some (.sh v))) ∧ Nxt B ρ S π ρ S (π.set i (some (.sh v))) ∧ Den (OO B C ρ (π.set i (some (.sh v)))) S v (.loc l) := by
  obtain ⟨l, e1, c, nb, nc⟩ := rl.slot i _ e
  have hw : ∀ k, Own ρ (π.set i (some (.sh v))) k → Own ρ π k := fun k h => own_set (by intro w z; cases z) h
  have h1 : ∀ k, k < S.length → OO B C ρ (π.set i (some (.sh v))) k → OO B C ρ π k := fun k _ z => z.elim (fun m => .inl (m.elim .inl fun o => .inr (hw k o))) .inr
  have c' := c.mv h1 (fun _ _ _ => rfl) rfl
  have nO : ¬ OO B C ρ (π.set i (some (.sh v))) l := fun z => by
    rcases z with (b | ⟨j, w, z1, z2⟩) | b
    · exact nb b
    · by_cases hj : i = j
      · subst hj
        rw [List.getElem?_set] at z1; simp at z1
      · rw [List.getElem?_set_ne hj] at z1
        exact rl.sep i j _ _ l hj e rfl z1 rfl e1 z2
    · exact nc b
  refine ⟨l, e1, ⟨by simpa using rl.len, rl.bc, fun j s z => ?_, fun j1 j2 s t l hne z1 m1 z2 m2 => ?_⟩, ⟨Unch.refl, fun k _ => hw k, fun j w z => ⟨rfl, w, ?_⟩, rfl, fun j w z => ⟨rfl, w, ?_⟩⟩, c'.den nO⟩
  · by_cases hj : i = j
    · subst hj
      rw [List.getElem?_set] at z; simp at z
      obtain ⟨_, z⟩ := z
      subst z
      exact ⟨_, e1, c'.den nO⟩
    · rw [List.getElem?_set_ne hj] at z
      have g := rl.slot j s z
      cases s with
      | sh v => obtain ⟨d, e1, q⟩ := g; exact ⟨d, e1, q.mv h1 fun _ _ _ => rfl⟩
      | pk v => obtain ⟨d, e1, q, n⟩ := g; exact ⟨d, e1, q.mv h1 (fun _ _ _ => rfl) (fun _ _ => rfl), fun l e => ⟨fun m => (n l e).1 (m.elim .inl fun o => .inr (hw l o)), (n l e).2⟩⟩
      | ow v => obtain ⟨d, e1, q, n⟩ := g; exact ⟨d, e1, q.mv h1 (fun _ _ _ => rfl) rfl, n⟩
      | mu v => obtain ⟨d, e1, q, n⟩ := g; exact ⟨d, e1, q.mv h1 (fun _ _ _ => rfl) rfl, n⟩
  · have nn : ∀ (j : Nat) (s : PSl), (π.set i (some (.sh v)))[j]? = some (some s) → isM s = true → π[j]? = some (some s) := fun j s z m => by
      by_cases hj : i = j
      · subst hj
        rw [List.getElem?_set] at z; simp at z
        obtain ⟨_, z⟩ := z; subst z; cases m
      · rwa [List.getElem?_set_ne hj] at z
    exact rl.sep j1 j2 s t l hne (nn _ _ z1 m1) m1 (nn _ _ z2 m2) m2
  · by_cases hj : i = j
    · subst hj; rw [e] at z; cases z
    · rw [List.getElem?_set_ne hj]; exact z
  · by_cases hj : i = j
    · subst hj
      rw [List.getElem?_set] at z; simp at z
    · rwa [List.getElem?_set_ne hj] at z
theorem e_frz (i : Nat) : E .v (fVar i) (qFrz i) := fun B C ρ S π rl => by
  unfold qFrz
  split
  · rename_i v e
    obtain ⟨d, e1, q⟩ := rl.slot i _ e
    unfold fVar; rw [e1]
    exact RR.here rl q
  · rename_i v e
    obtain ⟨l, e1, rl', nx, q⟩ := rl.freeze e
    unfold fVar; rw [e1]
    exact ⟨_, S, rfl, nx, rl', q⟩
  · trivial
theorem e_con {v : PV} {d : D} (h : ∀ O S, Den O S v d) : E .v (fCon d) (qCon v) := fun B C ρ S π rl => RR.here rl (h _ _)
theorem e_b2 {g : D → D → Store → Option (D × Store)} {gp : PV → PV → Option PV} (hg : OpV g gp) (ha : E .v fa pa) (hb : E .k fb pb) : E .v (fB2 g fa fb) (qB2 gp pa pb) := fun B C ρ S π rl =>
  (ha B C ρ S π rl).bind fun x S1 a π1 nx rl1 qa => (hb B C ρ S1 π1 rl1).bind fun y S2 b π2 nx2 rl2 qb => RR.ofP rl2 fun v e => by
    obtain ⟨d, S', e1, pr, q⟩ := hg _ _ _ _ _ _ _ (nx2.den qa).top qb e
    exact ⟨d, S', by rw [e1]; rfl, pr, q⟩
theorem e_b2F {g : D → D → Store → Option (D × Store)} {gp : PV → PV → Option PV} (hg : OpF g gp) (ha : E .v fa pa) (hb : E .k fb pb) : E .f (fB2 g fa fb) (qB2 gp pa pb) := fun B C ρ S π rl =>
  (ha B C ρ S π rl).bind fun x S1 a π1 nx rl1 qa => (hb B C ρ S1 π1 rl1).bind fun y S2 b π2 nx2 rl2 qb => RR.ofP rl2 fun v e => by
    obtain ⟨c, e1, q⟩ := hg _ _ _ _ _ _ _ (nx2.den qa).top qb e
    exact ⟨_, _, by rw [e1]; rfl, Pre.app _ _, QM.sub (md := .f) (QF.of rl2 q) (Nat.le_trans nx.un.le nx2.un.le)⟩
theorem slv_top {B C : Nat → Prop} {ρ : Env} {S : Store} {π : PEnv} (rl : Rel B C ρ S π) {i : Nat} {v : PV} (h : slv i π = some v) : ∃ d, ρ[i]? = some (some d) ∧ Top (OO B C ρ π) S v d := by
  unfold slv at h
  split at h
  · rename_i s e
    cases h
    have g := rl.slot i _ e
    cases s with
    | sh v => obtain ⟨d, e1, q⟩ := g; exact ⟨d, e1, q.top⟩
    | pk v => obtain ⟨d, e1, q, _⟩ := g; exact ⟨d, e1, q⟩
    | ow v => obtain ⟨d, e1, q, _⟩ := g; exact ⟨_, e1, q.top⟩
    | mu v => obtain ⟨d, e1, q, _⟩ := g; exact ⟨_, e1, q.top⟩
  · cases h
/-- the slot's own datum: it is the same behind an expression -/
theorem e_b2s {g : D → D → Store → Option (D × Store)} {gp : PV → PV → Option PV} (i : Nat) (hg : OpV g gp) (hb : E .k fb pb) : E .v (fB2 g (fVar i) fb) (qB2s i gp pb) := fun B C ρ S π rl => by
  unfold qB2s
  cases e0 : slv i π with
  | none => trivial
  | some v0 =>
    obtain ⟨d, e1, _⟩ := slv_top rl e0
    have ef : fB2 g (fVar i) fb ρ S = (fb ρ S).bind fun y S2 => ofO (g d y S2) := by unfold fB2 fVar; rw [e1]; rfl
    rw [ef]
    refine (hb B C ρ S π rl).bind fun y S2 b π2 nx2 rl2 qb => RR.ofP rl2 fun v e => ?_
    cases e2 : slv i π2 with
    | none => rw [e2] at e; cases e
    | some v2 =>
      rw [e2] at e
      obtain ⟨d2, e3, q2⟩ := slv_top rl2 e2
      rw [e1] at e3; cases e3
      obtain ⟨d', S', e4, pr, q⟩ := hg _ _ _ _ _ _ _ q2 qb e
      exact ⟨d', S', by rw [e4]; rfl, pr, q⟩
theorem e_u {g : D → Store → Option (D × Store)} {gp : PV → Option PV} (hg : C1V g gp) (ha : E .k fa pa) : E .v (fU g fa) (qU gp pa) := fun B C ρ S π rl =>
  (ha B C ρ S π rl).bind fun x S1 a π1 nx rl1 qa => RR.ofP rl1 fun v e => by
    obtain ⟨d, S', e1, pr, q⟩ := hg _ _ _ _ _ qa e
    exact ⟨d, S', by rw [e1]; rfl, pr, q⟩
theorem el_nil : EL fNil qNil := fun B C ρ S π rl => RR.here rl DenL.nil
theorem el_cons (ha : E .v fa pa) (hl : EL fl pl) : EL (fCons fa fl) (qCons pa pl) := fun B C ρ S π rl =>
  (ha B C ρ S π rl).bind fun x S1 a π1 nx rl1 qa => (hl B C ρ S1 π1 rl1).bind fun y S2 b π2 nx2 rl2 qb => RR.here rl2 (DenL.cons (nx2.den qa) qb)
theorem e_tup (hl : EL fl pl) : E .v (fTup fl) (qTup pl) := fun B C ρ S π rl =>
  (hl B C ρ S π rl).bind fun x S1 a π1 nx rl1 qa => by
    rw [qa.len]
    split
    · exact RR.here rl1 (Den.tup qa)
    · trivial
theorem cell_lst {O O' : Nat → Prop} {S : Store} {vs : List PV} {ds : List D} (h : DenL O S vs ds) (ho : ∀ k, k < S.length → O' k → O k) : CellV O' (S ++ [.lst ds]) (.lst vs) S.length :=
  ⟨ds, by simp, h.mv ho fun k lt _ => (Pre.app S _).2 k lt⟩
theorem e_lst (hl : EL fl pl) : E .f (fLst fl) (qLst pl) := fun B C ρ S π rl =>
  (hl B C ρ S π rl).bind fun x S1 a π1 nx rl1 qa => by
    rw [qa.len]
    split
    · exact RR.here' rl1 (Pre.app _ _) (QM.sub (md := .f) (QF.of rl1 fun O ho => cell_lst qa ho) nx.un.le)
    · trivial
theorem e_call {g : List D → Store → Option (D × Store)} {gp : List PV → Option PV} (hg : CaV g gp) (hl : EL fl pl) : E .v (fCall g fl) (qCall gp pl) := fun B C ρ S π rl =>
  (hl B C ρ S π rl).bind fun x S1 a π1 nx rl1 qa => RR.ofP rl1 fun v e => by
    obtain ⟨d, S', e1, pr, q⟩ := hg _ _ _ _ _ qa e
    exact ⟨d, S', by rw [e1]; rfl, pr, q⟩
theorem fcall_one {g : List D → Store → Option (D × Store)} {ρ : Env} {S : Store} : fCall g (fCons fa fNil) ρ S = (fa ρ S).bind fun x S1 => ofO (g [x] S1) := by
  unfold fCall fCons fNil
  cases fa ρ S <;> rfl
theorem e_c1 {g : List D → Store → Option (D × Store)} {gp : PV → Option PV} (hg : C1V (fun x => g [x]) gp) (ha : E .k fa pa) : E .v (fCall g (fCons fa fNil)) (qU gp pa) := fun B C ρ S π rl => by
  rw [fcall_one]
  exact e_u hg ha B C ρ S π rl
theorem e_uF {g : D → Store → Option (D × Store)} {gp : PV → Option PV} (hg : C1F g gp) (ha : E .k fa pa) : E .f (fU g fa) (qU gp pa) := fun B C ρ S π rl =>
  (ha B C ρ S π rl).bind fun x S1 a π1 nx rl1 qa => RR.ofP rl1 fun v e => by
    obtain ⟨c, e1, q⟩ := hg _ _ _ _ _ qa e
    exact ⟨_, _, by rw [e1]; rfl, Pre.app _ _, QM.sub (md := .f) (QF.of rl1 q) nx.un.le⟩
theorem e_c1F {g : List D → Store → Option (D × Store)} {gp : PV → Option PV} (hg : C1F (fun x => g [x]) gp) (ha : E .k fa pa) : E .f (fCall g (fCons fa fNil)) (qU gp pa) := fun B C ρ S π rl => by
  rw [fcall_one]
  exact e_uF hg ha B C ρ S π rl
theorem e_if (ht : ET ft pt) (ha : E md fa pa) (hb : E md fb pb) : E md (fIf ft fa fb) (qIf pt pa pb) := fun B C ρ S π rl =>
  (ht B C ρ S π rl).bind fun x S1 a π1 nx rl1 qa => by
    subst qa
    split
    · exact (ha B C ρ S1 π1 rl1).mono fun _ _ _ _ _ _ q => q.sub nx.un.le
    · exact (hb B C ρ S1 π1 rl1).mono fun _ _ _ _ _ _ q => q.sub nx.un.le
theorem Top.non_inv {O : Nat → Prop} {S : Store} {d : D} (h : Top O S .non d) : d = .non := Den.non_inv (O := O) (S := S) h
theorem Top.bl_inv {O : Nat → Prop} {S : Store} {i : Bool} {d : D} (h : Top O S (.bl i) d) : d = .bl i := Den.bl_inv (O := O) (S := S) h
theorem Top.int_inv {O : Nat → Prop} {S : Store} {i : Int} {d : D} (h : Top O S (.int i) d) : d = .int i := Den.int_inv (O := O) (S := S) h
theorem Top.str_inv {O : Nat → Prop} {S : Store} {i : PySem.Str} {d : D} (h : Top O S (.str i) d) : d = .str i := Den.str_inv (O := O) (S := S) h
theorem Top.tup_inv {O : Nat → Prop} {S : Store} {vs : List PV} {d : D} (h : Top O S (.tup vs) d) : ∃ ds, d = .tup ds ∧ DenL O S vs ds := Den.tup_inv (O := O) (S := S) h
theorem Top.lst_inv {O : Nat → Prop} {S : Store} {vs : List PV} {d : D} (h : Top O S (.lst vs) d) : ∃ l, d = .loc l ∧ ∃ ds, S[l]? = some (Cell.lst ds) ∧ DenL O S vs ds := h
theorem Top.dK_inv {O : Nat → Prop} {S : Store} {ks : List Key} {vs : List PV} {d : D} (h : Top O S (.dK ks vs) d) : ∃ l, d = .loc l ∧ ∃ es, S[l]? = some (Cell.dK es) ∧ es.map Prod.fst = ks ∧ DenL O S vs (es.map Prod.snd) := h
theorem Top.dT_inv {O : Nat → Prop} {S : Store} {ks : List (List Key)} {vs : List PV} {d : D} (h : Top O S (.dT ks vs) d) : ∃ l, d = .loc l ∧ ∃ es, S[l]? = some (Cell.dT es) ∧ es.map Prod.fst = ks ∧ DenL O S vs (es.map Prod.snd) := h
theorem ptru_ok {O : Nat → Prop} {S : Store} {v : PV} {d : D} {b : Bool} (h : Top O S v d) (e : ptru v = some b) : tru d S = some b := by
  cases v with
  | non => rw [h.non_inv]; exact e
  | bl b => rw [h.bl_inv]; exact e
  | int b => rw [h.int_inv]; exact e
  | str b => rw [h.str_inv]; exact e
  | tup vs =>
    obtain ⟨ds, rfl, r⟩ := h.tup_inv
    cases e
    have := r.len
    cases vs <;> cases ds <;> simp_all [tru]
  | lst vs =>
    obtain ⟨l, rfl, ds, g, r⟩ := h.lst_inv
    cases e
    have := r.len
    simp only [tru, g]
    cases vs <;> cases ds <;> simp_all
  | dK ks vs =>
    obtain ⟨l, rfl, es, g, q, r⟩ := h.dK_inv
    cases e
    simp only [tru, g]; subst q
    cases es <;> simp
  | dT ks vs => cases e
theorem RR.test {α β : Type} {B C : Nat → Prop} {ρ : Env} {S : Store} {π : PEnv} {x : D} {a : PV} {k : Bool → Store → R α} {kp : Bool → PEnv → PR β} {Q : α → Store → β → PEnv → Prop} (q : Top (OO B C ρ π) S a x) (h : ∀ b, RR B C ρ S π (k b S) (kp b π) Q) :
    RR B C ρ S π ((ofB (tru x S) S).bind k) ((P.ofP (ptru a) π).bind kp) Q := by
  cases e : ptru a with
  | none => trivial
  | some b => rw [ptru_ok q e]; exact h b
theorem t_tru (ha : E .k fa pa) : ET (fTru fa) (qTru pa) := fun B C ρ S π rl =>
  (ha B C ρ S π rl).bind fun x S1 a π1 nx rl1 qa => RR.ofP rl1 fun b e => by
    rw [ptru_ok qa e]
    exact ⟨b, S1, rfl, Pre.refl, rfl⟩
theorem t_not (ht : ET ft pt) : ET (fNotB ft) (qNotB pt) := fun B C ρ S π rl =>
  (ht B C ρ S π rl).bind fun x S1 a π1 nx rl1 qa => by subst qa; exact RR.here rl1 rfl
theorem t_and (ht : ET ft pt) (hu : ET fu pu) : ET (fAndB ft fu) (qAndB pt pu) := fun B C ρ S π rl =>
  (ht B C ρ S π rl).bind fun x S1 a π1 nx rl1 qa => by
    subst qa
    split
    · exact hu B C ρ S1 π1 rl1
    · exact RR.here rl1 rfl
theorem t_or (ht : ET ft pt) (hu : ET fu pu) : ET (fOrB ft fu) (qOrB pt pu) := fun B C ρ S π rl =>
  (ht B C ρ S π rl).bind fun x S1 a π1 nx rl1 qa => by
    subst qa
    split
    · exact RR.here rl1 rfl
    · exact hu B C ρ S1 π1 rl1
theorem e_and (ha : E .v fa pa) (hb : E .v fb pb) : E .v (fAnd fa fb) (qAnd pa pb) := fun B C ρ S π rl =>
  (ha B C ρ S π rl).bind fun x S1 a π1 nx rl1 qa => RR.test (Den.top qa) fun b => by
    split
    · exact hb B C ρ S1 π1 rl1
    · exact RR.here rl1 qa
theorem e_or (ha : E .v fa pa) (hb : E .v fb pb) : E .v (fOr fa fb) (qOr pa pb) := fun B C ρ S π rl =>
  (ha B C ρ S π rl).bind fun x S1 a π1 nx rl1 qa => RR.test (Den.top qa) fun b => by
    split
    · exact RR.here rl1 qa
    · exact hb B C ρ S1 π1 rl1
theorem e_not (ha : E .k fa pa) : E .v (fNot fa) (qNot pa) := fun B C ρ S π rl =>
  (ha B C ρ S π rl).bind fun x S1 a π1 nx rl1 qa => RR.test qa fun b => RR.here rl1 (QM.v_ Den.bl)
theorem RR.toB {β : Type} {α : Type} {B C : Nat → Prop} {ρ : Env} {S : Store} {π : PEnv} {x : D} {a : PV} {k : Bool → Store → R α} {kp : Bool → PEnv → PR β} {Q : α → Store → β → PEnv → Prop} (q : Den (OO B C ρ π) S a x) (h : ∀ b, RR B C ρ S π (k b S) (kp b π) Q) :
    RR B C ρ S π ((G.toB x S).bind k) ((P.ofP (ptoB a) π).bind kp) Q := by
  cases a with
  | bl b => rw [q.bl_inv]; exact h b
  | _ => trivial
theorem t_asB (ha : E .v fa pa) : ET (fAsB fa) (qAsB pa) := fun B C ρ S π rl =>
  (ha B C ρ S π rl).bind fun x S1 a π1 nx rl1 qa => by
    cases a with
    | bl b => have := qa.d_.bl_inv; subst this; exact RR.here rl1 rfl
    | _ => trivial
theorem e_chain {g h : D → D → Store → Option (D × Store)} {gp hp : PV → PV → Option PV} (hg : OpV g gp) (hh : OpV h hp) (ha : E .v fa pa) (hb : E .v fb pb) (hc : E .k fc pc) : E .v (fChain g h fa fb fc) (qChain gp hp pa pb pc) := fun B C ρ S π rl =>
  (ha B C ρ S π rl).bind fun x S1 a π1 nx rl1 qa => (hb B C ρ S1 π1 rl1).bind fun y S2 b π2 nx2 rl2 qb => by
    refine RR.bind (Q := fun d S' v π' => Den (OO B C ρ π') S' v d) (RR.ofP rl2 fun v e => ?_) fun z S3 c π3 nx3 rl3 qc => RR.toB qc fun k => ?_
    · obtain ⟨d, S', e1, pr, q⟩ := hg _ _ _ _ _ _ _ (nx2.den qa).top (Den.top qb) e
      exact ⟨d, S', by rw [e1]; rfl, pr, q⟩
    · split
      · refine (hc B C ρ S3 π3 rl3).bind fun w S5 u π5 nx5 rl5 qu => RR.ofP rl5 fun v e => ?_
        obtain ⟨d, S', e1, pr, q⟩ := hh _ _ _ _ _ _ _ (nx5.den (nx3.den qb)).top qu e
        exact ⟨d, S', by rw [e1]; rfl, pr, q⟩
      · exact RR.here rl3 (QM.v_ Den.bl)
end
end P

set_option maxRecDepth 100000
set_option maxHeartbeats 1000000
namespace P
open G
/-! # statements -/
inductive PFl where
  | nx (π : PEnv) | ret (v : PV) (π : PEnv) | bk (π : PEnv) | ct (π : PEnv) | exc (c : Nat) (w : PV) (π : PEnv) | bad
abbrev PS := PEnv → PFl
def PR.toFl {α : Type} (r : PR α) (k : α → PEnv → PFl) : PFl := match r with
  | .ok a π => k a π
  | .exc c w π => .exc c w π
  | .bad => .bad
@[simp] theorem PR.toFl_ok {α : Type} (a : α) (π : PEnv) (k : α → PEnv → PFl) : (PR.ok a π).toFl k = k a π := rfl
@[simp] theorem PR.toFl_exc {α : Type} (c : Nat) (w : PV) (π : PEnv) (k : α → PEnv → PFl) : (PR.exc c w π : PR α).toFl k = .exc c w π := rfl
@[simp] theorem PR.toFl_bad {α : Type} (k : α → PEnv → PFl) : (PR.bad : PR α).toFl k = .bad := rfl
def PFl.seq (r : PFl) (k : PS) : PFl := match r with
  | .nx π => k π
  | r => r
@[simp] theorem PFl.seq_nx (π : PEnv) (k : PS) : (PFl.nx π).seq k = k π := rfl
@[simp] theorem PFl.seq_ret (v : PV) (π : PEnv) (k : PS) : (PFl.ret v π).seq k = .ret v π := rfl
@[simp] theorem PFl.seq_bk (π : PEnv) (k : PS) : (PFl.bk π).seq k = .bk π := rfl
@[simp] theorem PFl.seq_ct (π : PEnv) (k : PS) : (PFl.ct π).seq k = .ct π := rfl
@[simp] theorem PFl.seq_exc (c : Nat) (w : PV) (π : PEnv) (k : PS) : (PFl.exc c w π).seq k = .exc c w π := rfl
@[simp] theorem PFl.seq_bad (k : PS) : PFl.bad.seq k = .bad := rfl
def BC (B C : Nat → Prop) : Nat → Prop := fun k => B k ∨ C k
def MuOut (ρ : Env) (π π' : PEnv) (S' : Store) (X : Nat → Prop) : Prop := ∀ (i : Nat) (v : PV), π[i]? = some (some (PSl.mu v)) → ∃ l v', ρ[i]? = some (some (D.loc l)) ∧ π'[i]? = some (some (PSl.mu v')) ∧ CellV X S' v' l
def RetOk (fm : Bool) (B C : Nat → Prop) (ρ : Env) (S : Store) (π : PEnv) (d : D) (S' : Store) (v : PV) (π' : PEnv) : Prop := Unch (MM B ρ π) S S' ∧
  if fm = true then ∃ l, d = .loc l ∧ (l < S.length → Own ρ π l) ∧ ¬ B l ∧ ¬ C l ∧ CellV (more (BC B C) l) S' v l ∧ MuOut ρ π π' S' (more (BC B C) l)
  else Den (BC B C) S' v d ∧ MuOut ρ π π' S' (BC B C)
def RF (fm : Bool) (B C : Nat → Prop) (ρ : Env) (S : Store) (π : PEnv) (r : Fl) (p : PFl) : Prop := match p with
  | .nx π' => ∃ ρ' S', r = .nx ρ' S' ∧ Nxt B ρ S π ρ' S' π' ∧ Rel B C ρ' S' π'
  | .bk π' => ∃ ρ' S', r = .bk ρ' S' ∧ Nxt B ρ S π ρ' S' π' ∧ Rel B C ρ' S' π'
  | .ct π' => ∃ ρ' S', r = .ct ρ' S' ∧ Nxt B ρ S π ρ' S' π' ∧ Rel B C ρ' S' π'
  | .ret v π' => ∃ d S', r = .ret d S' ∧ RetOk fm B C ρ S π d S' v π'
  | .exc c w π' => ∃ d ρ' S', r = .exc c d ρ' S' ∧ Nxt B ρ S π ρ' S' π' ∧ Rel B C ρ' S' π' ∧ Den (OO B C ρ' π') S' w d
  | .bad => True
def SS (fm : Bool) (f : FS) (p : PS) : Prop := ∀ B C ρ S π, Rel B C ρ S π → RF fm B C ρ S π (f ρ S) (p π)
section
variable {fm : Bool} {α β : Type} {B C : Nat → Prop} {ρ ρ' ρ1 : Env} {S S' S1 : Store} {π π' π1 : PEnv}
theorem RF.shift (nx : Nxt B ρ S π ρ1 S1 π1) {r : Fl} {p : PFl} (h : RF fm B C ρ1 S1 π1 r p) : RF fm B C ρ S π r p := by
  cases p with
  | bad => trivial
  | nx π' => obtain ⟨ρ', S', e, n2, rl⟩ := h; exact ⟨ρ', S', e, nx.trans n2, rl⟩
  | bk π' => obtain ⟨ρ', S', e, n2, rl⟩ := h; exact ⟨ρ', S', e, nx.trans n2, rl⟩
  | ct π' => obtain ⟨ρ', S', e, n2, rl⟩ := h; exact ⟨ρ', S', e, nx.trans n2, rl⟩
  | exc c w π' => obtain ⟨d, ρ', S', e, n2, q⟩ := h; exact ⟨d, ρ', S', e, nx.trans n2, q⟩
  | ret v π' =>
    obtain ⟨d, S', e, u, q⟩ := h
    have mo : ∀ X, MuOut ρ1 π1 π' S' X → MuOut ρ π π' S' X := fun X m i v hi => by
      obtain ⟨e1, v1, g1⟩ := nx.mu i v hi
      obtain ⟨l, v', h1, h2, h3⟩ := m i v1 g1
      exact ⟨l, v', by rw [← e1]; exact h1, h2, h3⟩
    refine ⟨d, S', e, nx.unT u, ?_⟩
    cases fm with
    | true =>
      obtain ⟨l, e1, o, nb, nc, c, m⟩ := q
      exact ⟨l, e1, fun lt => nx.ow l lt (o (Nat.lt_of_lt_of_le lt nx.un.le)), nb, nc, c, mo _ m⟩
    | false => exact ⟨q.1, mo _ q.2⟩
theorem RF.ofR {r : R α} {p : PR β} {Q : α → Store → β → PEnv → Prop} {f : α → Store → Fl} {g : β → PEnv → PFl} (h : RR B C ρ S π r p Q) (k : ∀ a S1 b π1, Nxt B ρ S π ρ S1 π1 → Rel B C ρ S1 π1 → Q a S1 b π1 → RF fm B C ρ S1 π1 (f a S1) (g b π1)) : RF fm B C ρ S π (r.toFl ρ f) (p.toFl g) := by
  cases p with
  | bad => trivial
  | exc c w π' => obtain ⟨d, S', rfl, u, e⟩ := h; exact ⟨d, ρ, S', rfl, u, e⟩
  | ok b π1 =>
    obtain ⟨a, S1, rfl, nx, rl, q⟩ := h
    exact (k a S1 b π1 nx rl q).shift nx
theorem RF.seq {r : Fl} {p : PFl} {f : FS} {g : PS} (h : RF fm B C ρ S π r p) (k : ∀ ρ1 S1 π1, Nxt B ρ S π ρ1 S1 π1 → Rel B C ρ1 S1 π1 → RF fm B C ρ1 S1 π1 (f ρ1 S1) (g π1)) : RF fm B C ρ S π (r.seq f) (p.seq g) := by
  cases p with
  | bad => trivial
  | nx π' => obtain ⟨ρ', S', rfl, nx, rl⟩ := h; exact (k _ _ _ nx rl).shift nx
  | bk π' => obtain ⟨ρ', S', rfl, nx, rl⟩ := h; exact ⟨ρ', S', rfl, nx, rl⟩
  | ct π' => obtain ⟨ρ', S', rfl, nx, rl⟩ := h; exact ⟨ρ', S', rfl, nx, rl⟩
  | exc c w π' => obtain ⟨d, ρ', S', rfl, q⟩ := h; exact ⟨d, ρ', S', rfl, q⟩
  | ret v π' => obtain ⟨d, S', rfl, q⟩ := h; exact ⟨d, S', rfl, q⟩
theorem RF.here (rl : Rel B C ρ S π) : RF fm B C ρ S π (.nx ρ S) (.nx π) := ⟨ρ, S, rfl, Nxt.refl, rl⟩
/-! ## the slots -/
def nmS : Option PSl → Bool
  | some (.mu _) => false
  | _ => true
def noMu (π : PEnv) (i : Nat) : Bool := match π[i]? with
  | some s => nmS s
  | none => true
theorem noMu_ne {i : Nat} (h : noMu π i = true) (w : PV) : π[i]? ≠ some (some (PSl.mu w)) := fun e => by unfold noMu at h; rw [e] at h; cases h
theorem set_at {α : Type} {xs : List α} {i j : Nat} {a b : α} (h : (xs.set i a)[j]? = some b) : (i = j ∧ b = a) ∨ (i ≠ j ∧ xs[j]? = some b) := by
  by_cases e : i = j
  · subst e
    rw [List.getElem?_set] at h
    simp at h
    exact .inl ⟨rfl, h.2.symm⟩
  · rw [List.getElem?_set_ne e] at h; exact .inr ⟨e, h⟩
theorem set_same {α : Type} {xs : List α} {i : Nat} {a : α} (h : i < xs.length) : (xs.set i a)[i]? = some a := by rw [List.getElem?_set]; simp [h]
theorem lt_set {α : Type} {xs : List α} {i : Nat} {a b : α} (h : (xs.set i a)[i]? = some b) : i < xs.length := by simpa using lt_of h
theorem Rel.setSh {i : Nat} {v : PV} {d : D} (rl : Rel B C ρ S π) (h : Den (OO B C ρ π) S v d) (hm : noMu π i = true) : Rel B C (ρ.set i (some d)) S (π.set i (some (.sh v))) ∧ Nxt B ρ S π (ρ.set i (some d)) S (π.set i (some (.sh v))) := by
  have ho : ∀ k, Own (ρ.set i (some d)) (π.set i (some (.sh v))) k → Own ρ π k := fun k ⟨j, w, e1, e2⟩ => by
    rcases set_at e1 with ⟨_, z⟩ | ⟨ne, z⟩
    · cases z
    · rw [List.getElem?_set_ne ne] at e2; exact ⟨j, w, z, e2⟩
  have hM : ∀ k, MM B (ρ.set i (some d)) (π.set i (some (.sh v))) k → MM B ρ π k := fun k z => z.elim .inl fun o => .inr (ho k o)
  have h1 : ∀ k, k < S.length → OO B C (ρ.set i (some d)) (π.set i (some (.sh v))) k → OO B C ρ π k := fun k _ z => z.elim (fun m => .inl (hM k m)) .inr
  refine ⟨⟨by simpa using rl.len, rl.bc, fun j s e => ?_, fun j1 j2 s t l hne z1 m1 z2 m2 => ?_⟩, ⟨Unch.refl, fun k _ => ho k, fun j w e => ?_, by simp, fun j w e => ?_⟩⟩
  · rcases set_at e with ⟨z, z2⟩ | ⟨ne, z⟩
    · subst z; cases z2
      exact ⟨d, set_same (by rw [rl.len]; exact lt_set e), h.mv h1 fun _ _ _ => rfl⟩
    · have g := rl.slot j s z
      cases s with
      | sh v => obtain ⟨d, e1, q⟩ := g; exact ⟨d, by rw [List.getElem?_set_ne ne]; exact e1, q.mv h1 fun _ _ _ => rfl⟩
      | pk v => obtain ⟨d, e1, q, n⟩ := g; exact ⟨d, by rw [List.getElem?_set_ne ne]; exact e1, q.mv h1 (fun _ _ _ => rfl) (fun _ _ => rfl), fun l e => ⟨fun m => (n l e).1 (hM l m), (n l e).2⟩⟩
      | ow v => obtain ⟨d, e1, q, n⟩ := g; exact ⟨d, by rw [List.getElem?_set_ne ne]; exact e1, q.mv h1 (fun _ _ _ => rfl) rfl, n⟩
      | mu v => obtain ⟨d, e1, q, n⟩ := g; exact ⟨d, by rw [List.getElem?_set_ne ne]; exact e1, q.mv h1 (fun _ _ _ => rfl) rfl, n⟩
  · rcases set_at z1 with ⟨_, w1⟩ | ⟨ne1, w1⟩
    · cases w1; cases m1
    rcases set_at z2 with ⟨_, w2⟩ | ⟨ne2, w2⟩
    · cases w2; cases m2
    rw [List.getElem?_set_ne ne1, List.getElem?_set_ne ne2]
    exact rl.sep j1 j2 s t l hne w1 m1 w2 m2
  · by_cases hj : i = j
    · subst hj; exact absurd e (noMu_ne hm w)
    · exact ⟨List.getElem?_set_ne hj, w, by rw [List.getElem?_set_ne hj]; exact e⟩
  · rcases set_at e with ⟨_, z⟩ | ⟨ne, z⟩
    · cases z
    · exact ⟨List.getElem?_set_ne ne, w, z⟩
theorem Rel.setOw {i l : Nat} {v : PV} (rl : Rel B (more C l) ρ S π) (c : CellV (OO B (more C l) ρ π) S v l) (nb : ¬ B l) (nc : ¬ C l) (np : ∀ (i : Nat) (w : PV), π[i]? = some (some (PSl.pk w)) → ρ[i]? ≠ some (some (D.loc l))) (hm : noMu π i = true) :
    Rel B C (ρ.set i (some (.loc l))) S (π.set i (some (.ow v))) := by
  have ho : ∀ k, Own (ρ.set i (some (.loc l))) (π.set i (some (.ow v))) k → k = l ∨ Own ρ π k := fun k ⟨j, w, e1, e2⟩ => by
    rcases set_at e1 with ⟨z0, z⟩ | ⟨ne, z⟩
    · subst z0
      rcases set_at e2 with ⟨_, z3⟩ | ⟨ne, _⟩
      · cases z3; exact .inl rfl
      · exact absurd rfl ne
    · rw [List.getElem?_set_ne ne] at e2; exact .inr ⟨j, w, z, e2⟩
  have h1 : ∀ k, k < S.length → OO B C (ρ.set i (some (.loc l))) (π.set i (some (.ow v))) k → OO B (more C l) ρ π k := fun k _ z => by
    rcases z with (b | o) | c
    · exact .inl (.inl b)
    · rcases ho k o with e | o
      · exact .inr (.inr e)
      · exact .inl (.inr o)
    · exact .inr (.inl c)
  refine ⟨by simpa using rl.len, rl.less.bc, fun j s e => ?_, fun j1 j2 s t l' hne z1 m1 z2 m2 => ?_⟩
  · rcases set_at e with ⟨z, z2⟩ | ⟨ne, z⟩
    · subst z; cases z2
      exact ⟨l, set_same (by rw [rl.len]; exact lt_set e), c.mv h1 (fun _ _ _ => rfl) rfl, nb, nc⟩
    · have g := rl.slot j s z
      cases s with
      | sh v => obtain ⟨d, e1, q⟩ := g; exact ⟨d, by rw [List.getElem?_set_ne ne]; exact e1, q.mv h1 fun _ _ _ => rfl⟩
      | pk w =>
        obtain ⟨d, e1, q, n⟩ := g
        refine ⟨d, by rw [List.getElem?_set_ne ne]; exact e1, q.mv h1 (fun _ _ _ => rfl) (fun _ _ => rfl), fun l' e => ⟨fun m => m.elim (fun b => (n l' e).1 (.inl b)) fun o => ?_, (n l' e).2⟩⟩
        rcases ho l' o with e2 | o
        · subst e2; subst e; exact np j w z e1
        · exact (n l' e).1 (.inr o)
      | ow v => obtain ⟨d, e1, q, n, n2⟩ := g; exact ⟨d, by rw [List.getElem?_set_ne ne]; exact e1, q.mv h1 (fun _ _ _ => rfl) rfl, n, fun c => n2 (.inl c)⟩
      | mu v => obtain ⟨d, e1, q, n⟩ := g; exact ⟨d, by rw [List.getElem?_set_ne ne]; exact e1, q.mv h1 (fun _ _ _ => rfl) rfl, n⟩
  · have other : ∀ (j : Nat) (s : PSl), i ≠ j → π[j]? = some (some s) → isM s = true → ρ[j]? ≠ some (some (D.loc l)) := fun j s _ z m e => by
      have g := rl.slot j s z
      cases s with
      | sh _ => cases m
      | pk _ => cases m
      | ow v => obtain ⟨d, e1, q, n, n2⟩ := g; rw [e] at e1; cases e1; exact n2 (.inr rfl)
      | mu v => obtain ⟨d, e1, q, n⟩ := g; rw [e] at e1; cases e1; exact nb n
    rcases set_at z1 with ⟨w0, w1⟩ | ⟨ne1, w1⟩
    · subst w0
      rcases set_at z2 with ⟨w3, w2⟩ | ⟨ne2, w2⟩
      · exact absurd w3 hne
      · intro e
        rcases set_at e with ⟨_, e3⟩ | ⟨n3, _⟩
        · cases e3; rw [List.getElem?_set_ne ne2]; exact other _ _ ne2 w2 m2
        · exact absurd rfl n3
    · rcases set_at z2 with ⟨w3, w2⟩ | ⟨ne2, w2⟩
      · subst w3
        intro e e2
        rcases set_at e2 with ⟨_, e3⟩ | ⟨n3, _⟩
        · cases e3; rw [List.getElem?_set_ne ne1] at e; exact other _ _ ne1 w1 m1 e
        · exact absurd rfl n3
      · rw [List.getElem?_set_ne ne1, List.getElem?_set_ne ne2]
        exact rl.sep j1 j2 s t l' hne w1 m1 w2 m2
/-- from the state ahead of the expression to the one behind the store -/
theorem Nxt.setOw {i l : Nat} {v : PV} (nx : Nxt B ρ' S π ρ S1 π1) (hl : S.length ≤ l) (hm : noMu π1 i = true) : Nxt B ρ' S π (ρ.set i (some (.loc l))) S1 (π1.set i (some (.ow v))) where
  un := nx.un
  ow := fun k lt ⟨j, w, e1, e2⟩ => by
    rcases set_at e1 with ⟨z0, z⟩ | ⟨ne, z⟩
    · subst z0
      rcases set_at e2 with ⟨_, z3⟩ | ⟨ne, _⟩
      · cases z3; exact absurd lt (by omega)
      · exact absurd rfl ne
    · rw [List.getElem?_set_ne ne] at e2; exact nx.ow k lt ⟨j, w, z, e2⟩
  mu := fun j w e => by
    obtain ⟨e1, v1, g1⟩ := nx.mu j w e
    by_cases hj : i = j
    · subst hj; exact absurd g1 (noMu_ne hm v1)
    · exact ⟨(List.getElem?_set_ne hj).trans e1, v1, by rw [List.getElem?_set_ne hj]; exact g1⟩
  len := by simp [nx.len]
  pk := fun j w e => by
    rcases set_at e with ⟨_, z⟩ | ⟨ne, z⟩
    · cases z
    · obtain ⟨e1, w1, g⟩ := nx.pk j w z
      exact ⟨(List.getElem?_set_ne ne).trans e1, w1, g⟩
def stv (s : PSl) (v : PV) : Option PSl := match s with
  | .ow _ => some (.ow v)
  | .mu _ => some (.mu v)
  | _ => none
/-- the slot's own list changes -/
def setM (i : Nat) (v : PV) (π : PEnv) : Option PEnv := match π[i]? with
  | some (some s) => (stv s v).map fun s' => π.set i (some s')
  | _ => none
theorem Rel.upd {i : Nat} {v' : PV} (rl : Rel B C ρ S π) (hs : setM i v' π = some π') : ∃ l, ρ[i]? = some (some (D.loc l)) ∧ MM B ρ π l ∧ l < S.length ∧
    ∀ c, CellV (OO B C ρ π) (S.set l c) v' l → Rel B C ρ (S.set l c) π' ∧ Nxt B ρ S π ρ (S.set l c) π' := by
  unfold setM at hs
  split at hs
  · rename_i s e
    have key : ∃ l, ρ[i]? = some (some (D.loc l)) ∧ MM B ρ π l ∧ l < S.length ∧ isM s = true := by
      have g := rl.slot i _ e
      cases s with
      | sh _ => cases hs
      | pk _ => cases hs
      | ow v => obtain ⟨l, e1, q, _⟩ := g; exact ⟨l, e1, .inr ⟨i, v, e, e1⟩, q.lt, rfl⟩
      | mu v => obtain ⟨l, e1, q, b⟩ := g; exact ⟨l, e1, .inl b, q.lt, rfl⟩
    obtain ⟨l, e1, ml, ll, im⟩ := key
    obtain ⟨s', es, e2⟩ : ∃ s', stv s v' = some s' ∧ π' = π.set i (some s') := by
      cases s with
      | sh _ => cases hs
      | pk _ => cases hs
      | ow v => exact ⟨_, rfl, by simpa [stv] using hs.symm⟩
      | mu v => exact ⟨_, rfl, by simpa [stv] using hs.symm⟩
    subst e2
    have il : i < π.length := lt_of e
    have sv : s'.val = v' ∧ ((∃ v v', s = .ow v ∧ s' = .ow v') ∨ ∃ v v', s = .mu v ∧ s' = .mu v') := by
      cases s with
      | sh _ => cases im
      | pk _ => cases im
      | ow v => cases es; exact ⟨rfl, .inl ⟨_, _, rfl, rfl⟩⟩
      | mu v => cases es; exact ⟨rfl, .inr ⟨_, _, rfl, rfl⟩⟩
    have fw : ∀ k, Own ρ (π.set i (some s')) k → Own ρ π k := fun k ⟨j, w, g1, g2⟩ => by
      rcases set_at g1 with ⟨z0, z⟩ | ⟨ne, z⟩
      · subst z0
        rcases sv.2 with ⟨a, b, rfl, rfl⟩ | ⟨a, b, rfl, rfl⟩
        · exact ⟨i, a, e, g2⟩
        · cases z
      · exact ⟨j, w, z, g2⟩
    have bw : ∀ k, Own ρ π k → Own ρ (π.set i (some s')) k := fun k ⟨j, w, g1, g2⟩ => by
      by_cases hj : i = j
      · subst hj
        rw [e] at g1
        rcases sv.2 with ⟨a, b, rfl, rfl⟩ | ⟨a, b, rfl, rfl⟩
        · exact ⟨i, b, set_same il, g2⟩
        · cases g1
      · exact ⟨j, w, by rw [List.getElem?_set_ne hj]; exact g1, g2⟩
    refine ⟨l, e1, ml, ll, fun c hc => ?_⟩
    have un : Unch (MM B ρ π) S (S.set l c) := ⟨by simp, fun k lt n => List.getElem?_set_ne fun z => n (by subst z; exact ml)⟩
    refine ⟨rl.chg (fun k c => by simpa using rl.bc k (.inr c)) (fun _ _ c => c) un (by simp) fw bw fun j s2 g => ?_, ⟨un, fun k _ => fw k, fun j w g => ⟨rfl, ?_⟩, rfl, fun j w g => ⟨rfl, ?_⟩⟩⟩
    · rcases set_at g with ⟨z0, z⟩ | ⟨ne, z⟩
      · subst z0; cases z
        exact .inr ⟨s, e, im, ⟨l, e1, by rw [sv.1]; exact hc⟩, sv.2⟩
      · by_cases m2 : isM s2 = true
        · refine .inr ⟨s2, z, m2, ?_, ?_⟩
          · have g := rl.slot j _ z
            have key : ∀ l2, ρ[j]? = some (some (D.loc l2)) → CellV (OO B C ρ π) S s2.val l2 → CellV (OO B C ρ π) (S.set l c) s2.val l2 := fun l2 e2 q => by
              have ne2 : l ≠ l2 := fun q => by subst q; exact rl.sep i j s s2 l ne e im z m2 e1 e2
              exact q.mv (fun _ _ z => z) un.h2 (List.getElem?_set_ne ne2)
            cases s2 with
            | sh _ => cases m2
            | pk _ => cases m2
            | ow v => obtain ⟨l2, e2, q, _⟩ := g; exact ⟨l2, e2, key l2 e2 q⟩
            | mu v => obtain ⟨l2, e2, q, _⟩ := g; exact ⟨l2, e2, key l2 e2 q⟩
          · cases s2 with
            | sh _ => cases m2
            | pk _ => cases m2
            | ow v => exact .inl ⟨_, _, rfl, rfl⟩
            | mu v => exact .inr ⟨_, _, rfl, rfl⟩
        · exact .inl ⟨by simpa using m2, z⟩
    · by_cases hj : i = j
      · subst hj
        rw [e] at g
        rcases sv.2 with ⟨a, b, rfl, rfl⟩ | ⟨a, b, rfl, rfl⟩
        · cases g
        · exact ⟨b, set_same il⟩
      · exact ⟨w, by rw [List.getElem?_set_ne hj]; exact g⟩
    · rcases set_at g with ⟨_, z⟩ | ⟨ne, z⟩
      · rcases sv.2 with ⟨a, b, rfl, rfl⟩ | ⟨a, b, rfl, rfl⟩ <;> cases z
      · exact ⟨w, z⟩
  · cases hs
end
end P

set_option maxRecDepth 100000
set_option maxHeartbeats 1000000
namespace P
open G
/-! # plain statements and their rules -/
def tNil : PS := fun π => .nx π
def tSeq (p q : PS) : PS := fun π => (p π).seq q
def tRet (p : PX PV) : PS := fun π => (p π).toFl fun v π1 => .ret v π1
def tRetO (i : Nat) : PS := fun π => match π[i]? with
  | some (some (.ow v)) => .ret v π
  | _ => .bad
def tRetN : PS := fun π => .ret .non π
def tDrop (p : PX PV) : PS := fun π => (p π).toFl fun _ π1 => .nx π1
def tIf (t : PX Bool) (p q : PS) : PS := fun π => (t π).toFl fun b π1 => if b = true then p π1 else q π1
def tBk : PS := fun π => .bk π
def tCt : PS := fun π => .ct π
def tAsg (p : PX PV) (i : Nat) : PS := fun π => (p π).toFl fun v π1 => if noMu π1 i = true then .nx (π1.set i (some (.sh v))) else .bad
def tAsgF (p : PX PV) (i : Nat) : PS := fun π => (p π).toFl fun v π1 => if noMu π1 i = true then .nx (π1.set i (some (.ow v))) else .bad
mutual
def tgP : Tgt → PV → PEnv → Option PEnv
  | .nm i, v, π => if noMu π i = true then some (π.set i (some (.sh v))) else none
  | .tp ts, .tup vs, π => if vs.length = ts.length then tgPs ts vs π else none
  | .tp _, _, _ => none
def tgPs : List Tgt → List PV → PEnv → Option PEnv
  | [], [], π => some π
  | t :: ts, v :: vs, π => match tgP t v π with
    | some π' => tgPs ts vs π'
    | none => none
  | _, _, _ => none
end
def tAsgT (p : PX PV) (t : Tgt) : PS := fun π => (p π).toFl fun v π1 => match tgP t v π1 with
  | some π2 => .nx π2
  | none => .bad
def tSt (i : Nat) (gst : PV → PV → PV → Option PV) (pi pv : PX PV) : PS := fun π => (pv π).toFl fun v π1 => (ofP (slv i π1) π1).toFl fun _ π1 => (pi π1).toFl fun k π2 =>
  match (slv i π2).bind fun cur => (gst cur k v).bind fun c' => setM i c' π2 with
  | some π3 => .nx π3
  | none => .bad
def tyP (T : String) : PV → Bool
  | .lst _ => T == "list"
  | .dK _ _ => T == "dict"
  | .dT _ _ => T == "dict"
  | _ => false
def qMut (i : Nat) (T : String) (gm : PV → PV → Option (PV × PV)) (pa : PX PV) : PX PV := fun π => (ofP ((slv i π).bind fun c => if tyP T c = true then some () else none) π).bind fun _ π => (pa π).bind fun a π1 =>
  match (slv i π1).bind fun cur => (gm cur a).bind fun rc => (setM i rc.2 π1).map fun π2 => (rc.1, π2) with
  | some (r, π2) => .ok r π2
  | none => .bad
def qMut0 (i : Nat) (T : String) (gm : PV → Option (PV × PV)) : PX PV := fun π =>
  match (slv i π).bind fun cur => if tyP T cur = true then (gm cur).bind fun rc => (setM i rc.2 π).map fun π2 => (rc.1, π2) else none with
  | some (r, π2) => .ok r π2
  | none => .bad
def StOk (gst : PV → PV → PV → Option PV) : Prop := ∀ (O : Nat → Prop) S cur l k dk v dv cur', O l → CellV O S cur l → Den O S k dk → Den O S v dv → gst cur k v = some cur' → ∃ c, dSet (.loc l) dk dv S = some (S.set l c) ∧ CellV O (S.set l c) cur' l
def RM (md : Md) (O : Nat → Prop) (S : Store) (v : PV) (d : D) : Prop := match md with
  | .v => Den O S v d
  | .k => Top O S v d
  | .f => False
def MtOk (md : Md) (g : D → List D → Store → Option (D × Store)) (gm : PV → PV → Option (PV × PV)) : Prop := ∀ (O : Nat → Prop) S cur l a x rc, O l → CellV O S cur l → RM md O S a x → gm cur a = some rc →
  ∃ d c, g (.loc l) [x] S = some (d, S.set l c) ∧ CellV O (S.set l c) rc.2 l ∧ Den O (S.set l c) rc.1 d
def Mt0Ok (g : D → List D → Store → Option (D × Store)) (gm : PV → Option (PV × PV)) : Prop := ∀ (O : Nat → Prop) S cur l rc, O l → CellV O S cur l → gm cur = some rc →
  ∃ d c, g (.loc l) [] S = some (d, S.set l c) ∧ CellV O (S.set l c) rc.2 l ∧ Den O (S.set l c) rc.1 d
section
variable {fm : Bool} {f g : FS} {p q : PS} {fa fb : F} {pa pb : PX PV} {ft : FB} {pt : PX Bool}
theorem s_nil : SS fm sNil tNil := fun B C ρ S π rl => RF.here rl
theorem s_seq (h1 : SS fm f p) (h2 : SS fm g q) : SS fm (sSeq f g) (tSeq p q) := fun B C ρ S π rl => (h1 B C ρ S π rl).seq fun ρ1 S1 π1 nx rl1 => h2 B C ρ1 S1 π1 rl1
theorem bc_oo {B C : Nat → Prop} {ρ : Env} {π : PEnv} {n : Nat} : ∀ k, k < n → BC B C k → OO B C ρ π k := fun k _ z => z.elim (fun b => .inl (.inl b)) .inr
theorem bc_oo' {B C : Nat → Prop} {ρ : Env} {π : PEnv} {n l : Nat} : ∀ k, k < n → more (BC B C) l k → OO B (more C l) ρ π k := fun k _ z => z.elim (fun z => z.elim (fun b => .inl (.inl b)) fun c => .inr (.inl c)) fun e => .inr (.inr e)
theorem muOut_of {B C : Nat → Prop} {ρ : Env} {S : Store} {π π1 : PEnv} {S1 : Store} {X : Nat → Prop} (nx : Nxt B ρ S π ρ S1 π1) (rl : Rel B C ρ S1 π1) (h : ∀ k, k < S1.length → X k → OO B C ρ π1 k) : MuOut ρ π π1 S1 X := fun i v e => by
  obtain ⟨e1, v', g⟩ := nx.mu i v e
  obtain ⟨l, e2, c, _⟩ := rl.slot i _ g
  exact ⟨l, v', e2, g, c.mv h (fun _ _ _ => rfl) rfl⟩
theorem s_ret (h : E .v fa pa) : SS false (sRet fa) (tRet pa) := fun B C ρ S π rl => by
  have z := h B C ρ S π rl
  unfold sRet tRet
  cases e : pa π with
  | bad => trivial
  | exc c w π1 => rw [e] at z; obtain ⟨d, S', e1, q⟩ := z; rw [e1]; exact ⟨d, ρ, S', rfl, q⟩
  | ok v π1 =>
    rw [e] at z
    obtain ⟨d, S', e1, nx, rl1, q⟩ := z
    rw [e1]
    exact ⟨d, S', rfl, nx.un, Den.mv bc_oo (fun _ _ _ => rfl) q, muOut_of nx rl1 bc_oo⟩
theorem s_retF (h : E .f fa pa) : SS true (sRet fa) (tRet pa) := fun B C ρ S π rl => by
  have z := h B C ρ S π rl
  unfold sRet tRet
  cases e : pa π with
  | bad => trivial
  | exc c w π1 => rw [e] at z; obtain ⟨d, S', e1, q⟩ := z; rw [e1]; exact ⟨d, ρ, S', rfl, q⟩
  | ok v π1 =>
    rw [e] at z
    obtain ⟨d, S', e1, nx, rl1, l, rfl, hl, rl2, c, _⟩ := z
    rw [e1]
    exact ⟨_, S', rfl, nx.un, l, rfl, fun lt => absurd lt (by omega), fun b => absurd (rl.bc l (.inl b)) (by omega), fun b => absurd (rl.bc l (.inr b)) (by omega), c.mv bc_oo' (fun _ _ _ => rfl) rfl, muOut_of nx rl2 bc_oo'⟩
theorem s_retO (i : Nat) : SS true (sRet (fVar i)) (tRetO i) := fun B C ρ S π rl => by
  unfold tRetO
  split
  · rename_i v e
    obtain ⟨l, e1, c, nb, nc⟩ := rl.slot i _ e
    have e2 : sRet (fVar i) ρ S = .ret (.loc l) S := by unfold sRet fVar; rw [e1]; rfl
    rw [e2]
    have ho : Own ρ π l := ⟨i, v, e, e1⟩
    have h1 : ∀ k, k < S.length → more (BC B C) l k → OO B C ρ π k := fun k lt z => z.elim (bc_oo k lt) fun e => by subst e; exact .inl (.inr ho)
    exact ⟨_, S, rfl, Unch.refl, l, rfl, fun _ => ho, nb, nc, c.mv h1 (fun _ _ _ => rfl) rfl, muOut_of Nxt.refl rl h1⟩
  · trivial
theorem s_retN : SS false sRetN tRetN := fun B C ρ S π rl => ⟨_, S, rfl, Unch.refl, Den.non, muOut_of Nxt.refl rl bc_oo⟩
theorem s_drop (h : E .k fa pa) : SS fm (sDrop fa) (tDrop pa) := fun B C ρ S π rl => RF.ofR (h B C ρ S π rl) fun a S1 b π1 nx rl1 _ => RF.here rl1
theorem s_if (ht : ET ft pt) (h1 : SS fm f p) (h2 : SS fm g q) : SS fm (sIf ft f g) (tIf pt p q) := fun B C ρ S π rl => RF.ofR (ht B C ρ S π rl) fun a S1 b π1 nx rl1 e => by
  subst e
  split
  · exact h1 B C ρ S1 π1 rl1
  · exact h2 B C ρ S1 π1 rl1
theorem s_bk : SS fm sBk tBk := fun B C ρ S π rl => ⟨ρ, S, rfl, Nxt.refl, rl⟩
theorem s_ct : SS fm sCt tCt := fun B C ρ S π rl => ⟨ρ, S, rfl, Nxt.refl, rl⟩
theorem s_asg (i : Nat) (h : E .v fa pa) : SS fm (sAsg fa (gNm i)) (tAsg pa i) := fun B C ρ S π rl => RF.ofR (h B C ρ S π rl) fun a S1 b π1 nx rl1 q => by
  split
  · obtain ⟨r, n⟩ := rl1.setSh q ‹_›
    exact ⟨_, S1, rfl, n, r⟩
  · trivial
theorem s_asgF (i : Nat) (h : E .f fa pa) : SS fm (sAsg fa (gNm i)) (tAsgF pa i) := fun B C ρ S π rl => by
  have z := h B C ρ S π rl
  unfold sAsg tAsgF
  cases e : pa π with
  | bad => trivial
  | exc c w π1 => rw [e] at z; obtain ⟨d, S', e1, q⟩ := z; rw [e1]; exact ⟨d, ρ, S', rfl, q⟩
  | ok v π1 =>
    rw [e] at z
    obtain ⟨d, S', e1, nx, rl1, l, rfl, hl, rl2, c, np⟩ := z
    rw [e1]
    show RF fm B C ρ S π _ (if noMu π1 i = true then .nx (π1.set i (some (.ow v))) else .bad)
    split
    · rename_i hm
      exact ⟨_, S', rfl, nx.setOw hl hm, rl2.setOw c (fun b => absurd (rl.bc l (.inl b)) (by omega)) (fun b => absurd (rl.bc l (.inr b)) (by omega)) np hm⟩
    · trivial
mutual
theorem tg_ok {B C : Nat → Prop} : ∀ (t : Tgt) {v : PV} {d : D} {ρ : Env} {S : Store} {π π' : PEnv}, Rel B C ρ S π → Den (OO B C ρ π) S v d → tgP t v π = some π' → ∃ ρ', tgE t d ρ = some ρ' ∧ Rel B C ρ' S π' ∧ Nxt B ρ S π ρ' S π'
  | .nm i, v, d, ρ, S, π, π', rl, q, e => by
    unfold tgP at e
    split at e
    · cases e
      obtain ⟨r, n⟩ := rl.setSh q ‹_›
      exact ⟨_, rfl, r, n⟩
    · cases e
  | .tp ts, v, d, ρ, S, π, π', rl, q, e => by
    cases v <;> first | (unfold tgP at e; cases e; done) | skip
    rename_i vs
    unfold tgP at e
    obtain ⟨ds, rfl, r⟩ := q.tup_inv
    split at e
    · obtain ⟨ρ', e1, x⟩ := tgs_ok ts rl r e
      exact ⟨ρ', by unfold tgE; rw [r.len, if_pos ‹_›]; exact e1, x⟩
    · cases e
theorem tgs_ok {B C : Nat → Prop} : ∀ (ts : List Tgt) {vs : List PV} {ds : List D} {ρ : Env} {S : Store} {π π' : PEnv}, Rel B C ρ S π → DenL (OO B C ρ π) S vs ds → tgPs ts vs π = some π' → ∃ ρ', tgEs ts ds ρ = some ρ' ∧ Rel B C ρ' S π' ∧ Nxt B ρ S π ρ' S π'
  | [], vs, ds, ρ, S, π, π', rl, q, e => by
    cases vs with
    | nil =>
      rw [q.nil_inv]
      simp only [tgPs] at e
      cases e
      exact ⟨ρ, by simp only [tgEs], rl, Nxt.refl⟩
    | cons v vs => simp [tgPs] at e
  | t :: ts, vs, ds, ρ, S, π, π', rl, q, e => by
    cases vs with
    | nil => simp [tgPs] at e
    | cons v vs =>
      obtain ⟨d, ds', rfl, q1, r⟩ := q.cons_inv
      unfold tgPs at e
      cases e1 : tgP t v π with
      | none => rw [e1] at e; cases e
      | some π1 =>
        rw [e1] at e
        obtain ⟨ρ1, g1, rl1, n1⟩ := tg_ok t rl q1 e1
        obtain ⟨ρ2, g2, rl2, n2⟩ := tgs_ok ts rl1 (n1.denL r) e
        exact ⟨ρ2, by unfold tgEs; rw [g1]; exact g2, rl2, n1.trans n2⟩
end
theorem s_asgT (t : Tgt) (h : E .v fa pa) : SS fm (sAsg fa (gT t)) (tAsgT pa t) := fun B C ρ S π rl => RF.ofR (h B C ρ S π rl) fun a S1 b π1 nx rl1 q => by
  cases e : tgP t b π1 with
  | none => trivial
  | some π2 =>
    obtain ⟨ρ', e1, r, n⟩ := tg_ok t rl1 q e
    exact ⟨ρ', S1, by unfold gT; rw [e1]; rfl, n, r⟩
theorem slv_cell {B C : Nat → Prop} {ρ : Env} {S : Store} {π π' : PEnv} (rl : Rel B C ρ S π) {i : Nat} {v v' : PV} (h : slv i π = some v) (hs : setM i v' π = some π') : ∃ l, ρ[i]? = some (some (D.loc l)) ∧ CellV (OO B C ρ π) S v l := by
  unfold slv at h
  unfold setM at hs
  split at h
  · rename_i s e
    cases h
    rw [e] at hs
    have g := rl.slot i _ e
    cases s with
    | sh v => cases hs
    | pk v => cases hs
    | ow v => obtain ⟨d, e1, q, _⟩ := g; exact ⟨_, e1, q⟩
    | mu v => obtain ⟨d, e1, q, _⟩ := g; exact ⟨_, e1, q⟩
  · cases h
theorem s_st {fi fv : F} {pi pv : PX PV} {gst : PV → PV → PV → Option PV} (i : Nat) (hg : StOk gst) (hi : E .v fi pi) (hv : E .v fv pv) : SS fm (sAsg fv (gSb (fVar i) fi)) (tSt i gst pi pv) := fun B C ρ S π rl => RF.ofR (hv B C ρ S π rl) fun a S1 b π1 nx rl1 q => by
  cases e0 : slv i π1 with
  | none => trivial
  | some c0 =>
    obtain ⟨d0, g0, _⟩ := slv_top rl1 e0
    have ef : gSb (fVar i) fi a ρ S1 = (fi ρ S1).bind fun k S2 => match dSet d0 k a S2 with
      | some S3 => .ok ρ S3
      | none => .bad := by unfold gSb fVar; rw [g0]; rfl
    rw [ef]
    have z := hi B C ρ S1 π1 rl1
    show RF fm B C ρ S1 π1 _ ((pi π1).toFl _)
    cases e : pi π1 with
    | bad => trivial
    | exc c w π2 => rw [e] at z; obtain ⟨d, S', e1, q⟩ := z; rw [e1]; exact ⟨d, ρ, S', rfl, q⟩
    | ok v π2 =>
      rw [e] at z
      obtain ⟨dk, S2, e1, nx2, rl2, qk⟩ := z
      rw [e1]
      refine RF.shift nx2 ?_
      show RF fm B C ρ S2 π2 _ (match (slv i π2).bind fun cur => (gst cur v b).bind fun c' => setM i c' π2 with | some π3 => PFl.nx π3 | none => PFl.bad)
      cases e2 : slv i π2 with
      | none => trivial
      | some cur =>
        show RF fm B C ρ S2 π2 _ (match (gst cur v b).bind fun c' => setM i c' π2 with | some π3 => PFl.nx π3 | none => PFl.bad)
        cases e3 : gst cur v b with
        | none => trivial
        | some cur' =>
          show RF fm B C ρ S2 π2 _ (match setM i cur' π2 with | some π3 => PFl.nx π3 | none => PFl.bad)
          cases e4 : setM i cur' π2 with
          | none => trivial
          | some π3 =>
            obtain ⟨l, g1, ml, ll, up⟩ := rl2.upd e4
            obtain ⟨l2, g2, cv⟩ := slv_cell rl2 e2 e4
            rw [g1] at g2; cases g2
            rw [g0] at g1; cases g1
            obtain ⟨c, h1, h2⟩ := hg _ S2 cur l v dk b a cur' (.inl ml) cv qk (nx2.den q) e3
            obtain ⟨r, n⟩ := up c h2
            exact ⟨ρ, S2.set l c, by simp only [R.bind_ok]; rw [h1]; rfl, n, r⟩
theorem tyP_ok {O : Nat → Prop} {S : Store} {v : PV} {l : Nat} {T : String} (h : CellV O S v l) (e : tyP T v = true) : tyD T (.loc l) S = true := by
  cases v <;> first | exact h.elim | skip
  · obtain ⟨ds, g, _⟩ := h; simp only [tyD, g]; exact e
  · obtain ⟨ds, g, _⟩ := h; simp only [tyD, g]; exact e
  · obtain ⟨ds, g, _⟩ := h; simp only [tyD, g]; exact e
theorem tyP_top {O : Nat → Prop} {S : Store} {v : PV} {d : D} {T : String} (h : Top O S v d) (e : tyP T v = true) : tyD T d S = true := by
  unfold Top at h
  split at h
  · obtain ⟨l, rfl, c⟩ := h; exact tyP_ok c e
  · cases v <;> first | (cases e; done) | (exfalso; rename_i hh; exact hh rfl)
theorem fmt_one {T : String} {g : D → List D → Store → Option (D × Store)} {ρ : Env} {S : Store} {i : Nat} {d : D} (h : ρ[i]? = some (some d)) (ht : tyD T d S = true) : fMt T g (fVar i) (fCons fa fNil) ρ S = (fa ρ S).bind fun x S1 => ofO (g d [x] S1) := by
  unfold fMt fCons fNil fVar
  rw [h]
  simp only [R.bind_ok, ht, if_true]
  cases fa ρ S <;> rfl
theorem fmt_no {T : String} {g : D → List D → Store → Option (D × Store)} {ρ : Env} {S : Store} {i : Nat} {d : D} (h : ρ[i]? = some (some d)) (ht : tyD T d S = true) : fMt T g (fVar i) fNil ρ S = ofO (g d [] S) := by
  unfold fMt fNil fVar
  rw [h]
  simp only [R.bind_ok, ht, if_true]
theorem e_mut {T : String} {md : Md} (hmd : md ≠ .f) {g : D → List D → Store → Option (D × Store)} {gm : PV → PV → Option (PV × PV)} (i : Nat) (hg : MtOk md g gm) (ha : E md fa pa) : E .v (fMt T g (fVar i) (fCons fa fNil)) (qMut i T gm pa) := fun B C ρ S π rl => by
  unfold qMut
  cases e0 : slv i π with
  | none => trivial
  | some c0 =>
    obtain ⟨d0, g0, t0⟩ := slv_top rl e0
    show RR B C ρ S π _ ((ofP (if tyP T c0 = true then some () else none) π).bind _) _
    by_cases ht : tyP T c0 = true
    · rw [if_pos ht, fmt_one g0 (tyP_top t0 ht)]
      refine (ha B C ρ S π rl).bind fun x S1 a π1 nx rl1 qa => ?_
      cases e2 : slv i π1 with
      | none => trivial
      | some cur =>
        show RR B C ρ S1 π1 _ (match (gm cur a).bind fun rc => (setM i rc.2 π1).map fun π2 => (rc.1, π2) with | some (r, π2) => PR.ok r π2 | none => .bad) _
        cases e3 : gm cur a with
        | none => trivial
        | some rc =>
          show RR B C ρ S1 π1 _ (match (setM i rc.2 π1).map fun π2 => (rc.1, π2) with | some (r, π2) => PR.ok r π2 | none => .bad) _
          cases e4 : setM i rc.2 π1 with
          | none => trivial
          | some π3 =>
            obtain ⟨l, g1, ml, ll, up⟩ := rl1.upd e4
            obtain ⟨l2, g2, cv⟩ := slv_cell rl1 e2 e4
            rw [g1] at g2; cases g2
            rw [g0] at g1; cases g1
            have qa' : RM md (OO B C ρ π1) S1 a x := by
              cases md with
              | v => exact qa
              | k => exact qa
              | f => exact absurd rfl hmd
            obtain ⟨d, c, h1, h2, h3⟩ := hg _ S1 cur l a x rc (.inl ml) cv qa' e3
            obtain ⟨r, n⟩ := up c h2
            refine ⟨d, S1.set l c, by rw [h1]; rfl, n, r, ?_⟩
            exact Den.mv (fun k lt => n.h1 k (by simpa using lt)) (fun _ _ _ => rfl) h3
    · rw [if_neg ht]; trivial
theorem e_mut0 {T : String} {g : D → List D → Store → Option (D × Store)} {gm : PV → Option (PV × PV)} (i : Nat) (hg : Mt0Ok g gm) : E .v (fMt T g (fVar i) fNil) (qMut0 i T gm) := fun B C ρ S π rl => by
  unfold qMut0
  cases e0 : slv i π with
  | none => trivial
  | some c0 =>
    obtain ⟨d0, g0, t0⟩ := slv_top rl e0
    show RR B C ρ S π _ (match if tyP T c0 = true then (gm c0).bind fun rc => (setM i rc.2 π).map fun π2 => (rc.1, π2) else none with | some (r, π2) => PR.ok r π2 | none => .bad) _
    by_cases ht : tyP T c0 = true
    · rw [if_pos ht, fmt_no g0 (tyP_top t0 ht)]
      cases e3 : gm c0 with
      | none => trivial
      | some rc =>
        show RR B C ρ S π _ (match (setM i rc.2 π).map fun π2 => (rc.1, π2) with | some (r, π2) => PR.ok r π2 | none => .bad) _
        cases e4 : setM i rc.2 π with
        | none => trivial
        | some π3 =>
          obtain ⟨l, g1, ml, ll, up⟩ := rl.upd e4
          obtain ⟨l2, g2, cv⟩ := slv_cell rl e0 e4
          rw [g1] at g2; cases g2
          rw [g0] at g1; cases g1
          obtain ⟨d, c, h1, h2, h3⟩ := hg _ S c0 l rc (.inl ml) cv e3
          obtain ⟨r, n⟩ := up c h2
          refine ⟨d, S.set l c, by rw [h1]; rfl, n, r, ?_⟩
          exact Den.mv (fun k lt => n.h1 k (by simpa using lt)) (fun _ _ _ => rfl) h3
    · rw [if_neg ht]; trivial
end
end P

set_option maxRecDepth 100000
set_option maxHeartbeats 1000000
namespace P
open G
/-! # walks and loops -/
def WkR (B C : Nat → Prop) (ρ : Env) (S : Store) (π : PEnv) (w : Wk) (vs : List PV) : Prop := w.n = vs.length ∧ ∀ ρ2 S2 π2, Nxt B ρ S π ρ2 S2 π2 → (∀ (i : Nat) (v : PV), vs[i]? = some v → ∃ d, w.get S2 i = some d ∧ Den (OO B C ρ2 π2) S2 v d) ∧ w.fin S2 = true
def EW (w : Env → Store → R Wk) (p : PX (List PV)) : Prop := ∀ B C ρ S π, Rel B C ρ S π → RR B C ρ S π (w ρ S) (p π) fun w S' vs π' => WkR B C ρ S' π' w vs
def pItems : PV → Option (List PV)
  | .tup xs => some xs
  | .lst xs => some xs
  | _ => none
def qSeq (p : PX PV) : PX (List PV) := fun π => (p π).bind fun v π1 => ofP (pItems v) π1
def qEnum (p : PX PV) : PX (List PV) := fun π => (p π).bind fun v π1 => ofP ((pItems v).map fun xs => xs.mapIdx fun i x => .tup [.int (i : Nat), x]) π1
def rng (lo : Int) (n : Nat) : List PV := (List.range n).map fun (i : Nat) => .int (lo + i)
def pR1 : PV → Option (List PV)
  | .int j => if j.natAbs ≤ 4000000000000000000 then some (rng 0 j.toNat) else none
  | _ => none
def pR2 : PV → PV → Option (List PV)
  | .int i, .int j => if i.natAbs ≤ 4000000000000000000 then if j.natAbs ≤ 4000000000000000000 then some (rng i (j - i).toNat) else none else none
  | _, _ => none
def qR1 (p : PX PV) : PX (List PV) := fun π => (p π).bind fun v π1 => ofP (pR1 v) π1
def qR2 (p q : PX PV) : PX (List PV) := fun π => (p π).bind fun v π1 => (q π1).bind fun u π2 => ofP (pR2 v u) π2
section
variable {fm : Bool} {B C : Nat → Prop} {ρ ρ' ρ1 : Env} {S S' S1 : Store} {π π' π1 : PEnv} {fa fb : F} {pa pb : PX PV}
theorem wk_items {v : PV} {vs : List PV} {d : D} (q : Den (OO B C ρ π) S v d) (e : pItems v = some vs) : ∃ w, wkOf d S = some w ∧ WkR B C ρ S π w vs := by
  cases v <;> first | (cases e; done) | skip
  · cases e
    obtain ⟨ds, rfl, r⟩ := q.tup_inv
    refine ⟨_, rfl, r.len, fun ρ2 S2 π2 nx => ⟨fun i v e => ?_, rfl⟩⟩
    exact (nx.denL r).get e
  · cases e
    obtain ⟨l, rfl, no, ds, g, r⟩ := q.lst_inv
    refine ⟨wkL l ds.length, by simp [wkOf, g], r.len, fun ρ2 S2 π2 nx => ?_⟩
    have g2 : S2[l]? = some (Cell.lst ds) := by rw [nx.un.h2 l (lt_of g) no]; exact g
    refine ⟨fun i v e => ?_, by simp [wkL, g2]⟩
    obtain ⟨d, h1, h2⟩ := (nx.denL r).get e
    exact ⟨d, by simp [wkL, g2, h1], h2⟩
theorem w_seq (h : E .v fa pa) : EW (wSeq fa) (qSeq pa) := fun B C ρ S π rl => (h B C ρ S π rl).bind fun a S1 b π1 nx rl1 q => RR.ofP rl1 fun vs e => by
  obtain ⟨w, e1, z⟩ := wk_items q e
  exact ⟨w, S1, by rw [e1]; rfl, Pre.refl, z⟩
theorem one_arg {β : Type} {k : List D → Store → R β} : ((fCons fa fNil) ρ S).bind k = (fa ρ S).bind fun x S1 => k [x] S1 := by
  unfold fCons fNil
  cases fa ρ S <;> rfl
theorem two_arg {β : Type} {k : List D → Store → R β} : ((fCons fa (fCons fb fNil)) ρ S).bind k = (fa ρ S).bind fun x S1 => (fb ρ S1).bind fun y S2 => k [x, y] S2 := by
  unfold fCons fNil
  cases fa ρ S with
  | ok a S1 => dsimp [R.bind]; cases fb ρ S1 <;> rfl
  | exc c w S => rfl
  | bad => rfl
theorem w_enum (h : E .v fa pa) : EW (wEnum (fCons fa fNil)) (qEnum pa) := fun B C ρ S π rl => by
  unfold wEnum
  rw [one_arg]
  exact (h B C ρ S π rl).bind fun a S1 b π1 nx rl1 q => RR.ofP rl1 fun vs e => by
    cases e1 : pItems b with
    | none => rw [e1] at e; cases e
    | some us =>
      rw [e1] at e
      cases e
      obtain ⟨w, e2, z1, z2⟩ := wk_items q e1
      refine ⟨wkE w, S1, by dsimp only; rw [e2]; rfl, Pre.refl, by simpa [wkE] using z1, fun ρ2 S2 π2 nx2 => ?_⟩
      obtain ⟨y1, y2⟩ := z2 ρ2 S2 π2 nx2
      refine ⟨fun i v e => ?_, y2⟩
      rw [List.getElem?_mapIdx] at e
      cases e3 : us[i]? with
      | none => rw [e3] at e; cases e
      | some u =>
        rw [e3] at e
        cases e
        obtain ⟨d, h1, h2⟩ := y1 i u e3
        exact ⟨.tup [.int (i : Nat), d], by simp [wkE, h1], Den.tup (DenL.cons Den.int (DenL.cons h2 DenL.nil))⟩
theorem wk_rng (lo : Int) (n : Nat) : WkR B C ρ S π (wkN lo n) (rng lo n) := ⟨by simp [wkN, rng], fun ρ2 S2 π2 nx => ⟨fun i v e => by
  unfold rng at e
  rw [List.getElem?_map] at e
  cases e3 : (List.range n)[i]? with
  | none => rw [e3] at e; cases e
  | some u =>
    rw [e3] at e
    cases e
    have hi : i < n := by simpa using lt_of e3
    have : u = i := by rw [List.getElem?_range hi] at e3; cases e3; rfl
    subst this
    exact ⟨.int (lo + u), by simp [wkN], Den.int⟩, rfl⟩⟩
theorem w_r1 (h : E .v fa pa) : EW (wR1 (fCons fa fNil)) (qR1 pa) := fun B C ρ S π rl => by
  unfold wR1
  rw [one_arg]
  exact (h B C ρ S π rl).bind fun a S1 b π1 nx rl1 q => RR.ofP rl1 fun vs e => by
    cases b <;> first | (cases e; done) | skip
    have := q.d_.int_inv; subst this
    simp only [pR1] at e
    split at e
    · cases e
      exact ⟨_, S1, by dsimp only; rw [if_pos (by omega)], Pre.refl, wk_rng _ _⟩
    · cases e
theorem w_r2 (h : E .v fa pa) (h2 : E .v fb pb) : EW (wR2 (fCons fa (fCons fb fNil))) (qR2 pa pb) := fun B C ρ S π rl => by
  unfold wR2
  rw [two_arg]
  exact (h B C ρ S π rl).bind fun a S1 b π1 nx rl1 q => (h2 B C ρ S1 π1 rl1).bind fun a2 S2 b2 π2 nx2 rl2 q2 => RR.ofP rl2 fun vs e => by
    cases b <;> first | (cases e; done) | skip
    cases b2 <;> first | (cases e; done) | skip
    have := q.d_.int_inv; subst this
    have := q2.d_.int_inv; subst this
    simp only [pR2] at e
    split at e
    · split at e
      · cases e
        exact ⟨_, S2, by dsimp only; rw [if_pos (by omega)], Pre.refl, wk_rng _ _⟩
      · cases e
    · cases e
def forKP (next : PS) (r : PFl) : PFl := match r with
  | .nx π => next π
  | .ct π => next π
  | .bk π => .nx π
  | r => r
@[simp] theorem forKP_nx (π : PEnv) (k : PS) : forKP k (.nx π) = k π := rfl
@[simp] theorem forKP_ct (π : PEnv) (k : PS) : forKP k (.ct π) = k π := rfl
@[simp] theorem forKP_bk (π : PEnv) (k : PS) : forKP k (.bk π) = .nx π := rfl
@[simp] theorem forKP_ret (v : PV) (π : PEnv) (k : PS) : forKP k (.ret v π) = .ret v π := rfl
@[simp] theorem forKP_exc (c : Nat) (v : PV) (π : PEnv) (k : PS) : forKP k (.exc c v π) = .exc c v π := rfl
@[simp] theorem forKP_bad (k : PS) : forKP k .bad = .bad := rfl
def forP (body : PV → PS) : List PV → PS
  | [], π => .nx π
  | v :: vs, π => forKP (forP body vs) (body v π)
def ptgt (t : Tgt) (p : PS) : PV → PS := fun v π => match tgP t v π with
  | some π' => p π'
  | none => .bad
def tFor (w : PX (List PV)) (t : Tgt) (p : PS) : PS := fun π => (w π).toFl fun vs π1 => forP (ptgt t p) vs π1
theorem RF.forK {r : Fl} {p : PFl} {next : FS} {nextP : PS} (h : RF fm B C ρ S π r p) (k : ∀ ρ1 S1 π1, Nxt B ρ S π ρ1 S1 π1 → Rel B C ρ1 S1 π1 → RF fm B C ρ1 S1 π1 (next ρ1 S1) (nextP π1)) : RF fm B C ρ S π (G.forK next r) (forKP nextP p) := by
  cases p with
  | bad => trivial
  | nx π' => obtain ⟨ρ', S', rfl, nx, rl⟩ := h; exact (k _ _ _ nx rl).shift nx
  | ct π' => obtain ⟨ρ', S', rfl, nx, rl⟩ := h; exact (k _ _ _ nx rl).shift nx
  | bk π' => obtain ⟨ρ', S', rfl, nx, rl⟩ := h; exact ⟨ρ', S', rfl, nx, rl⟩
  | exc c w π' => obtain ⟨d, ρ', S', rfl, q⟩ := h; exact ⟨d, ρ', S', rfl, q⟩
  | ret v π' => obtain ⟨d, S', rfl, q⟩ := h; exact ⟨d, S', rfl, q⟩
theorem WkR.shift {w : Wk} {vs : List PV} (h : WkR B C ρ S π w vs) (nx : Nxt B ρ S π ρ1 S1 π1) : WkR B C ρ1 S1 π1 w vs := ⟨h.1, fun ρ2 S2 π2 n2 => h.2 ρ2 S2 π2 (nx.trans n2)⟩
theorem for_go {f : FS} {p : PS} {t : Tgt} (hb : SS fm f p) {w : Wk} {all : List PV} : ∀ (vs : List PV) (i : Nat) {ρ : Env} {S : Store} {π : PEnv}, Rel B C ρ S π → WkR B C ρ S π w all → all.drop i = vs → RF fm B C ρ S π (forGo w (tgt (gT t) f) vs.length i ρ S) (forP (ptgt t p) vs π)
  | [], i, ρ, S, π, rl, wk, hd => by
    have z := (wk.2 _ _ _ Nxt.refl).2
    show RF fm B C ρ S π (if w.fin S = true then .nx ρ S else .bad) (.nx π)
    rw [if_pos z]
    exact RF.here rl
  | v :: vs, i, ρ, S, π, rl, wk, hd => by
    have e : all[i]? = some v := by
      have := congrArg (fun l => l[0]?) hd
      simpa using this
    obtain ⟨d, g, q⟩ := (wk.2 _ _ _ Nxt.refl).1 i v e
    show RF fm B C ρ S π (match w.get S i with | none => .bad | some d => G.forK (forGo w (tgt (gT t) f) vs.length (i + 1)) (tgt (gT t) f d ρ S)) _
    rw [g]
    refine RF.forK (r := tgt (gT t) f d ρ S) (p := ptgt t p v π) ?_ fun ρ1 S1 π1 nx rl1 => ?_
    · unfold ptgt tgt gT
      cases e2 : tgP t v π with
      | none => trivial
      | some π2 =>
        obtain ⟨ρ', e1, r, n⟩ := tg_ok t rl q e2
        rw [e1]
        exact (hb B C ρ' S π2 r).shift n
    · refine for_go hb vs (i + 1) rl1 (wk.shift nx) ?_
      have : all.drop (i + 1) = (all.drop i).drop 1 := by rw [List.drop_drop]
      rw [this, hd]; rfl
theorem s_for {w : Env → Store → R Wk} {pw : PX (List PV)} {t : Tgt} {f : FS} {p : PS} (hw : EW w pw) (hb : SS fm f p) : SS fm (sFor w (gT t) f) (tFor pw t p) := fun B C ρ S π rl => RF.ofR (hw B C ρ S π rl) fun wk S1 vs π1 nx rl1 q => by
  have := for_go (t := t) hb vs 0 rl1 q rfl
  rw [← q.1] at this
  exact this
def whileP (t : PX Bool) (p : PS) : Nat → PS
  | 0, _ => .bad
  | k + 1, π => (t π).toFl fun b π1 => if b = true then forKP (whileP t p k) (p π1) else .nx π1
def tWhile (n : Nat) (t : PX Bool) (p : PS) : PS := fun π => whileP t p n π
theorem while_go {ft : FB} {pt : PX Bool} {f : FS} {p : PS} (ht : ET ft pt) (hb : SS fm f p) : ∀ (n : Nat) {ρ : Env} {S : Store} {π : PEnv}, Rel B C ρ S π → RF fm B C ρ S π (whileGo ft f n ρ S) (whileP pt p n π)
  | 0, _, _, _, _ => trivial
  | n + 1, ρ, S, π, rl => RF.ofR (ht B C ρ S π rl) fun a S1 b π1 nx rl1 e => by
    subst e
    split
    · exact RF.forK (hb B C ρ S1 π1 rl1) fun ρ2 S2 π2 nx2 rl2 => while_go ht hb n rl2
    · exact RF.here rl1
theorem s_while {ft : FB} {pt : PX Bool} {f : FS} {p : PS} (n : Nat) (ht : ET ft pt) (hb : SS fm f p) : SS fm (sWhile n ft f) (tWhile n pt p) := fun B C ρ S π rl => while_go ht hb n rl
/-! # comprehensions -/
def wipeP (π : PEnv) (own : List Nat) : PEnv := π.mapIdx fun i s => if i ∈ own then none else s
/-- the slots of a comprehension's own names back as they were -/
def backP (π0 π : PEnv) (own : List Nat) : PEnv := π.mapIdx fun i s => if i ∈ own then (π0[i]?).getD none else s
def okS : Option PSl → Bool
  | some (.sh _) => true
  | none => true
  | _ => false
theorem nm_of_ok {s : Option PSl} (h : okS s = true) : nmS s = true := by
  cases s with
  | none => rfl
  | some x => cases x <;> first | rfl | cases h
def okOwn (π : PEnv) (own : List Nat) : Bool := own.all fun i => match π[i]? with
  | some s => okS s
  | none => false
def PR.ne {α : Type} (r : PR α) : PR α := match r with
  | .exc _ _ _ => .bad
  | r => r
@[simp] theorem PR.ne_ok {α : Type} (a : α) (π : PEnv) : (PR.ok a π).ne = .ok a π := rfl
@[simp] theorem PR.ne_bad {α : Type} : (PR.bad : PR α).ne = .bad := rfl
@[simp] theorem PR.ne_exc {α : Type} (c : Nat) (w : PV) (π : PEnv) : (PR.exc c w π : PR α).ne = .bad := rfl
def lcP (t : Tgt) (tt : PX Bool) (te : PX PV) (own : List Nat) : List PV → PX (List PV)
  | [], π => .ok [] π
  | v :: vs, π => match tgP t v π with
    | none => .bad
    | some π1 => (tt π1).ne.bind fun b π2 => if b = true then (te π2).ne.bind fun y π3 => (lcP t tt te own vs (wipeP π3 own)).bind fun ys π4 => .ok (y :: ys) π4 else lcP t tt te own vs (wipeP π2 own)
def qLc (w : PX (List PV)) (t : Tgt) (tt : PX Bool) (te : PX PV) (own : List Nat) : PX PV := fun π => (w π).bind fun vs π1 => if okOwn π1 own = true then (lcP t tt te own vs (wipeP π1 own)).bind fun ys π2 => if ys.length ≤ PySem.sizeLine then .ok (.lst ys) (backP π1 π2 own) else .bad else .bad
def qYes : PX Bool := fun π => .ok true π
theorem t_yes : ET fYes qYes := fun B C ρ S π rl => RR.here rl rfl
theorem wipeP_get {π : PEnv} {own : List Nat} {j : Nat} {s : PSl} : (wipeP π own)[j]? = some (some s) ↔ j ∉ own ∧ π[j]? = some (some s) := by
  unfold wipeP
  rw [List.getElem?_mapIdx]
  cases e : π[j]? with
  | none => simp
  | some o =>
    by_cases h : j ∈ own
    · simp [h]
    · simp [h]
theorem wipeE_len {ρ : Env} : ∀ {own : List Nat}, (wipeE ρ own).length = ρ.length
  | [] => rfl
  | v :: vs => by simp [wipeE, wipeE_len]
theorem wipeE_get {ρ : Env} {j : Nat} : ∀ {own : List Nat}, j ∉ own → (wipeE ρ own)[j]? = ρ[j]?
  | [], _ => rfl
  | v :: vs, h => by
    simp at h
    rw [wipeE, List.getElem?_set_ne (fun e => h.1 e.symm), wipeE_get h.2]
/-- a state of fewer slots -/
theorem Rel.wipe {own : List Nat} (rl : Rel B C ρ S π) (hl : ρ'.length = ρ.length) (hs : ∀ j, j ∉ own → ρ'[j]? = ρ[j]?) : Rel B C ρ' S (wipeP π own) ∧ ∀ k, Own ρ' (wipeP π own) k → Own ρ π k := by
  have ho : ∀ k, Own ρ' (wipeP π own) k → Own ρ π k := fun k ⟨j, v, e1, e2⟩ => by
    obtain ⟨n, e⟩ := wipeP_get.mp e1
    exact ⟨j, v, e, by rw [← hs j n]; exact e2⟩
  have hM : ∀ k, MM B ρ' (wipeP π own) k → MM B ρ π k := fun k z => z.elim .inl fun o => .inr (ho k o)
  have h1 : ∀ k, k < S.length → OO B C ρ' (wipeP π own) k → OO B C ρ π k := fun k _ z => z.elim (fun m => .inl (hM k m)) .inr
  refine ⟨⟨by simp [wipeP, hl, rl.len], rl.bc, fun j s e => ?_, fun j1 j2 s t l hne z1 m1 z2 m2 => ?_⟩, ho⟩
  · obtain ⟨n, e⟩ := wipeP_get.mp e
    have g := rl.slot j s e
    cases s with
    | sh v => obtain ⟨d, e1, q⟩ := g; exact ⟨d, by rw [hs j n]; exact e1, q.mv h1 fun _ _ _ => rfl⟩
    | pk v => obtain ⟨d, e1, q, n2⟩ := g; exact ⟨d, by rw [hs j n]; exact e1, q.mv h1 (fun _ _ _ => rfl) (fun _ _ => rfl), fun l e => ⟨fun m => (n2 l e).1 (hM l m), (n2 l e).2⟩⟩
    | ow v => obtain ⟨d, e1, q, n2⟩ := g; exact ⟨d, by rw [hs j n]; exact e1, q.mv h1 (fun _ _ _ => rfl) rfl, n2⟩
    | mu v => obtain ⟨d, e1, q, n2⟩ := g; exact ⟨d, by rw [hs j n]; exact e1, q.mv h1 (fun _ _ _ => rfl) rfl, n2⟩
  · obtain ⟨n1, w1⟩ := wipeP_get.mp z1
    obtain ⟨n2, w2⟩ := wipeP_get.mp z2
    rw [hs _ n1, hs _ n2]
    exact rl.sep j1 j2 s t l hne w1 m1 w2 m2
mutual
theorem tgE_len : ∀ (t : Tgt) {d : D} {ρ ρ' : Env}, tgE t d ρ = some ρ' → ρ'.length = ρ.length
  | .nm i, d, ρ, ρ', e => by cases e; simp
  | .tp ts, d, ρ, ρ', e => by
    cases d <;> first | (cases e; done) | skip
    unfold tgE at e
    split at e
    · exact tgEs_len ts e
    · cases e
theorem tgEs_len : ∀ (ts : List Tgt) {ds : List D} {ρ ρ' : Env}, tgEs ts ds ρ = some ρ' → ρ'.length = ρ.length
  | [], [], ρ, ρ', e => by cases e; rfl
  | [], _ :: _, ρ, ρ', e => by cases e
  | t :: ts, [], ρ, ρ', e => by cases e
  | t :: ts, d :: ds, ρ, ρ', e => by
    unfold tgEs at e
    cases e1 : tgE t d ρ with
    | none => rw [e1] at e; cases e
    | some ρ1 => rw [e1] at e; exact (tgEs_len ts e).trans (tgE_len t e1)
end
mutual
theorem tgE_at : ∀ (t : Tgt) {d : D} {ρ ρ' : Env} {j : Nat}, tgE t d ρ = some ρ' → j ∉ tgN t → ρ'[j]? = ρ[j]?
  | .nm i, d, ρ, ρ', j, e, h => by cases e; exact List.getElem?_set_ne (by simp [tgN] at h; exact fun z => h z.symm)
  | .tp ts, d, ρ, ρ', j, e, h => by
    cases d <;> first | (cases e; done) | skip
    unfold tgE at e
    split at e
    · exact tgEs_at ts e (by simpa [tgN] using h)
    · cases e
theorem tgEs_at : ∀ (ts : List Tgt) {ds : List D} {ρ ρ' : Env} {j : Nat}, tgEs ts ds ρ = some ρ' → j ∉ tgNs ts → ρ'[j]? = ρ[j]?
  | [], [], ρ, ρ', j, e, h => by cases e; rfl
  | [], _ :: _, ρ, ρ', j, e, h => by cases e
  | t :: ts, [], ρ, ρ', j, e, h => by cases e
  | t :: ts, d :: ds, ρ, ρ', j, e, h => by
    unfold tgEs at e
    simp only [tgNs, List.mem_append, not_or] at h
    cases e1 : tgE t d ρ with
    | none => rw [e1] at e; cases e
    | some ρ1 => rw [e1] at e; exact (tgEs_at ts e h.2).trans (tgE_at t e1 h.1)
end
theorem RR.ne {α β : Type} {r : R α} {p : PR β} {Q : α → Store → β → PEnv → Prop} (h : RR B C ρ S π r p Q) : RR B C ρ S π r.ne p.ne Q := by
  cases p with
  | bad => trivial
  | exc c w π' => trivial
  | ok b π' => obtain ⟨a, S', rfl, q⟩ := h; exact ⟨a, S', rfl, q⟩
/-- from the state within to the wiped one -/
theorem lc_back {own : List Nat} {ρ2 : Env} {S2 : Store} {π2 π3 : PEnv} (nx1 : Nxt B ρ S π ρ2 S π2) (hw : ∀ j s, π[j]? = some (some s) → j ∉ own) (hl : ρ2.length = ρ.length) (ha : ∀ j, j ∉ own → ρ2[j]? = ρ[j]?)
    (nx2 : Nxt B ρ2 S π2 ρ2 S2 π3) (rl2 : Rel B C ρ2 S2 π3) : Rel B C ρ S2 (wipeP π3 own) ∧ Nxt B ρ S π ρ S2 (wipeP π3 own) := by
  obtain ⟨r, o⟩ := rl2.wipe (ρ' := ρ) (own := own) hl.symm fun j n => (ha j n).symm
  have nx := nx1.trans nx2
  refine ⟨r, nx.un, fun k lt z => nx.ow k lt (o k z), fun j v e => ?_, rfl, fun j v e => ?_⟩
  · obtain ⟨_, v', g⟩ := nx.mu j v e
    exact ⟨rfl, v', wipeP_get.mpr ⟨hw j _ e, g⟩⟩
  · obtain ⟨_, v', g⟩ := nx.pk j v (wipeP_get.mp e).2
    exact ⟨rfl, v', g⟩
theorem lc_go {t : Tgt} {tt : FB} {te : F} {pt : PX Bool} {pe : PX PV} {own : List Nat} (hown : ∀ j, j ∈ tgN t → j ∈ own) (ht : ET tt pt) (he : E .v te pe) {w : Wk} {all : List PV} : ∀ (vs : List PV) (i : Nat) {S : Store} {π : PEnv}, Rel B C ρ S π → (∀ (j : Nat) (s : PSl), π[j]? = some (some s) → j ∉ own) → WkR B C ρ S π w all → all.drop i = vs →
    RR B C ρ S π (lcGo w t tt te ρ vs.length i S) (lcP t pt pe own vs π) fun ds S' ys π' => DenL (OO B C ρ π') S' ys ds
  | [], i, S, π, rl, hw, wk, hd => by
    have z := (wk.2 _ _ _ Nxt.refl).2
    show RR B C ρ S π (if w.fin S = true then .ok [] S else .bad) (.ok [] π) _
    rw [if_pos z]
    exact RR.here rl DenL.nil
  | v :: vs, i, S, π, rl, hw, wk, hd => by
    have e : all[i]? = some v := by
      have := congrArg (fun l => l[0]?) hd
      simpa using this
    have hd' : all.drop (i + 1) = vs := by
      have : all.drop (i + 1) = (all.drop i).drop 1 := by rw [List.drop_drop]
      rw [this, hd]; rfl
    obtain ⟨d, g, q⟩ := (wk.2 _ _ _ Nxt.refl).1 i v e
    have ef : lcGo w t tt te ρ (v :: vs).length i S = (ofOE (tgE t d ρ) S).bind fun ρ2 S1 => (tt ρ2 S1).ne.bind fun b S2 =>
      if b = true then (te ρ2 S2).ne.bind fun y S3 => (lcGo w t tt te ρ vs.length (i + 1) S3).bind fun ys S4 => .ok (y :: ys) S4 else lcGo w t tt te ρ vs.length (i + 1) S2 := by
      show (match w.get S i with | none => _ | some d => _) = _
      rw [g]
    rw [ef]
    have ep : lcP t pt pe own (v :: vs) π = match tgP t v π with
      | none => .bad
      | some π1 => (pt π1).ne.bind fun b π2 => if b = true then (pe π2).ne.bind fun y π3 => (lcP t pt pe own vs (wipeP π3 own)).bind fun ys π4 => .ok (y :: ys) π4 else lcP t pt pe own vs (wipeP π2 own) := rfl
    rw [ep]
    cases e2 : tgP t v π with
    | none => trivial
    | some π2 =>
      obtain ⟨ρ2, e1, r2, n2⟩ := tg_ok t rl q e2
      rw [e1]
      have hl := tgE_len t e1
      have ha : ∀ j, j ∉ own → ρ2[j]? = ρ[j]? := fun j n => tgE_at t e1 fun z => n (hown j z)
      show RR B C ρ S π ((tt ρ2 S).ne.bind _) ((pt π2).ne.bind _) _
      -- the test
      have zt := (ht B C ρ2 S π2 r2).ne
      cases et : (pt π2).ne with
      | bad => trivial
      | exc c w π' => rw [et] at zt; obtain ⟨d', S', e3, _⟩ := zt; cases ht2 : pt π2 <;> rw [ht2] at et <;> cases et
      | ok b π3 =>
        rw [et] at zt
        obtain ⟨b', S2, e3, nx3, rl3, eb⟩ := zt
        subst eb
        rw [e3]
        show RR B C ρ S π (if b' = true then _ else _) (if b' = true then _ else _) _
        by_cases hb : b' = true
        · rw [if_pos hb, if_pos hb]
          have ze := (he B C ρ2 S2 π3 rl3).ne
          cases ee : (pe π3).ne with
          | bad => trivial
          | exc c w π' => cases ht2 : pe π3 <;> rw [ht2] at ee <;> cases ee
          | ok y π4 =>
            rw [ee] at ze
            obtain ⟨dy, S3, e4, nx4, rl4, qy⟩ := ze
            rw [e4]
            obtain ⟨rb, nb⟩ := lc_back n2 hw hl ha (nx3.trans nx4) rl4
            have qy' : Den (OO B C ρ (wipeP π4 own)) S3 y dy := Den.mv (fun k lt z => by
              obtain ⟨_, o⟩ := rl4.wipe (ρ' := ρ) (own := own) hl.symm fun j n => (ha j n).symm
              exact z.elim (fun m => .inl (m.elim .inl fun x => .inr (o k x))) .inr) (fun _ _ _ => rfl) qy
            have ih := lc_go hown ht he vs (i + 1) rb (fun j s e => (wipeP_get.mp e).1) (wk.shift nb) hd'
            have : RR B C ρ S3 (wipeP π4 own) ((lcGo w t tt te ρ vs.length (i + 1) S3).bind fun ys S4 => .ok (dy :: ys) S4) ((lcP t pt pe own vs (wipeP π4 own)).bind fun ys π4 => .ok (y :: ys) π4) fun ds S' ys π' => DenL (OO B C ρ π') S' ys ds :=
              ih.bind fun a S1 b π1 nx rl1 q => RR.here rl1 (DenL.cons (nx.den qy') q)
            exact RR.shift nb this
        · rw [if_neg hb, if_neg hb]
          obtain ⟨rb, nb⟩ := lc_back n2 hw hl ha nx3 rl3
          exact RR.shift nb (lc_go hown ht he vs (i + 1) rb (fun j s e => (wipeP_get.mp e).1) (wk.shift nb) hd')
theorem backP_get {π0 π : PEnv} {own : List Nat} {j : Nat} {s : PSl} (h : (backP π0 π own)[j]? = some (some s)) : (j ∈ own ∧ π0[j]? = some (some s)) ∨ (j ∉ own ∧ π[j]? = some (some s)) := by
  unfold backP at h
  rw [List.getElem?_mapIdx] at h
  cases e : π[j]? with
  | none => rw [e] at h; cases h
  | some o =>
    rw [e] at h
    by_cases hj : j ∈ own
    · simp [hj] at h
      cases e0 : π0[j]? with
      | none => rw [e0] at h; cases h
      | some x => rw [e0] at h; simp at h; subst h; exact .inl ⟨hj, rfl⟩
    · simp [hj] at h; exact .inr ⟨hj, by rw [h]⟩
theorem okOwn_ne {π : PEnv} {own : List Nat} (h : okOwn π own = true) {j : Nat} (hj : j ∈ own) {s : PSl} (e : π[j]? = some (some s)) : ∃ v, s = .sh v := by
  unfold okOwn at h
  have := List.all_eq_true.mp h j hj
  rw [e] at this
  cases s <;> first | exact ⟨_, rfl⟩ | cases this
theorem e_lc {w : Env → Store → R Wk} {pw : PX (List PV)} {t : Tgt} {tt : FB} {te : F} {pt : PX Bool} {pe : PX PV} {own : List Nat} (hown : ∀ j, j ∈ tgN t → j ∈ own) (hw : EW w pw) (ht : ET tt pt) (he : E .v te pe) : E .f (fLc w t tt te own) (qLc pw t pt pe own) := fun B C ρ S π rl =>
  (hw B C ρ S π rl).bind fun wk S1 vs π1 nx rl1 q => by
    by_cases ok : okOwn π1 own = true
    · rw [if_pos ok]
      obtain ⟨rw1, ow1⟩ := rl1.wipe (ρ' := wipeE ρ own) (own := own) wipeE_len fun j n => wipeE_get n
      have nw : Nxt B ρ S1 π1 (wipeE ρ own) S1 (wipeP π1 own) := ⟨Unch.refl, fun k _ z => ow1 k z, fun j v e => by
        have n : j ∉ own := fun hj => by obtain ⟨v', z⟩ := okOwn_ne ok hj e; cases z
        exact ⟨wipeE_get n, v, wipeP_get.mpr ⟨n, e⟩⟩, wipeE_len, fun j v e => ⟨wipeE_get (wipeP_get.mp e).1, v, (wipeP_get.mp e).2⟩⟩
      have go := lc_go hown ht he vs 0 rw1 (fun j s e => (wipeP_get.mp e).1) (q.shift nw) rfl
      rw [← q.1] at go
      cases ec : lcP t pt pe own vs (wipeP π1 own) with
      | bad => trivial
      | exc c w π' =>
        exfalso
        have : ∀ (vs : List PV) (π : PEnv), ∀ c w π', lcP t pt pe own vs π ≠ .exc c w π' := by
          intro vs
          induction vs with
          | nil => intro π c w π' z; cases z
          | cons v vs ih =>
            intro π c w π' z
            have ep : lcP t pt pe own (v :: vs) π = match tgP t v π with
              | none => .bad
              | some π1 => (pt π1).ne.bind fun b π2 => if b = true then (pe π2).ne.bind fun y π3 => (lcP t pt pe own vs (wipeP π3 own)).bind fun ys π4 => .ok (y :: ys) π4 else lcP t pt pe own vs (wipeP π2 own) := rfl
            rw [ep] at z
            cases e1 : tgP t v π with
            | none => rw [e1] at z; cases z
            | some π1 =>
              rw [e1] at z
              dsimp only at z
              cases e2 : pt π1 with
              | bad => rw [e2] at z; cases z
              | exc _ _ _ => rw [e2] at z; cases z
              | ok b π2 =>
                rw [e2] at z
                simp only [PR.ne_ok, PR.bind_ok] at z
                split at z
                · cases e3 : pe π2 with
                  | bad => rw [e3] at z; cases z
                  | exc _ _ _ => rw [e3] at z; cases z
                  | ok y π3 =>
                    rw [e3] at z
                    simp only [PR.ne_ok, PR.bind_ok] at z
                    cases e4 : lcP t pt pe own vs (wipeP π3 own) with
                    | bad => rw [e4] at z; cases z
                    | ok _ _ => rw [e4] at z; cases z
                    | exc c w π' => exact ih _ _ _ _ e4
                · exact ih _ _ _ _ z
        exact this _ _ _ _ _ ec
      | ok ys π2 =>
        rw [ec] at go
        obtain ⟨ds, S2, e1, nx2, rl2, qd⟩ := go
        rw [e1]
        have hb : (∀ k, Own ρ (backP π1 π2 own) k → Own (wipeE ρ own) π2 k) := fun k ⟨j, v, z1, z2⟩ => by
          rcases backP_get z1 with ⟨hj, e⟩ | ⟨hj, e⟩
          · obtain ⟨_, z⟩ := okOwn_ne ok hj e; cases z
          · exact ⟨j, v, e, by rw [wipeE_get hj]; exact z2⟩
        have n2 := nw.trans nx2
        have hM : ∀ k, MM B ρ (backP π1 π2 own) k → MM B (wipeE ρ own) π2 k := fun k z => z.elim .inl fun o => .inr (hb k o)
        have h1 : ∀ k, OO B C ρ (backP π1 π2 own) k → OO B C (wipeE ρ own) π2 k := fun k z => z.elim (fun m => .inl (hM k m)) .inr
        have rl3 : Rel B C ρ S2 (backP π1 π2 own) := by
          refine ⟨by have := rl2.len; rw [wipeE_len] at this; simp [backP, this], rl2.bc, fun j s e => ?_, fun j1 j2 s t l hne z1 m1 z2 m2 => ?_⟩
          · rcases backP_get e with ⟨hj, e⟩ | ⟨hj, e⟩
            · obtain ⟨v, rfl⟩ := okOwn_ne ok hj e
              obtain ⟨d, g, qq⟩ := rl1.slot j _ e
              exact ⟨d, g, Den.mv (fun k lt z => n2.h1 k lt (h1 k z)) n2.un.h2 qq⟩
            · have g := rl2.slot j s e
              cases s with
              | sh v => obtain ⟨d, e1, q⟩ := g; exact ⟨d, by rw [← wipeE_get hj]; exact e1, q.mv (fun k _ => h1 k) fun _ _ _ => rfl⟩
              | pk v => obtain ⟨d, e1, q, n2⟩ := g; exact ⟨d, by rw [← wipeE_get hj]; exact e1, q.mv (fun k _ => h1 k) (fun _ _ _ => rfl) (fun _ _ => rfl), fun l e => ⟨fun m => (n2 l e).1 (hM l m), (n2 l e).2⟩⟩
              | ow v => obtain ⟨d, e1, q, n2⟩ := g; exact ⟨d, by rw [← wipeE_get hj]; exact e1, q.mv (fun k _ => h1 k) (fun _ _ _ => rfl) rfl, n2⟩
              | mu v => obtain ⟨d, e1, q, n2⟩ := g; exact ⟨d, by rw [← wipeE_get hj]; exact e1, q.mv (fun k _ => h1 k) (fun _ _ _ => rfl) rfl, n2⟩
          · rcases backP_get z1 with ⟨hj, e⟩ | ⟨hj1, e1⟩
            · obtain ⟨v, rfl⟩ := okOwn_ne ok hj e; cases m1
            rcases backP_get z2 with ⟨hj, e⟩ | ⟨hj2, e2⟩
            · obtain ⟨v, rfl⟩ := okOwn_ne ok hj e; cases m2
            rw [← wipeE_get hj1, ← wipeE_get hj2]
            exact rl2.sep j1 j2 s t l hne e1 m1 e2 m2
        have nx3 : Nxt B ρ S1 π1 ρ S2 (backP π1 π2 own) := ⟨n2.un, fun k lt z => n2.ow k lt (hb k z), fun j v e => by
          have n : j ∉ own := fun hj => by obtain ⟨v', z⟩ := okOwn_ne ok hj e; cases z
          obtain ⟨_, v', g⟩ := n2.mu j v e
          refine ⟨rfl, v', ?_⟩
          unfold backP
          rw [List.getElem?_mapIdx, g]
          simp [n], rfl, fun j v e => by
            rcases backP_get e with ⟨_, e⟩ | ⟨_, e⟩
            · exact ⟨rfl, v, e⟩
            · obtain ⟨_, v', g⟩ := n2.pk j v e
              exact ⟨rfl, v', g⟩⟩
        have qd' : DenL (OO B C ρ (backP π1 π2 own)) S2 ys ds := qd.mv (fun k _ => h1 k) fun _ _ _ => rfl
        show RR B C ρ S1 π1 (lcEnd [] ds S2) (if ys.length ≤ PySem.sizeLine then PR.ok (PV.lst ys) (backP π1 π2 own) else PR.bad) _
        by_cases hz : ys.length ≤ PySem.sizeLine
        · rw [if_pos hz]
          have : lcEnd [] ds S2 = .ok (.loc S2.length) (S2 ++ [Cell.lst ds]) := by
            unfold lcEnd
            rw [List.nil_append, qd'.len, if_pos hz]
          rw [this]
          refine RR.shift nx3 (RR.here' rl3 (Pre.app _ _) (QM.sub (md := .f) (QF.of rl3 fun O ho => cell_lst qd' ho) (Nat.le_trans nx.un.le nx3.un.le)))
        · rw [if_neg hz]; trivial
    · rw [if_neg ok]; trivial
end
end P

set_option maxRecDepth 100000
set_option maxHeartbeats 1000000
namespace P
open G
/-! # lists of expressions, some of them new lists that are kept apart -/
def moreL (C : Nat → Prop) (X : List Nat) : Nat → Prop := fun k => C k ∨ k ∈ X
def Items (O : Nat → Prop) (S : Store) : List Bool → List PV → List D → List Nat → Prop
  | [], vs, ds, X => vs = [] ∧ ds = [] ∧ X = []
  | b :: ms, vs, ds, X => ∃ v vs' d ds', vs = v :: vs' ∧ ds = d :: ds' ∧
    (if b = true then ∃ l X', X = l :: X' ∧ d = .loc l ∧ CellV O S v l ∧ Items O S ms vs' ds' X' else Den O S v d ∧ Items O S ms vs' ds' X)
def pkFree (ρ : Env) (π : PEnv) (l : Nat) : Prop := ∀ (i : Nat) (w : PV), π[i]? = some (some (PSl.pk w)) → ρ[i]? ≠ some (some (D.loc l))
def EM (ms : List Bool) (f : FL) (p : PX (List PV)) : Prop := ∀ B C ρ S π, Rel B C ρ S π → RR B C ρ S π (f ρ S) (p π) fun ds S' vs π' =>
  ∃ X : List Nat, Rel B (moreL C X) ρ S' π' ∧ Items (OO B (moreL C X) ρ π') S' ms vs ds X ∧ (∀ l ∈ X, S.length ≤ l ∧ pkFree ρ π' l) ∧ X.Nodup
section
variable {fm : Bool} {B C C' : Nat → Prop} {ρ ρ' ρ1 ρ0 : Env} {S S' S1 S0 : Store} {π π' π1 π0 : PEnv} {fa fb : F} {pa pb : PX PV} {fl : FL} {pl : PX (List PV)} {ms : List Bool}
theorem Rel.congr (h : Rel B C ρ S π) (e : ∀ k, C k ↔ C' k) : Rel B C' ρ S π := by
  have : C = C' := funext fun k => propext (e k)
  subst this; exact h
theorem RR.less {α β : Type} {r : R α} {p : PR β} {l : Nat} {Q : α → Store → β → PEnv → Prop} (h : RR B (more C l) ρ S π r p Q) : RR B C ρ S π r p Q := by
  cases p with
  | bad => trivial
  | exc c w π' => obtain ⟨d, S', e, n2, rl, q⟩ := h; exact ⟨d, S', e, n2, rl.less, q.mv oo_more fun _ _ _ => rfl⟩
  | ok b π1 => obtain ⟨a, S1, e, n2, rl, q⟩ := h; exact ⟨a, S1, e, n2, rl.less, q⟩
theorem Items.mv {O O' : Nat → Prop} : ∀ {ms : List Bool} {vs : List PV} {ds : List D} {X : List Nat}, (∀ k, k < S.length → O' k → O k) → Items O S ms vs ds X → Items O' S ms vs ds X
  | [], _, _, _, _, h => h
  | true :: ms, _, _, _, h1, ⟨v, vs', d, ds', e1, e2, l, X', e3, e4, c, r⟩ => ⟨v, vs', d, ds', e1, e2, l, X', e3, e4, c.mv h1 (fun _ _ _ => rfl) rfl, Items.mv h1 r⟩
  | false :: ms, _, _, _, h1, ⟨v, vs', d, ds', e1, e2, q, r⟩ => ⟨v, vs', d, ds', e1, e2, q.mv h1 fun _ _ _ => rfl, Items.mv h1 r⟩
theorem em_nil : EM [] fNil qNil := fun B C ρ S π rl => RR.here rl ⟨[], rl.congr fun k => by simp [moreL], ⟨rfl, rfl, rfl⟩, by simp, by simp⟩
theorem em_v (ha : E .v fa pa) (hl : EM ms fl pl) : EM (false :: ms) (fCons fa fl) (qCons pa pl) := fun B C ρ S π rl =>
  (ha B C ρ S π rl).bind fun x S1 a π1 nx rl1 qa => (hl B C ρ S1 π1 rl1).bind fun y S2 b π2 nx2 rl2 ⟨X, r, it, hx, nd⟩ => RR.here rl2
    ⟨X, r, ⟨a, b, x, y, rfl, rfl, qa.d_.mv (fun k lt z => by
      rcases z with m | c | c
      · exact nx2.h1 (C := C) k lt (.inl m)
      · exact .inr c
      · exact absurd lt (Nat.not_lt.mpr (hx k c).1)) nx2.un.h2, it⟩, fun l hl => ⟨Nat.le_trans nx.un.le (hx l hl).1, (hx l hl).2⟩, nd⟩
theorem em_f (ha : E .f fa pa) (hl : EM ms fl pl) : EM (true :: ms) (fCons fa fl) (qCons pa pl) := fun B C ρ S π rl =>
  (ha B C ρ S π rl).bind fun x S1 a π1 nx rl1 ⟨l, el, hll, rlm, cv, np⟩ => by
    subst el
    refine RR.less (l := l) ((hl B (more C l) ρ S1 π1 rlm).bind fun y S2 b π2 nx2 rl2 ⟨X, r, it, hx, nd⟩ => RR.here rl2 ?_)
    have eC : ∀ k, moreL (more C l) X k ↔ moreL C (l :: X) k := fun k => by simp [moreL, more, or_assoc]
    have eC' : moreL (more C l) X = moreL C (l :: X) := funext fun k => propext (eC k)
    rw [eC'] at r it
    have nl : ¬ MM B ρ π1 l := fun m => m.elim (fun b => absurd (rl.bc l (.inl b)) (by omega)) fun ⟨i, w, e1, e2⟩ => by
      obtain ⟨l', e3, _, _, n⟩ := rlm.slot i _ e1
      rw [e2] at e3; cases e3
      exact n (.inr rfl)
    refine ⟨l :: X, r, ⟨a, b, .loc l, y, rfl, rfl, l, X, rfl, rfl, cv.mv (fun k lt z => ?_) nx2.un.h2 (nx2.un.un l cv.lt nl), it⟩, fun k hk => ?_, ?_⟩
    · rcases z with m | c | c
      · exact nx2.h1 (C := more C l) k lt (.inl m)
      · exact .inr (.inl c)
      · rcases List.mem_cons.mp c with rfl | c
        · exact .inr (.inr rfl)
        · exact absurd lt (Nat.not_lt.mpr (hx k c).1)
    · rcases List.mem_cons.mp hk with rfl | hk
      · refine ⟨hll, fun i w e z => ?_⟩
        obtain ⟨_, w', g⟩ := nx2.pk i w e
        exact np i w' g z
      · exact ⟨Nat.le_trans nx.un.le (Nat.le_trans (Nat.le_refl _) (hx k hk).1), (hx k hk).2⟩
    · exact List.nodup_cons.mpr ⟨fun h => absurd cv.lt (Nat.not_lt.mpr (hx l h).1), nd⟩
end
end P

set_option maxRecDepth 100000
set_option maxHeartbeats 1000000
namespace P
open G
def inst : List Bool → List Nat → List PV → PEnv → Option PEnv
  | [], [], [], π => some π
  | b :: ms, i :: is, v :: vs, π => if noMu π i = true then inst ms is vs (π.set i (some (if b = true then .ow v else .sh v))) else none
  | _, _, _, _ => none
def instE : List Nat → List D → Env → Env
  | i :: is, d :: ds, ρ => instE is ds (ρ.set i (some d))
  | _, _, ρ => ρ
def tPar (is : List Nat) (ms : List Bool) (p : PX (List PV)) : PS := fun π => (p π).toFl fun vs π1 => match inst ms is vs π1 with
  | some π2 => .nx π2
  | none => .bad
section
variable {fm : Bool} {B C C' : Nat → Prop} {ρ ρ' ρ1 ρ0 : Env} {S S' S1 S0 : Store} {π π' π1 π0 : PEnv} {fa fb : F} {pa pb : PX PV} {fl : FL} {pl : PX (List PV)} {ms : List Bool}
theorem own_setOw {i l : Nat} {v : PV} {k : Nat} (h : Own (ρ.set i (some (.loc l))) (π.set i (some (.ow v))) k) : k = l ∨ Own ρ π k := by
  obtain ⟨j, w, e1, e2⟩ := h
  rcases set_at e1 with ⟨z0, z⟩ | ⟨ne, z⟩
  · subst z0
    rcases set_at e2 with ⟨_, z3⟩ | ⟨ne, _⟩
    · cases z3; exact .inl rfl
    · exact absurd rfl ne
  · rw [List.getElem?_set_ne ne] at e2; exact .inr ⟨j, w, z, e2⟩
theorem pkFree_set {i l : Nat} {d : D} {s : PSl} (hs : ∀ w, s ≠ .pk w) (h : pkFree ρ π l) : pkFree (ρ.set i (some d)) (π.set i (some s)) l := fun j w e z => by
  rcases set_at e with ⟨_, e1⟩ | ⟨ne, e1⟩
  · cases e1; exact hs w rfl
  · rw [List.getElem?_set_ne ne] at z; exact h j w e1 z
theorem inst_ok : ∀ (ms : List Bool) (is : List Nat) {vs : List PV} {ds : List D} {X : List Nat} {ρ : Env} {π π' : PEnv}, Rel B (moreL C X) ρ S π → Items (OO B (moreL C X) ρ π) S ms vs ds X → (∀ l ∈ X, ¬ B l ∧ ¬ C l ∧ S0.length ≤ l ∧ pkFree ρ π l) → X.Nodup → Nxt B ρ0 S0 π0 ρ S π →
    inst ms is vs π = some π' → Rel B C (instE is ds ρ) S π' ∧ Nxt B ρ0 S0 π0 (instE is ds ρ) S π'
  | [], is, vs, ds, X, ρ, π, π', rl, it, hx, nd, nx, e => by
    obtain ⟨rfl, rfl, rfl⟩ := it
    cases is with
    | nil => cases e; exact ⟨rl.congr fun k => by simp [moreL], nx⟩
    | cons i is => cases e
  | false :: ms, is, vs, ds, X, ρ, π, π', rl, ⟨v, vs', d, ds', e1, e2, q, r⟩, hx, nd, nx, e => by
    subst e1; subst e2
    cases is with
    | nil => cases e
    | cons i is =>
      simp only [inst] at e
      split at e
      · rename_i hm
        obtain ⟨r2, n2⟩ := rl.setSh q hm
        exact inst_ok ms is (ds := ds') r2 (Items.mv n2.h1 r) (fun l hl => ⟨(hx l hl).1, (hx l hl).2.1, (hx l hl).2.2.1, pkFree_set (by intro w z; cases z) (hx l hl).2.2.2⟩) nd (nx.trans n2) e
      · cases e
  | true :: ms, is, vs, ds, X, ρ, π, π', rl, ⟨v, vs', d, ds', e1, e2, l, X', e3, e4, c, r⟩, hx, nd, nx, e => by
    subst e1; subst e2; subst e3; subst e4
    cases is with
    | nil => cases e
    | cons i is =>
      simp only [inst] at e
      split at e
      · rename_i hm
        have eC : moreL C (l :: X') = more (moreL C X') l := funext fun k => propext ⟨fun z => z.elim (fun a => .inl (.inl a)) fun a => (List.mem_cons.mp a).elim .inr fun a => .inl (.inr a), fun z => z.elim (fun z => z.elim .inl fun a => .inr (List.mem_cons_of_mem _ a)) fun a => .inr (a ▸ List.mem_cons_self)⟩
        obtain ⟨hl, hx2⟩ := List.nodup_cons.mp nd
        have h0 := hx l (List.mem_cons_self)
        rw [eC] at rl c
        have r2 := rl.setOw (i := i) c h0.1 (fun z => z.elim h0.2.1 hl) h0.2.2.2 hm
        have n2 := nx.setOw (v := v) h0.2.2.1 hm
        refine inst_ok ms is (ds := ds') r2 (Items.mv (fun k lt z => ?_) r) (fun l' hl' => ?_) hx2 n2 e
        · rcases z with (b | o) | c
          · exact .inl (.inl b)
          · rcases own_setOw o with rfl | o
            · exact .inr (.inr List.mem_cons_self)
            · exact .inl (.inr o)
          · exact .inr (c.elim .inl fun c => .inr (List.mem_cons_of_mem _ c))
        · have h1 := hx l' (List.mem_cons_of_mem _ hl')
          exact ⟨h1.1, h1.2.1, h1.2.2.1, pkFree_set (by intro w z; cases z) h1.2.2.2⟩
      · cases e
theorem items_len {O : Nat → Prop} : ∀ {ms : List Bool} {vs : List PV} {ds : List D} {X : List Nat}, Items O S ms vs ds X → ds.length = ms.length
  | [], _, _, _, ⟨_, e, _⟩ => by rw [e]; rfl
  | true :: ms, _, _, _, ⟨v, vs', d, ds', e1, e2, l, X', e3, e4, c, r⟩ => by rw [e2]; simp [items_len r]
  | false :: ms, _, _, _, ⟨v, vs', d, ds', e1, e2, q, r⟩ => by rw [e2]; simp [items_len r]
theorem par_core {is : List Nat} {f : List D → Env → Store → Fl} (h : EM ms fl pl) (hf : ∀ ds ρ S, ds.length = ms.length → f ds ρ S = .nx (instE is ds ρ) S) : SS fm (fun ρ S => (fl ρ S).toFl ρ fun ds S1 => f ds ρ S1) (tPar is ms pl) := fun B C ρ S π rl => by
  have z := h B C ρ S π rl
  unfold tPar
  dsimp only
  cases e : pl π with
  | bad => trivial
  | exc c w π1 => rw [e] at z; obtain ⟨d, S', e1, q⟩ := z; rw [e1]; exact ⟨d, ρ, S', rfl, q⟩
  | ok vs π1 =>
    rw [e] at z
    obtain ⟨ds, S', e1, nx, rl1, X, r, it, hx, nd⟩ := z
    rw [e1]
    show RF fm B C ρ S π (f ds ρ S') (match inst ms is vs π1 with | some π2 => .nx π2 | none => .bad)
    rw [hf ds ρ S' (items_len it)]
    cases e2 : inst ms is vs π1 with
    | none => trivial
    | some π2 =>
      obtain ⟨a, b⟩ := inst_ok ms is r it (fun l hl => ⟨fun b => absurd (rl.bc l (.inl b)) (Nat.not_lt.mpr (hx l hl).1), fun b => absurd (rl.bc l (.inr b)) (Nat.not_lt.mpr (hx l hl).1), hx l hl⟩) nd nx e2
      exact ⟨_, S', rfl, b, a⟩
theorem s_par2 (i j : Nat) {b1 b2 : Bool} (h : EM [b1, b2] fl pl) : SS fm (sPar2 i j fl) (tPar [i, j] [b1, b2] pl) :=
  par_core (f := fun ds ρ S1 => match ds with | [x, y] => .nx ((ρ.set i (some x)).set j (some y)) S1 | _ => .bad) h fun ds ρ S e => by
    match ds, e with
    | [x, y], _ => rfl
theorem s_par3 (i j k : Nat) {b1 b2 b3 : Bool} (h : EM [b1, b2, b3] fl pl) : SS fm (sPar3 i j k fl) (tPar [i, j, k] [b1, b2, b3] pl) :=
  par_core (f := fun ds ρ S1 => match ds with | [x, y, z] => .nx (((ρ.set i (some x)).set j (some y)).set k (some z)) S1 | _ => .bad) h fun ds ρ S e => by
    match ds, e with
    | [x, y, z], _ => rfl
end
/-! # functions -/
inductive AM where
  | v | k | m
inductive PRes where
  | ok (r : PV) (outs : List PV) | exc (c : Nat) (w : PV) (outs : List PV) | bad
abbrev PFn := List PV → PRes
def ArgOk (B C : Nat → Prop) (S : Store) (a : AM) (v : PV) (d : D) : Prop := match a with
  | .v => Den (BC B C) S v d
  | .k => Top (BC B C) S v d ∧ ∀ l, d = .loc l → ¬ B l ∧ l < S.length
  | .m => ∃ l, d = .loc l ∧ B l ∧ CellV (BC B C) S v l
structure ArgsOk (B C : Nat → Prop) (S : Store) (ms : List AM) (vs : List PV) (ds : List D) : Prop where
  lv : vs.length = ms.length
  ld : ds.length = ms.length
  at_ : ∀ (i : Nat) (a : AM) (v : PV) (d : D), ms[i]? = some a → vs[i]? = some v → ds[i]? = some d → ArgOk B C S a v d
  sep : ∀ (i j : Nat) (l : Nat), i ≠ j → ms[i]? = some .m → ms[j]? = some .m → ds[i]? = some (D.loc l) → ds[j]? ≠ some (D.loc l)
def outAt : List AM → List PV → Nat → Option PV
  | .m :: _, o :: _, 0 => some o
  | .m :: as, _ :: os, j + 1 => outAt as os j
  | .m :: _, [], _ => none
  | _ :: _, _, 0 => none
  | _ :: as, os, j + 1 => outAt as os j
  | [], _, _ => none
def Outs (ms : List AM) (ds : List D) (outs : List PV) (X : Nat → Prop) (S' : Store) : Prop := ∀ j, ms[j]? = some .m → ∃ o l, outAt ms outs j = some o ∧ ds[j]? = some (D.loc l) ∧ CellV X S' o l
def SR (ms : List AM) (fm : Bool) (run : G.Run) (P : PFn) : Prop := ∀ B C S vs ds, (∀ k, B k ∨ C k → k < S.length) → ArgsOk B C S ms vs ds → match P vs with
  | .ok r outs => ∃ d S', run ds S = .ok d S' ∧ Unch B S S' ∧
    if fm = true then ∃ l, d = .loc l ∧ S.length ≤ l ∧ CellV (more (BC B C) l) S' r l ∧ Outs ms ds outs (more (BC B C) l) S' else Den (BC B C) S' r d ∧ Outs ms ds outs (BC B C) S'
  | .exc c w outs => ∃ d S', run ds S = .exc c d S' ∧ Unch B S S' ∧ Den (BC B C) S' w d ∧ Outs ms ds outs (BC B C) S'
  | .bad => True
def mkSl : AM → PV → PSl
  | .v, v => .sh v
  | .k, v => .pk v
  | .m, v => .mu v
def entP (ms : List AM) (vs : List PV) (n : Nat) : PEnv := (List.zipWith mkSl ms vs).map some ++ List.replicate (n - ms.length) none
def outsP : List AM → Nat → PEnv → List PV
  | .m :: as, j, π => (slv j π).getD .non :: outsP as (j + 1) π
  | _ :: as, j, π => outsP as (j + 1) π
  | [], _, _ => []
def pRunOf (ms : List AM) (fm : Bool) (n : Nat) (p : PS) : PFn := fun vs => if vs.length = ms.length then match p (entP ms vs n) with
    | .nx π => if fm = true then .bad else .ok .non (outsP ms 0 π)
    | .ret v π => .ok v (outsP ms 0 π)
    | .exc c w π => .exc c w (outsP ms 0 π)
    | _ => .bad
  else .bad
section
variable {fm : Bool} {B C : Nat → Prop} {ρ : Env} {S S' : Store} {π : PEnv} {ms : List AM} {vs : List PV} {ds : List D}
theorem outAt_outsP : ∀ (ms : List AM) (j0 j : Nat), ms[j]? = some .m → outAt ms (outsP ms j0 π) j = some ((slv (j0 + j) π).getD .non)
  | [], _, _, e => by simp at e
  | .m :: as, j0, 0, e => rfl
  | .m :: as, j0, j + 1, e => by
    show outAt as (outsP as (j0 + 1) π) j = _
    rw [outAt_outsP as (j0 + 1) j (by simpa using e)]
    congr 2; congr 1; omega
  | .v :: as, j0, 0, e => by cases e
  | .k :: as, j0, 0, e => by cases e
  | .v :: as, j0, j + 1, e => by
    show outAt as (outsP as (j0 + 1) π) j = _
    rw [outAt_outsP as (j0 + 1) j (by simpa using e)]
    congr 2; congr 1; omega
  | .k :: as, j0, j + 1, e => by
    show outAt as (outsP as (j0 + 1) π) j = _
    rw [outAt_outsP as (j0 + 1) j (by simpa using e)]
    congr 2; congr 1; omega
theorem entP_at {n : Nat} {i : Nat} {s : PSl} (hl : vs.length = ms.length) (e : (entP ms vs n)[i]? = some (some s)) : ∃ a v, ms[i]? = some a ∧ vs[i]? = some v ∧ s = mkSl a v := by
  unfold entP at e
  by_cases h : i < ms.length
  · rw [List.getElem?_append_left (by simp [hl, h]), List.getElem?_map, List.getElem?_zipWith] at e
    rw [List.getElem?_eq_getElem h, List.getElem?_eq_getElem (hl ▸ h)] at e
    simp at e
    exact ⟨_, _, List.getElem?_eq_getElem h, List.getElem?_eq_getElem (hl ▸ h), e.symm⟩
  · rw [List.getElem?_append_right (by simp [hl]; omega)] at e
    have := List.mem_of_getElem? e
    simp at this
theorem entP_mu {n : Nat} {i : Nat} {v : PV} (e1 : ms[i]? = some .m) (e2 : vs[i]? = some v) : (entP ms vs n)[i]? = some (some (PSl.mu v)) := by
  unfold entP
  have h1 := lt_of e1
  have h2 := lt_of e2
  rw [List.getElem?_append_left (by simp; omega), List.getElem?_map, List.getElem?_zipWith, e1, e2]
  rfl
theorem enter_at {n : Nat} {i : Nat} {d : D} (e : ds[i]? = some d) : (enter n ds)[i]? = some (some d) := by
  unfold enter
  rw [List.getElem?_append_left (by simpa using lt_of e), List.getElem?_map, e]; rfl
theorem enter_at' {n : Nat} {i : Nat} {d : D} (h : i < ds.length) (e : (enter n ds)[i]? = some (some d)) : ds[i]? = some d := by
  rw [enter_at (List.getElem?_eq_getElem h)] at e
  cases e
  exact List.getElem?_eq_getElem h
theorem no_own {n : Nat} (hl : vs.length = ms.length) {k : Nat} : ¬ Own (enter n ds) (entP ms vs n) k := fun ⟨i, v, e, _⟩ => by
  obtain ⟨a, v, _, _, e3⟩ := entP_at hl e
  cases a <;> cases e3
theorem entry_rel {n : Nat} (hb : ∀ k, B k ∨ C k → k < S.length) (h : ArgsOk B C S ms vs ds) : Rel B C (enter n ds) S (entP ms vs n) := by
  have hM : ∀ k, MM B (enter n ds) (entP ms vs n) k → B k := fun k z => z.elim id fun o => absurd o (no_own h.lv)
  have h1 : ∀ k, k < S.length → OO B C (enter n ds) (entP ms vs n) k → BC B C k := fun k _ z => z.elim (fun m => .inl (hM k m)) .inr
  refine ⟨by simp [enter, entP, h.lv, h.ld], hb, fun i s e => ?_, fun i j s t l hne e1 m1 e2 m2 => ?_⟩
  · obtain ⟨a, v, ea, ev, es⟩ := entP_at h.lv e
    have hd : i < ds.length := by rw [h.ld]; exact lt_of ea
    have ed := List.getElem?_eq_getElem hd
    have g := h.at_ i a v _ ea ev ed
    subst es
    cases a with
    | v => exact ⟨_, enter_at ed, Den.mv h1 (fun _ _ _ => rfl) g⟩
    | k => exact ⟨_, enter_at ed, Top.mv g.1 h1 (fun _ _ _ => rfl) (fun _ _ => rfl), fun l e => ⟨fun m => (g.2 l e).1 (hM l m), (g.2 l e).2⟩⟩
    | m => obtain ⟨l, el, b, c⟩ := g; exact ⟨l, by rw [enter_at ed, el], c.mv h1 (fun _ _ _ => rfl) rfl, b⟩
  · obtain ⟨a1, v1, ea1, ev1, es1⟩ := entP_at h.lv e1
    obtain ⟨a2, v2, ea2, ev2, es2⟩ := entP_at h.lv e2
    subst es1; subst es2
    have x1 : a1 = .m := by cases a1 <;> first | rfl | cases m1
    have x2 : a2 = .m := by cases a2 <;> first | rfl | cases m2
    subst x1; subst x2
    intro g1 g2
    exact h.sep i j l hne ea1 ea2 (enter_at' (by rw [h.ld]; exact lt_of ea1) g1) (enter_at' (by rw [h.ld]; exact lt_of ea2) g2)
theorem outs_mu {n : Nat} {π' : PEnv} {X : Nat → Prop} (h : ArgsOk B C S ms vs ds) (mo : MuOut (enter n ds) (entP ms vs n) π' S' X) : Outs ms ds (outsP ms 0 π') X S' := fun j e => by
  have hv : j < vs.length := by rw [h.lv]; exact lt_of e
  have hd : j < ds.length := by rw [h.ld]; exact lt_of e
  obtain ⟨l, v', g1, g2, c⟩ := mo j _ (entP_mu e (List.getElem?_eq_getElem hv))
  refine ⟨v', l, ?_, enter_at' hd g1, c⟩
  rw [outAt_outsP ms 0 j e]
  unfold slv
  rw [Nat.zero_add, g2]; rfl
theorem outs_rel {n : Nat} {ρ' : Env} {π' : PEnv} (h : ArgsOk B C S ms vs ds) (nx : Nxt B (enter n ds) S (entP ms vs n) ρ' S' π') (rl : Rel B C ρ' S' π') : MuOut (enter n ds) (entP ms vs n) π' S' (BC B C) := fun i v e => by
  obtain ⟨e1, v', g⟩ := nx.mu i v e
  obtain ⟨l, e2, c, _⟩ := rl.slot i _ g
  exact ⟨l, v', by rw [← e1]; exact e2, g, c.mv bc_oo (fun _ _ _ => rfl) rfl⟩
theorem unch_B {n : Nat} (hl : vs.length = ms.length) (u : Unch (MM B (enter n ds) (entP ms vs n)) S S') : Unch B S S' := ⟨u.le, fun k lt nb => u.un k lt fun z => z.elim nb (no_own hl)⟩
theorem sr_of {f : FS} {p : PS} (ms : List AM) (n : Nat) (h : SS fm f p) : SR ms fm (runOf n f) (pRunOf ms fm n p) := fun B C S vs ds hb ha => by
  have rl := entry_rel (n := n) hb ha
  have z := h B C _ S _ rl
  unfold pRunOf runOf
  rw [if_pos ha.lv]
  cases e : p (entP ms vs n) with
  | bad => trivial
  | bk π' => trivial
  | ct π' => trivial
  | nx π' =>
    rw [e] at z
    obtain ⟨ρ', S', e1, nx, rl'⟩ := z
    cases fm with
    | true => trivial
    | false =>
      exact ⟨.non, S', by rw [e1]; rfl, unch_B ha.lv nx.un, Den.non, outs_mu ha (outs_rel ha nx rl')⟩
  | ret v π' =>
    rw [e] at z
    obtain ⟨d, S', e1, u, q⟩ := z
    cases fm with
    | true =>
      obtain ⟨l, el, o, nb, nc, c, m⟩ := q
      refine ⟨d, S', by rw [e1]; rfl, unch_B ha.lv u, l, el, Nat.not_lt.mp fun lt => no_own ha.lv (o lt), c, outs_mu ha m⟩
    | false => exact ⟨d, S', by rw [e1]; rfl, unch_B ha.lv u, q.1, outs_mu ha q.2⟩
  | exc c w π' =>
    rw [e] at z
    obtain ⟨d, ρ', S', e1, nx, rl', q⟩ := z
    exact ⟨d, S', by rw [e1]; rfl, unch_B ha.lv nx.un, q.mv bc_oo fun _ _ _ => rfl, outs_mu ha (outs_rel ha nx rl')⟩
theorem sr_bad (ms : List AM) : SR ms fm RBad (fun _ => .bad) := fun B C S vs ds hb ha => trivial
end
end P

set_option maxRecDepth 100000
set_option maxHeartbeats 1000000
namespace P
open G
/-! # calls -/
inductive PA where
  | v (p : PX PV) | k (i : Nat) | m (i : Nat)
def PA.am : PA → AM
  | .v _ => .v
  | .k _ => .k
  | .m _ => .m
def qArgs : List PA → PX (List PV)
  | [] => fun π => .ok [] π
  | .v p :: r => fun π => (p π).bind fun x π1 => (qArgs r π1).bind fun xs π2 => .ok (x :: xs) π2
  | .k i :: r => fun π => (ofP (slv i π) π).bind fun _ π => (qArgs r π).bind fun xs π2 => (ofP (slv i π2) π2).bind fun x π2 => .ok (x :: xs) π2
  | .m i :: r => fun π => (ofP (slv i π) π).bind fun _ π => (qArgs r π).bind fun xs π2 => (ofP (slv i π2) π2).bind fun x π2 => .ok (x :: xs) π2
def PA.noSl (i : Nat) : PA → Bool
  | .v _ => true
  | .k j => i != j
  | .m j => i != j
def PA.noM (i : Nat) : PA → Bool
  | .m j => i != j
  | _ => true
def okA : List PA → Bool
  | [] => true
  | .m i :: r => (r.all (PA.noSl i)) && okA r
  | .k i :: r => (r.all (PA.noM i)) && okA r
  | .v _ :: r => okA r
def isMs (i : Nat) (π : PEnv) : Bool := match π[i]? with
  | some (some s) => isM s
  | _ => false
def mOk (as : List PA) (π : PEnv) : Bool := as.all fun a => match a with
  | .m i => isMs i π
  | _ => true
def outS : List PA → List PV → Nat → Option PV
  | .m i :: as, o :: os, j => if i = j then some o else outS as os j
  | .m _ :: _, [], _ => none
  | .v _ :: as, os, j => outS as os j
  | .k _ :: as, os, j => outS as os j
  | [], _, _ => none
def setOuts (as : List PA) (outs : List PV) (π : PEnv) : PEnv := π.mapIdx fun j s => match outS as outs j with
  | some o => match s with
    | some s' => stv s' o
    | none => s
  | none => s
def qRun (as : List PA) (P : PFn) : PX PV := fun π => (qArgs as π).bind fun vs π1 => if mOk as π1 = true then match P vs with
    | .ok r outs => .ok r (setOuts as outs π1)
    | .exc c w outs => .exc c w (setOuts as outs π1)
    | .bad => .bad
  else .bad
def PAOk (O : Nat → Prop) (ρ : Env) (S : Store) (π : PEnv) (a : PA) (v : PV) (d : D) : Prop := match a with
  | .v _ => Den O S v d
  | .k i => slv i π = some v ∧ ρ[i]? = some (some d)
  | .m i => slv i π = some v ∧ ρ[i]? = some (some d)
def AQ (O : Nat → Prop) (ρ : Env) (S : Store) (π : PEnv) : List PA → List PV → List D → Prop
  | [], vs, ds => vs = [] ∧ ds = []
  | a :: as, vs, ds => ∃ v vs' d ds', vs = v :: vs' ∧ ds = d :: ds' ∧ PAOk O ρ S π a v d ∧ AQ O ρ S π as vs' ds'
def EA (f : FL) (as : List PA) : Prop := ∀ B C ρ S π, Rel B C ρ S π → RR B C ρ S π (f ρ S) (qArgs as π) fun ds S' vs π' => AQ (OO B C ρ π') ρ S' π' as vs ds
section
variable {fm : Bool} {B C : Nat → Prop} {ρ : Env} {S S' S1 : Store} {π π1 : PEnv} {ms : List AM} {vs : List PV} {ds : List D} {fa : F} {pa : PX PV} {fl : FL} {as : List PA}
theorem ea_nil : EA fNil [] := fun B C ρ S π rl => RR.here rl ⟨rfl, rfl⟩
theorem ea_v (ha : E .v fa pa) (hl : EA fl as) : EA (fCons fa fl) (.v pa :: as) := fun B C ρ S π rl =>
  (ha B C ρ S π rl).bind fun x S1 a π1 nx rl1 qa => (hl B C ρ S1 π1 rl1).bind fun y S2 b π2 nx2 rl2 qb => RR.here rl2 ⟨a, b, x, y, rfl, rfl, nx2.den qa, qb⟩
theorem ea_sl {a : PA} {i : Nat} (h : a = .k i ∨ a = .m i) (hl : EA fl as) : EA (fCons (fVar i) fl) (a :: as) := fun B C ρ S π rl => by
  have ep : qArgs (a :: as) π = (ofP (slv i π) π).bind fun _ π => (qArgs as π).bind fun xs π2 => (ofP (slv i π2) π2).bind fun x π2 => .ok (x :: xs) π2 := by
    rcases h with rfl | rfl <;> rfl
  rw [ep]
  cases e0 : slv i π with
  | none => trivial
  | some v0 =>
    obtain ⟨d, e1, _⟩ := slv_top rl e0
    have ef : fCons (fVar i) fl ρ S = (fl ρ S).bind fun xs S2 => .ok (d :: xs) S2 := by unfold fCons fVar; rw [e1]; rfl
    rw [ef]
    refine (hl B C ρ S π rl).bind fun y S2 b π2 nx2 rl2 qb => ?_
    cases e2 : slv i π2 with
    | none => trivial
    | some v2 => exact RR.here rl2 ⟨v2, b, d, y, rfl, rfl, by rcases h with rfl | rfl <;> exact ⟨e2, e1⟩, qb⟩
theorem ea_k (i : Nat) (hl : EA fl as) : EA (fCons (fVar i) fl) (.k i :: as) := ea_sl (.inl rfl) hl
theorem ea_m (i : Nat) (hl : EA fl as) : EA (fCons (fVar i) fl) (.m i :: as) := ea_sl (.inr rfl) hl
theorem AQ.lens {O : Nat → Prop} : ∀ {as : List PA} {vs : List PV} {ds : List D}, AQ O ρ S π as vs ds → vs.length = as.length ∧ ds.length = as.length
  | [], _, _, ⟨rfl, rfl⟩ => ⟨rfl, rfl⟩
  | a :: as, _, _, ⟨v, vs', d, ds', rfl, rfl, _, r⟩ => by have := AQ.lens r; simp [this]
theorem AQ.at_ {O : Nat → Prop} : ∀ {as : List PA} {vs : List PV} {ds : List D} {p : Nat} {a : PA} {v : PV} {d : D}, AQ O ρ S π as vs ds → as[p]? = some a → vs[p]? = some v → ds[p]? = some d → PAOk O ρ S π a v d
  | [], _, _, _, _, _, _, _, e, _, _ => by simp at e
  | a :: as, _, _, 0, _, _, _, ⟨v, vs', d, ds', rfl, rfl, q, r⟩, e1, e2, e3 => by simp at e1 e2 e3; subst e1; subst e2; subst e3; exact q
  | a :: as, _, _, p + 1, _, _, _, ⟨v, vs', d, ds', rfl, rfl, q, r⟩, e1, e2, e3 => AQ.at_ (p := p) r (by simpa using e1) (by simpa using e2) (by simpa using e3)
theorem okA_mm : ∀ {as : List PA} {p q i : Nat}, okA as = true → as[p]? = some (PA.m i) → as[q]? = some (.m i) → p = q
  | [], _, _, _, _, e, _ => by simp at e
  | a :: as, 0, 0, i, _, _, _ => rfl
  | a :: as, 0, q + 1, i, h, e1, e2 => by
    simp at e1 e2; subst e1
    simp only [okA, Bool.and_eq_true] at h
    have := List.all_eq_true.mp h.1 _ (List.mem_of_getElem? e2)
    simp [PA.noSl] at this
  | a :: as, p + 1, 0, i, h, e1, e2 => by
    simp at e1 e2; subst e2
    simp only [okA, Bool.and_eq_true] at h
    have := List.all_eq_true.mp h.1 _ (List.mem_of_getElem? e1)
    simp [PA.noSl] at this
  | a :: as, p + 1, q + 1, i, h, e1, e2 => by
    have h' : okA as = true := by cases a <;> simp only [okA, Bool.and_eq_true] at h <;> first | exact h | exact h.2
    exact congrArg (· + 1) (okA_mm (p := p) (q := q) h' (by simpa using e1) (by simpa using e2))
theorem okA_mk : ∀ {as : List PA} {p q i : Nat}, okA as = true → as[p]? = some (PA.m i) → as[q]? = some (.k i) → False
  | [], _, _, _, _, e, _ => by simp at e
  | a :: as, 0, 0, i, _, e1, e2 => by simp at e1 e2; subst e1; cases e2
  | a :: as, 0, q + 1, i, h, e1, e2 => by
    simp at e1 e2; subst e1
    simp only [okA, Bool.and_eq_true] at h
    have := List.all_eq_true.mp h.1 _ (List.mem_of_getElem? e2)
    simp [PA.noSl] at this
  | a :: as, p + 1, 0, i, h, e1, e2 => by
    simp at e1 e2; subst e2
    simp only [okA, Bool.and_eq_true] at h
    have := List.all_eq_true.mp h.1 _ (List.mem_of_getElem? e1)
    simp [PA.noM] at this
  | a :: as, p + 1, q + 1, i, h, e1, e2 => by
    have h' : okA as = true := by cases a <;> simp only [okA, Bool.and_eq_true] at h <;> first | exact h | exact h.2
    exact okA_mk h' (by simpa using e1) (by simpa using e2)
theorem outS_some : ∀ {as : List PA} {outs : List PV} {j : Nat} {o : PV}, outS as outs j = some o → ∃ p, as[p]? = some (PA.m j) ∧ outAt (as.map PA.am) outs p = some o
  | [], _, _, _, e => by cases e
  | .m i :: as, [], _, _, e => by cases e
  | .m i :: as, o :: os, j, _, e => by
    simp only [outS] at e
    split at e
    · rename_i h; subst h; cases e; exact ⟨0, rfl, rfl⟩
    · obtain ⟨p, h1, h2⟩ := outS_some e
      exact ⟨p + 1, by simpa using h1, h2⟩
  | .v _ :: as, os, j, _, e => by
    obtain ⟨p, h1, h2⟩ := outS_some (as := as) e
    exact ⟨p + 1, by simpa using h1, h2⟩
  | .k _ :: as, os, j, _, e => by
    obtain ⟨p, h1, h2⟩ := outS_some (as := as) e
    exact ⟨p + 1, by simpa using h1, h2⟩
theorem outS_ne : ∀ {as : List PA} {outs : List PV} {p i : Nat} {o : PV}, as[p]? = some (PA.m i) → outAt (as.map PA.am) outs p = some o → outS as outs i ≠ none
  | [], _, _, _, _, e, _ => by simp at e
  | .m j :: as, [], 0, _, _, e, h => by cases h
  | .m j :: as, [], p + 1, _, _, e, h => by cases h
  | .m j :: as, o :: os, 0, i, _, e, h => by simp at e; subst e; simp [outS]
  | .m j :: as, o :: os, p + 1, i, _, e, h => by
    simp only [outS]
    split
    · simp
    · exact outS_ne (as := as) (p := p) (by simpa using e) h
  | .v _ :: as, os, 0, i, _, e, h => by simp at e
  | .k _ :: as, os, 0, i, _, e, h => by simp at e
  | .v _ :: as, os, p + 1, i, _, e, h => outS_ne (as := as) (p := p) (by simpa using e) h
  | .k _ :: as, os, p + 1, i, _, e, h => outS_ne (as := as) (p := p) (by simpa using e) h
/-- the cells that the call may change -/
def Bc (as : List PA) (ρ : Env) (k : Nat) : Prop := ∃ (p i : Nat), as[p]? = some (PA.m i) ∧ ρ[i]? = some (some (D.loc k))
theorem setOuts_at {outs : List PV} {i : Nat} {s' : PSl} (h : (setOuts as outs π)[i]? = some (some s')) : (outS as outs i = none ∧ π[i]? = some (some s')) ∨ ∃ o s, outS as outs i = some o ∧ π[i]? = some (some s) ∧ stv s o = some s' := by
  unfold setOuts at h
  rw [List.getElem?_mapIdx] at h
  cases e : π[i]? with
  | none => rw [e] at h; cases h
  | some x =>
    rw [e] at h
    cases eo : outS as outs i with
    | none => rw [eo] at h; exact .inl ⟨rfl, by simpa using h⟩
    | some o =>
      rw [eo] at h
      cases x with
      | none => simp at h
      | some s => exact .inr ⟨o, s, rfl, rfl, by simpa using h⟩
theorem setOuts_of {outs : List PV} {i : Nat} {s : PSl} (h : π[i]? = some (some s)) : (setOuts as outs π)[i]? = some (match outS as outs i with | some o => stv s o | none => some s) := by
  unfold setOuts
  rw [List.getElem?_mapIdx, h]
  cases outS as outs i <;> rfl
theorem call_frame (rl : Rel B C ρ S1 π1) (hm : mOk as π1 = true) : (∀ k, Bc as ρ k → MM B ρ π1 k) ∧ (∀ k, Bc as ρ k ∨ OO B C ρ π1 k → k < S1.length) ∧ ∀ (p i : Nat), as[p]? = some (PA.m i) → ∃ s l, π1[i]? = some (some s) ∧ isM s = true ∧ ρ[i]? = some (some (D.loc l)) ∧ CellV (OO B C ρ π1) S1 s.val l := by
  have hs : ∀ (p i : Nat), as[p]? = some (PA.m i) → ∃ s l, π1[i]? = some (some s) ∧ isM s = true ∧ ρ[i]? = some (some (D.loc l)) ∧ CellV (OO B C ρ π1) S1 s.val l := fun p i e => by
    have := List.all_eq_true.mp hm _ (List.mem_of_getElem? e)
    simp only [isMs] at this
    split at this
    · rename_i s es
      have g := rl.slot i _ es
      cases s with
      | sh _ => cases this
      | pk _ => cases this
      | ow v => obtain ⟨l, e1, q, _⟩ := g; exact ⟨_, l, es, rfl, e1, q⟩
      | mu v => obtain ⟨l, e1, q, _⟩ := g; exact ⟨_, l, es, rfl, e1, q⟩
    · cases this
  have hM : ∀ k, Bc as ρ k → MM B ρ π1 k := fun k ⟨p, i, e, g⟩ => by
    obtain ⟨s, l, es, im, el, q⟩ := hs p i e
    rw [g] at el; cases el
    cases s with
    | sh _ => cases im
    | pk _ => cases im
    | ow v => exact .inr ⟨i, v, es, g⟩
    | mu v => obtain ⟨l, e1, q, b⟩ := rl.slot i _ es; rw [g] at e1; cases e1; exact .inl b
  have hO : ∀ k, MM B ρ π1 k → k < S1.length := fun k z => z.elim (fun b => rl.bc k (.inl b)) fun ⟨i, v, e, g⟩ => by
    obtain ⟨l, e1, q, _⟩ := rl.slot i _ e; rw [g] at e1; cases e1; exact q.lt
  exact ⟨hM, fun k z => z.elim (fun b => hO k (hM k b)) fun z => z.elim (hO k) fun c => rl.bc k (.inr c), hs⟩
theorem call_args (rl : Rel B C ρ S1 π1) (hm : mOk as π1 = true) (ha : okA as = true) (q : AQ (OO B C ρ π1) ρ S1 π1 as vs ds) : ArgsOk (Bc as ρ) (OO B C ρ π1) S1 (as.map PA.am) vs ds := by
  obtain ⟨hM, hO, hs⟩ := call_frame rl hm
  obtain ⟨lv, ld⟩ := q.lens
  have h1 : ∀ k, k < S1.length → BC (Bc as ρ) (OO B C ρ π1) k → OO B C ρ π1 k := fun k _ z => z.elim (fun b => .inl (hM k b)) id
  have am_m : ∀ (p : Nat), (as.map PA.am)[p]? = some AM.m → ∃ i, as[p]? = some (PA.m i) := fun p e => by
    rw [List.getElem?_map] at e
    cases ea : as[p]? with
    | none => rw [ea] at e; cases e
    | some a => cases a <;> (rw [ea] at e; first | exact ⟨_, rfl⟩ | cases e)
  refine ⟨by simp [lv], by simp [ld], fun p a v d e1 e2 e3 => ?_, fun p1 p2 l hne e1 e2 g1 g2 => ?_⟩
  · rw [List.getElem?_map] at e1
    cases ea : as[p]? with
    | none => rw [ea] at e1; cases e1
    | some b =>
      rw [ea] at e1
      have g := q.at_ ea e2 e3
      cases b with
      | v p => cases e1; exact Den.mv h1 (fun _ _ _ => rfl) g
      | k i =>
        cases e1
        obtain ⟨es, er⟩ := g
        obtain ⟨d', er', qt⟩ := slv_top rl es
        rw [er] at er'; cases er'
        refine ⟨qt.mv h1 (fun _ _ _ => rfl) (fun _ _ => rfl), fun l el => ?_⟩
        subst el
        have nb : ¬ Bc as ρ l := fun ⟨p', i', ep, ei⟩ => by
          obtain ⟨s', l', es', im, el', q'⟩ := hs p' i' ep
          rw [ei] at el'; cases el'
          have hne : i' ≠ i := fun z => by subst z; exact okA_mk ha ep ea
          unfold slv at es
          split at es
          · rename_i s e0
            have gs := rl.slot i _ e0
            cases s with
            | sh w =>
              obtain ⟨d, e5, q5⟩ := gs
              rw [er] at e5; cases e5
              cases es
              have no : ¬ OO B C ρ π1 l := by
                cases hc : isC w with
                | true => obtain ⟨l2, e6, n, _⟩ := (den_cell hc).mp q5; cases e6; exact n
                | false => cases w <;> first | (cases hc; done) | (simp [PSl.val, Den] at q5)
              exact no (.inl (hM l ⟨p', i', ep, ei⟩))
            | pk w =>
              obtain ⟨d, e5, q5, n5⟩ := gs
              rw [er] at e5; cases e5
              exact (n5 l rfl).1 (hM l ⟨p', i', ep, ei⟩)
            | ow w => exact rl.sep i' i s' _ l hne es' im e0 rfl ei er
            | mu w => exact rl.sep i' i s' _ l hne es' im e0 rfl ei er
          · cases es
        refine ⟨nb, ?_⟩
        unfold Top at qt
        split at qt
        · obtain ⟨l2, e6, c⟩ := qt; cases e6; exact c.lt
        · cases v <;> first | (simp [Den] at qt; done) | (rename_i hh; exact absurd rfl hh)
      | m i =>
        cases e1
        obtain ⟨es, er⟩ := g
        obtain ⟨s, l, e0, im, el, c⟩ := hs p i ea
        rw [er] at el; cases el
        refine ⟨l, rfl, ⟨p, i, ea, er⟩, ?_⟩
        have : v = s.val := by unfold slv at es; rw [e0] at es; cases es; rfl
        rw [this]
        exact c.mv h1 (fun _ _ _ => rfl) rfl
  · obtain ⟨i1, a1⟩ := am_m p1 e1
    obtain ⟨i2, a2⟩ := am_m p2 e2
    obtain ⟨s1, l1, es1, im1, el1, c1⟩ := hs p1 i1 a1
    obtain ⟨s2, l2, es2, im2, el2, c2⟩ := hs p2 i2 a2
    have hne2 : i1 ≠ i2 := fun z => by subst z; exact hne (okA_mm ha a1 a2)
    have v1 : vs[p1]? = some (vs[p1]'(by rw [lv]; exact lt_of a1)) := List.getElem?_eq_getElem _
    have v2 : vs[p2]? = some (vs[p2]'(by rw [lv]; exact lt_of a2)) := List.getElem?_eq_getElem _
    have q1 := q.at_ a1 v1 g1
    have q2 := q.at_ a2 v2 g2
    exact rl.sep i1 i2 s1 s2 l hne2 es1 im1 es2 im2 q1.2 q2.2
theorem call_back {X : Nat → Prop} {outs : List PV} {C' : Nat → Prop} (rl : Rel B C ρ S1 π1) (hm : mOk as π1 = true) (ha : okA as = true) (q : AQ (OO B C ρ π1) ρ S1 π1 as vs ds) (u : Unch (Bc as ρ) S1 S')
    (ho : Outs (as.map PA.am) ds outs X S') (hX : ∀ k, k < S'.length → OO B C' ρ π1 k → X k) (hc1 : ∀ k, C' k → k < S'.length) (hc2 : ∀ k, k < S1.length → C' k → C k) : Rel B C' ρ S' (setOuts as outs π1) ∧ Nxt B ρ S1 π1 ρ S' (setOuts as outs π1) := by
  obtain ⟨hM, hO, hs⟩ := call_frame rl hm
  obtain ⟨lv, ld⟩ := q.lens
  have un : Unch (MM B ρ π1) S1 S' := ⟨u.le, fun k lt n => u.un k lt fun z => n (hM k z)⟩
  have stv_ow : ∀ {s : PSl} {o : PV} {s' : PSl}, stv s o = some s' → isM s = true ∧ s'.val = o ∧ ((∃ v v', s = .ow v ∧ s' = .ow v') ∨ ∃ v v', s = .mu v ∧ s' = .mu v') := fun {s o s'} e => by
    cases s with
    | sh _ => cases e
    | pk _ => cases e
    | ow v => cases e; exact ⟨rfl, rfl, .inl ⟨_, _, rfl, rfl⟩⟩
    | mu v => cases e; exact ⟨rfl, rfl, .inr ⟨_, _, rfl, rfl⟩⟩
  have out_m : ∀ {i : Nat} {o : PV}, outS as outs i = some o → ∃ s l, π1[i]? = some (some s) ∧ isM s = true ∧ ρ[i]? = some (some (D.loc l)) ∧ CellV X S' o l := fun {i o} e => by
    obtain ⟨p, e1, e2⟩ := outS_some e
    obtain ⟨o', l, g1, g2, c⟩ := ho p (by rw [List.getElem?_map, e1]; rfl)
    rw [e2] at g1; cases g1
    obtain ⟨s, l', es, im, el, _⟩ := hs p i e1
    have v1 : vs[p]? = some (vs[p]'(by rw [lv]; exact lt_of e1)) := List.getElem?_eq_getElem _
    have q1 := q.at_ e1 v1 g2
    exact ⟨s, l, es, im, q1.2, c⟩
  have fw : ∀ k, Own ρ (setOuts as outs π1) k → Own ρ π1 k := fun k ⟨i, v, e, g⟩ => by
    rcases setOuts_at e with ⟨_, e⟩ | ⟨o, s, _, es, e⟩
    · exact ⟨i, v, e, g⟩
    · obtain ⟨_, _, ⟨a, b, rfl, _⟩ | ⟨a, b, rfl, z⟩⟩ := stv_ow e
      · exact ⟨i, a, es, g⟩
      · cases z
  have bw : ∀ k, Own ρ π1 k → Own ρ (setOuts as outs π1) k := fun k ⟨i, v, e, g⟩ => by
    have z := setOuts_of (as := as) (outs := outs) e
    cases eo : outS as outs i with
    | none => rw [eo] at z; exact ⟨i, v, z, g⟩
    | some o => rw [eo] at z; exact ⟨i, o, z, g⟩
  refine ⟨rl.chg hc1 hc2 un (by simp [setOuts]) fw bw fun i s' e => ?_, ⟨un, fun k _ => fw k, fun i v e => ⟨rfl, ?_⟩, rfl, fun i v e => ⟨rfl, ?_⟩⟩⟩
  · rcases setOuts_at e with ⟨eo, e⟩ | ⟨o, s, eo, es, e⟩
    · by_cases im : isM s' = true
      · refine .inr ⟨s', e, im, ?_, ?_⟩
        · have nb : ∀ l, ρ[i]? = some (some (D.loc l)) → ¬ Bc as ρ l := fun l el ⟨p, i', ep, ei⟩ => by
            obtain ⟨s2, l2, es2, im2, el2, _⟩ := hs p i' ep
            by_cases z : i' = i
            · subst z
              obtain ⟨o', l', g1, _⟩ := ho p (by rw [List.getElem?_map, ep]; rfl)
              exact outS_ne ep g1 eo
            · exact rl.sep i' i s2 s' l z es2 im2 e im ei el
          have h1 : ∀ k, k < S1.length → OO B C' ρ π1 k → OO B C ρ π1 k := fun k lt z => z.elim .inl fun c => .inr (hc2 k lt c)
          have g := rl.slot i _ e
          cases s' with
          | sh _ => cases im
          | pk _ => cases im
          | ow v => obtain ⟨l, e1, c, _⟩ := g; exact ⟨l, e1, c.mv h1 un.h2 (u.un l c.lt (nb l e1))⟩
          | mu v => obtain ⟨l, e1, c, _⟩ := g; exact ⟨l, e1, c.mv h1 un.h2 (u.un l c.lt (nb l e1))⟩
        · cases s' with
          | sh _ => cases im
          | pk _ => cases im
          | ow v => exact .inl ⟨_, _, rfl, rfl⟩
          | mu v => exact .inr ⟨_, _, rfl, rfl⟩
      · exact .inl ⟨by simpa using im, e⟩
    · obtain ⟨im, ev, st⟩ := stv_ow e
      obtain ⟨s2, l, _, _, el, c⟩ := out_m eo
      exact .inr ⟨s, es, im, ⟨l, el, by rw [ev]; exact c.mv hX (fun _ _ _ => rfl) rfl⟩, st⟩
  · have z := setOuts_of (as := as) (outs := outs) e
    cases eo : outS as outs i with
    | none => rw [eo] at z; exact ⟨v, z⟩
    | some o => rw [eo] at z; exact ⟨o, z⟩
  · rcases setOuts_at e with ⟨_, e⟩ | ⟨o, s, _, es, e⟩
    · exact ⟨v, e⟩
    · obtain ⟨_, _, ⟨a, b, _, z⟩ | ⟨a, b, _, z⟩⟩ := stv_ow e <;> cases z
theorem own_outs {outs : List PV} (rl : Rel B C ρ S1 π1) {k : Nat} (h : Own ρ (setOuts as outs π1) k) : Own ρ π1 k := by
  obtain ⟨i, v, e, g⟩ := h
  rcases setOuts_at e with ⟨_, e⟩ | ⟨o, s, _, es, e⟩
  · exact ⟨i, v, e, g⟩
  · cases s with
    | sh _ => cases e
    | pk _ => cases e
    | ow w => exact ⟨i, w, es, g⟩
    | mu w => cases e
theorem e_run {run : G.Run} {P : PFn} {n : Nat} (hr : SR ms fm run P) (hl : EA fl as) (hm : as.map PA.am = ms) (ha : okA as = true) (hn : as.length = n) : E (if fm = true then .f else .v) (fRun n run fl) (qRun as P) := fun B C ρ S π rl =>
  (hl B C ρ S π rl).bind fun ds S1 vs π1 nx rl1 q => by
    subst hm
    show RR B C ρ S1 π1 (if ds.length = n then run ds S1 else .bad) (if mOk as π1 = true then match P vs with
      | .ok r outs => .ok r (setOuts as outs π1)
      | .exc c w outs => .exc c w (setOuts as outs π1)
      | .bad => .bad
      else .bad) _
    rw [if_pos (q.lens.2.trans hn)]
    by_cases mo : mOk as π1 = true
    · rw [if_pos mo]
      obtain ⟨hM, hO, _⟩ := call_frame rl1 mo
      have z := hr (Bc as ρ) (OO B C ρ π1) S1 vs ds hO (call_args rl1 mo ha q)
      have hX : ∀ k, OO B C ρ π1 k → BC (Bc as ρ) (OO B C ρ π1) k := fun k z => .inr z
      have hOo : ∀ {outs : List PV} {C' : Nat → Prop} (k : Nat), OO B C' ρ (setOuts as outs π1) k → OO B C' ρ π1 k := fun k z => z.elim (fun m => .inl (m.elim .inl fun o => .inr (own_outs rl1 o))) .inr
      cases e : P vs with
      | bad => trivial
      | exc c w outs =>
        rw [e] at z
        obtain ⟨d, S', e1, u, dw, ho⟩ := z
        obtain ⟨r2, n2⟩ := call_back (C' := C) rl1 mo ha q u ho (fun k _ z => hX k z) (fun k c => Nat.lt_of_lt_of_le (rl1.bc k (.inr c)) u.le) (fun _ _ c => c)
        exact ⟨d, S', e1, n2, r2, dw.mv (fun k _ z => hX k (hOo k z)) fun _ _ _ => rfl⟩
      | ok r outs =>
        rw [e] at z
        obtain ⟨d, S', e1, u, hf⟩ := z
        cases fm with
        | false =>
          obtain ⟨dr, ho⟩ := hf
          obtain ⟨r2, n2⟩ := call_back (C' := C) rl1 mo ha q u ho (fun k _ z => hX k z) (fun k c => Nat.lt_of_lt_of_le (rl1.bc k (.inr c)) u.le) (fun _ _ c => c)
          exact ⟨d, S', e1, n2, r2, Den.mv (fun k _ z => hX k (hOo k z)) (fun _ _ _ => rfl) dr⟩
        | true =>
          obtain ⟨l, el, ll, cv, ho⟩ := hf
          have ll' := cv.lt
          have hX2 : ∀ k, OO B (more C l) ρ π1 k → more (BC (Bc as ρ) (OO B C ρ π1)) l k := fun k z => z.elim (fun m => .inl (.inr (.inl m))) fun c => c.elim (fun c => .inl (.inr (.inr c))) .inr
          obtain ⟨r2, n2⟩ := call_back (C' := more C l) rl1 mo ha q u ho (fun k _ z => hX2 k z) (fun k c => c.elim (fun c => Nat.lt_of_lt_of_le (rl1.bc k (.inr c)) u.le) fun e => by subst e; exact ll') (fun k lt c => c.elim id fun e => absurd lt (by omega))
          refine ⟨d, S', e1, n2, r2.less, l, el, Nat.le_trans nx.un.le ll, r2, cv.mv (fun k _ z => hX2 k (hOo k z)) (fun _ _ _ => rfl) rfl, fun i w e g => ?_⟩
          obtain ⟨_, w', e2⟩ := n2.pk i w e
          obtain ⟨d', e3, _, n3⟩ := rl1.slot i _ e2
          rw [g] at e3; cases e3
          exact absurd (n3 l rfl).2 (by omega)
    · rw [if_neg mo]; trivial
theorem e_runV {run : G.Run} {P : PFn} {n : Nat} (hr : SR ms false run P) (hl : EA fl as) (hm : as.map PA.am = ms) (ha : okA as = true) (hn : as.length = n) : E .v (fRun n run fl) (qRun as P) := e_run hr hl hm ha hn
theorem e_runF {run : G.Run} {P : PFn} {n : Nat} (hr : SR ms true run P) (hl : EA fl as) (hm : as.map PA.am = ms) (ha : okA as = true) (hn : as.length = n) : E .f (fRun n run fl) (qRun as P) := e_run hr hl hm ha hn
end
end P

set_option maxRecDepth 100000
set_option maxHeartbeats 1000000
namespace P
open G
open L2 (atI ixN)
/-! # plain operations -/
def pI (g : Int → Int → PV) : PV → PV → Option PV
  | .int i, .int j => some (g i j)
  | _, _ => none
def pAdd : PV → PV → Option PV
  | .int i, .int j => some (.int (i + j))
  | .str i, .str j => if i.length + j.length ≤ PySem.sizeLine then some (.str (i ++ j)) else none
  | .tup xs, .tup ys => if xs.length + ys.length ≤ PySem.sizeLine then some (.tup (xs ++ ys)) else none
  | _, _ => none
def pAddL : PV → PV → Option PV
  | .lst xs, .lst ys => if xs.length + ys.length ≤ PySem.sizeLine then some (.lst (xs ++ ys)) else none
  | _, _ => none
def pSub (a b : PV) : Option PV := pI (fun i j => .int (i - j)) a b
def pMul : PV → PV → Option PV
  | .int i, .int j => if i.natAbs.log2 + j.natAbs.log2 < 1000000 then some (.int (i * j)) else none
  | .tup xs, .int k => if (1 ≤ k ∧ k ≤ 1000) ∧ xs.length ≤ 1000 then some (.tup (List.replicate k.toNat xs).flatten) else none
  | _, _ => none
def pDiv : PV → PV → Option PV
  | .int i, .int j => if 0 < j ∧ j.natAbs.log2 < 9000 then some (.int (i / j)) else none
  | _, _ => none
def pMod : PV → PV → Option PV
  | .int i, .int j => if 0 < j then some (.int (i % j)) else none
  | _, _ => none
def pPow : PV → PV → Option PV
  | .int i, .int j => if 0 ≤ j ∧ j ≤ 1000000 ∧ i.natAbs < 2 ^ 64 then some (.int (i ^ j.toNat)) else none
  | _, _ => none
def pNeg : PV → Option PV
  | .int i => some (.int (-i))
  | _ => none
def pyD : Nat → PV → Option PySem.PyData
  | 0, _ => none
  | _ + 1, .non => some .none
  | _ + 1, .bl b => some (.bool b)
  | _ + 1, .int i => some (.int i)
  | _ + 1, .str x => some (.str x)
  | n + 1, .tup xs => (xs.mapM (pyD n)).map .tuple
  | n + 1, .lst xs => (xs.mapM (pyD n)).map .list
  | _ + 1, _ => none
def pEqB (a b : PV) : Option Bool := match pyD 20 a, pyD 20 b with
  | some d, some e => if PySem.SeqAt.shaped d = true ∧ PySem.SeqAt.shaped e = true then some (PySem.PyData.eqv d e) else none
  | _, _ => none
def pEq (a b : PV) : Option PV := (pEqB a b).map .bl
def pNe (a b : PV) : Option PV := (pEqB a b).map fun z => .bl (!z)
def pInts : List PV → Option (List Int)
  | [] => some []
  | .int i :: r => (pInts r).map (i :: ·)
  | _ :: _ => none
def pLe : PV → PV → Option PV
  | .int i, .int j => some (.bl (decide (i ≤ j)))
  | .tup xs, .tup ys => match pInts xs, pInts ys with
    | some ns, some ms => some (.bl (leInts ns ms))
    | _, _ => none
  | _, _ => none
def pLt : PV → PV → Option PV
  | .int i, .int j => some (.bl (decide (i < j)))
  | .tup xs, .tup ys => match pInts xs, pInts ys with
    | some ns, some ms => some (.bl (HT.lexLt ns ms))
    | _, _ => none
  | _, _ => none
def pGt (a b : PV) : Option PV := pI (fun i j => .bl (decide (j < i))) a b
def pGe (a b : PV) : Option PV := pI (fun i j => .bl (decide (j ≤ i))) a b
def pNon : PV → Bool
  | .non => true
  | _ => false
def pIsN : PV → PV → Option PV
  | a, .non => some (.bl (pNon a))
  | _, _ => none
def pNotN : PV → PV → Option PV
  | a, .non => some (.bl (!pNon a))
  | _, _ => none
def pKey : PV → Option Key
  | .int i => some (.inl i)
  | .str z => some (.inr z)
  | _ => none
def pKeys : List PV → Option (List Key)
  | [] => some []
  | d :: ds => match pKey d, pKeys ds with
    | some k, some ks => some (k :: ks)
    | _, _ => none
def pInSeq (a : PV) (xs : List PV) : Option Bool := match pyD 20 a, xs.mapM (pyD 20) with
  | some d, some ds => if PySem.SeqAt.shaped d = true ∧ PySem.SeqAt.shaped (.list ds) = true then some (ds.any fun z => PySem.PyData.eqv z d) else none
  | _, _ => none
def pInB (a b : PV) : Option Bool := match b with
  | .tup xs => pInSeq a xs
  | .lst xs => pInSeq a xs
  | .dK ks _ => (pKey a).map fun k => ks.any fun k' => decide (k' = k)
  | .dT ks _ => match a with
    | .tup ys => (pKeys ys).map fun k => ks.any fun k' => decide (k' = k)
    | _ => none
  | _ => none
def pIn (a b : PV) : Option PV := (pInB a b).map .bl
def pNotIn (a b : PV) : Option PV := (pInB a b).map fun z => .bl (!z)
def pIx : PV → PV → Option PV
  | .tup xs, .int i => atI xs i
  | .lst xs, .int i => atI xs i
  | _, _ => none
section
variable {O : Nat → Prop} {S : Store}
theorem Top.isTup {vs : List PV} {d : D} (h : Top O S (.tup vs) d) : ∃ ds, d = .tup ds ∧ DenL O S vs ds := h.tup_inv
theorem op_pI (g : Int → Int → PV) (g' : Int → Int → D) (hg : ∀ i j O S, Den O S (g i j) (g' i j)) : OpV (iB g') (pI g) := fun O S a b x y v ha hb e => by
  cases a <;> first | (cases e; done) | skip
  cases b <;> first | (cases e; done) | skip
  cases e
  rw [ha.int_inv, hb.int_inv]
  exact ⟨_, S, rfl, Pre.refl, hg _ _ _ _⟩
theorem op_pSub : OpV dSub pSub := op_pI _ _ fun _ _ _ _ => Den.int
theorem op_pGt : OpV dGt pGt := op_pI _ _ fun _ _ _ _ => Den.bl
theorem op_pGe : OpV dGe pGe := op_pI _ _ fun _ _ _ _ => Den.bl
theorem op_pAdd : OpV dAdd pAdd := fun O S a b x y v ha hb e => by
  cases a <;> first | (cases e; done) | skip
  · cases b <;> first | (cases e; done) | skip
    cases e
    rw [ha.int_inv, hb.int_inv]
    exact ⟨_, S, rfl, Pre.refl, Den.int⟩
  · cases b <;> first | (cases e; done) | skip
    simp only [pAdd] at e
    split at e
    · cases e
      rw [ha.str_inv, hb.str_inv]
      exact ⟨_, S, if_pos ‹_›, Pre.refl, Den.str⟩
    · cases e
  · cases b <;> first | (cases e; done) | skip
    simp only [pAdd] at e
    split at e
    · cases e
      obtain ⟨ds, rfl, r⟩ := ha.tup_inv
      obtain ⟨es, rfl, r2⟩ := hb.tup_inv
      exact ⟨_, S, if_pos (by rw [r.len, r2.len]; assumption), Pre.refl, Den.tup (r.append r2)⟩
    · cases e
theorem op_pAddL : OpF dAdd pAddL := fun O S a b x y v ha hb e => by
  cases a <;> first | (cases e; done) | skip
  cases b <;> first | (cases e; done) | skip
  simp only [pAddL] at e
  split at e
  · cases e
    obtain ⟨l, rfl, ds, g, r⟩ := ha.lst_inv
    obtain ⟨l2, rfl, es, g2, r2⟩ := hb.lst_inv
    exact ⟨_, by simp only [dAdd, g, g2]; rw [if_pos (by rw [r.len, r2.len]; assumption)], fun O' ho => cell_lst (r.append r2) ho⟩
  · cases e
theorem op_pMul : OpV dMul pMul := fun O S a b x y v ha hb e => by
  cases a <;> first | (cases e; done) | skip
  · cases b <;> first | (cases e; done) | skip
    simp only [pMul] at e
    split at e
    · cases e
      rw [ha.int_inv, hb.int_inv]
      exact ⟨_, S, if_pos ‹_›, Pre.refl, Den.int⟩
    · cases e
  · cases b <;> first | (cases e; done) | skip
    simp only [pMul] at e
    obtain ⟨ds, rfl, r⟩ := ha.tup_inv
    rw [hb.int_inv]
    split at e
    · cases e
      exact ⟨_, S, by simp only [dMul]; rw [if_pos (by rw [r.len]; assumption)], Pre.refl, Den.tup (r.rep _)⟩
    · cases e
theorem op_pDiv : OpV dDiv pDiv := fun O S a b x y v ha hb e => by
  cases a <;> first | (cases e; done) | skip
  cases b <;> first | (cases e; done) | skip
  simp only [pDiv] at e
  split at e
  · cases e
    rw [ha.int_inv, hb.int_inv]
    exact ⟨_, S, if_pos ‹_›, Pre.refl, Den.int⟩
  · cases e
theorem op_pMod : OpV dMod pMod := fun O S a b x y v ha hb e => by
  cases a <;> first | (cases e; done) | skip
  cases b <;> first | (cases e; done) | skip
  simp only [pMod] at e
  split at e
  · cases e
    rw [ha.int_inv, hb.int_inv]
    exact ⟨_, S, if_pos ‹_›, Pre.refl, Den.int⟩
  · cases e
theorem op_pPow : OpV dPow pPow := fun O S a b x y v ha hb e => by
  cases a <;> first | (cases e; done) | skip
  cases b <;> first | (cases e; done) | skip
  simp only [pPow] at e
  split at e
  · cases e
    rw [ha.int_inv, hb.int_inv]
    exact ⟨_, S, if_pos ‹_›, Pre.refl, Den.int⟩
  · cases e
theorem op_pNeg : C1V dNeg pNeg := fun O S a x v ha e => by
  cases a <;> first | (cases e; done) | skip
  cases e
  rw [ha.int_inv]
  exact ⟨_, S, rfl, Pre.refl, Den.int⟩
theorem mapM_len {α β : Type} {f : α → Option β} : ∀ {xs : List α} {ys : List β}, xs.mapM f = some ys → ys.length = xs.length
  | [], ys, e => by simp at e; subst e; rfl
  | x :: xs, ys, e => by
    rw [List.mapM_cons] at e
    cases e1 : f x with
    | none => rw [e1] at e; cases e
    | some y =>
      rw [e1] at e
      cases e2 : xs.mapM f with
      | none => rw [e2] at e; cases e
      | some zs => rw [e2] at e; cases e; simp [mapM_len e2]
theorem pyL_ok {n : Nat} (ih : ∀ {v : PV} {d : D} {p : PySem.PyData}, Den O S v d → pyD n v = some p → pyOf n S d = some p) : ∀ {vs : List PV} {ds : List D} {ps : List PySem.PyData}, DenL O S vs ds → vs.mapM (pyD n) = some ps → ds.mapM (pyOf n S) = some ps
  | [], _, _, h, e => by rw [h.nil_inv]; simpa using e
  | v :: vs, _, ps, h, e => by
    obtain ⟨d, ds', rfl, q, r⟩ := h.cons_inv
    rw [List.mapM_cons] at e ⊢
    cases e1 : pyD n v with
    | none => rw [e1] at e; cases e
    | some y =>
      rw [e1] at e
      cases e2 : vs.mapM (pyD n) with
      | none => rw [e2] at e; cases e
      | some zs => rw [e2] at e; cases e; rw [ih q e1, pyL_ok ih r e2]; rfl
theorem py_ok : ∀ (n : Nat) {v : PV} {d : D} {p : PySem.PyData}, Top O S v d → pyD n v = some p → pyOf n S d = some p
  | 0, _, _, _, _, e => by cases e
  | n + 1, v, d, p, h, e => by
    cases v with
    | non => rw [h.non_inv]; exact e
    | bl b => rw [h.bl_inv]; exact e
    | int b => rw [h.int_inv]; exact e
    | str b => rw [h.str_inv]; exact e
    | dK _ _ => cases e
    | dT _ _ => cases e
    | tup vs =>
      obtain ⟨ds, rfl, r⟩ := h.tup_inv
      simp only [pyD] at e
      cases e2 : vs.mapM (pyD n) with
      | none => rw [e2] at e; cases e
      | some zs => rw [e2] at e; simp only [pyOf]; rw [pyL_ok (fun q => py_ok n q.top) r e2]; exact e
    | lst vs =>
      obtain ⟨l, rfl, ds, g, r⟩ := h.lst_inv
      simp only [pyD] at e
      cases e2 : vs.mapM (pyD n) with
      | none => rw [e2] at e; cases e
      | some zs => rw [e2] at e; simp only [pyOf, g]; rw [pyL_ok (fun q => py_ok n q.top) r e2]; exact e
theorem eqB_ok {a b : PV} {x y : D} {z : Bool} (ha : Top O S a x) (hb : Top O S b y) (e : pEqB a b = some z) : dEqB x y S = some z := by
  unfold pEqB at e
  unfold dEqB
  cases e1 : pyD 20 a with
  | none => rw [e1] at e; cases e
  | some p =>
    cases e2 : pyD 20 b with
    | none => rw [e1, e2] at e; cases e
    | some q => rw [e1, e2] at e; rw [py_ok 20 ha e1, py_ok 20 hb e2]; exact e
theorem op_pEq : OpV dEq pEq := fun O S a b x y v ha hb e => by
  unfold pEq at e
  cases e1 : pEqB a b with
  | none => rw [e1] at e; cases e
  | some z => rw [e1] at e; cases e; exact ⟨_, S, by unfold dEq; rw [eqB_ok ha hb e1]; rfl, Pre.refl, Den.bl⟩
theorem op_pNe : OpV dNe pNe := fun O S a b x y v ha hb e => by
  unfold pNe at e
  cases e1 : pEqB a b with
  | none => rw [e1] at e; cases e
  | some z => rw [e1] at e; cases e; exact ⟨_, S, by unfold dNe; rw [eqB_ok ha hb e1]; rfl, Pre.refl, Den.bl⟩
theorem ints_ok : ∀ {vs : List PV} {ds : List D} {ns : List Int}, DenL O S vs ds → pInts vs = some ns → intsOf ds = some ns
  | [], _, _, h, e => by rw [h.nil_inv]; exact e
  | v :: vs, _, ns, h, e => by
    obtain ⟨d, ds', rfl, q, r⟩ := h.cons_inv
    cases v <;> first | (cases e; done) | skip
    rw [q.int_inv]
    simp only [pInts] at e
    cases e1 : pInts vs with
    | none => rw [e1] at e; cases e
    | some ms => rw [e1] at e; simp only [intsOf]; rw [ints_ok r e1]; exact e
theorem op_pLe : OpV dLe pLe := fun O S a b x y v ha hb e => by
  cases a <;> first | (cases e; done) | skip
  · cases b <;> first | (cases e; done) | skip
    cases e
    rw [ha.int_inv, hb.int_inv]
    exact ⟨_, S, rfl, Pre.refl, Den.bl⟩
  · cases b <;> first | (cases e; done) | skip
    obtain ⟨ds, rfl, r⟩ := ha.tup_inv
    obtain ⟨es, rfl, r2⟩ := hb.tup_inv
    simp only [pLe] at e
    split at e
    · cases e
      exact ⟨_, S, by simp only [dLe]; rw [ints_ok r ‹_›, ints_ok r2 ‹_›], Pre.refl, Den.bl⟩
    · cases e
theorem op_pLt : OpV dLt pLt := fun O S a b x y v ha hb e => by
  cases a <;> first | (cases e; done) | skip
  · cases b <;> first | (cases e; done) | skip
    cases e
    rw [ha.int_inv, hb.int_inv]
    exact ⟨_, S, rfl, Pre.refl, Den.bl⟩
  · cases b <;> first | (cases e; done) | skip
    obtain ⟨ds, rfl, r⟩ := ha.tup_inv
    obtain ⟨es, rfl, r2⟩ := hb.tup_inv
    simp only [pLt] at e
    split at e
    · cases e
      exact ⟨_, S, by simp only [dLt]; rw [ints_ok r ‹_›, ints_ok r2 ‹_›], Pre.refl, Den.bl⟩
    · cases e
theorem isNon_ok {a : PV} {x : D} (h : Top O S a x) : G.isNon x = pNon a := by
  cases a with
  | non => rw [h.non_inv]; rfl
  | bl b => rw [h.bl_inv]; rfl
  | int b => rw [h.int_inv]; rfl
  | str b => rw [h.str_inv]; rfl
  | tup vs => obtain ⟨ds, rfl, r⟩ := h.tup_inv; rfl
  | lst vs => obtain ⟨l, rfl, _⟩ := h.lst_inv; rfl
  | dK ks vs => obtain ⟨l, rfl, _⟩ := h.dK_inv; rfl
  | dT ks vs => obtain ⟨l, rfl, _⟩ := h.dT_inv; rfl
theorem op_pIsN : OpV dIsN pIsN := fun O S a b x y v ha hb e => by
  cases b <;> first | (cases e; done) | skip
  cases e
  rw [hb.non_inv]
  exact ⟨_, S, by simp only [dIsN]; rw [isNon_ok ha], Pre.refl, Den.bl⟩
theorem op_pNotN : OpV dNotN pNotN := fun O S a b x y v ha hb e => by
  cases b <;> first | (cases e; done) | skip
  cases e
  rw [hb.non_inv]
  exact ⟨_, S, by simp only [dNotN]; rw [isNon_ok ha], Pre.refl, Den.bl⟩
theorem key_ok {v : PV} {d : D} {k : Key} (h : Den O S v d) (e : pKey v = some k) : keyOf d = some k := by
  cases v <;> first | (cases e; done) | skip
  · rw [h.int_inv]; exact e
  · rw [h.str_inv]; exact e
theorem keys_ok : ∀ {vs : List PV} {ds : List D} {ns : List Key}, DenL O S vs ds → pKeys vs = some ns → keysOf ds = some ns
  | [], _, _, h, e => by rw [h.nil_inv]; exact e
  | v :: vs, _, ns, h, e => by
    obtain ⟨d, ds', rfl, q, r⟩ := h.cons_inv
    simp only [pKeys] at e
    cases e1 : pKey v with
    | none => rw [e1] at e; cases e
    | some k =>
      cases e2 : pKeys vs with
      | none => rw [e1, e2] at e; cases e
      | some ks => rw [e1, e2] at e; simp only [keysOf]; rw [key_ok q e1, keys_ok r e2]; exact e
theorem inSeq_ok {a : PV} {x : D} {vs : List PV} {ds : List D} {z : Bool} (h : Top O S a x) (r : DenL O S vs ds) (e : pInSeq a vs = some z) : inSeq x ds S = some z := by
  unfold pInSeq at e
  unfold inSeq
  cases e1 : pyD 20 a with
  | none => rw [e1] at e; cases e
  | some p =>
    cases e2 : vs.mapM (pyD 20) with
    | none => rw [e1, e2] at e; cases e
    | some q => rw [e1, e2] at e; rw [py_ok 20 h e1, pyL_ok (fun q => py_ok 20 q.top) r e2]; exact e
theorem any_fst {κ α : Type} [DecidableEq κ] {es : List (κ × α)} {k : κ} : (es.any fun kv => decide (kv.1 = k)) = (es.map Prod.fst).any fun k' => decide (k' = k) := by rw [List.any_map]; rfl
theorem inB_ok {a b : PV} {x y : D} {z : Bool} (ha : Top O S a x) (hb : Top O S b y) (e : pInB a b = some z) : inB x y S = some z := by
  cases b <;> first | (cases e; done) | skip
  · obtain ⟨ds, rfl, r⟩ := hb.tup_inv
    exact inSeq_ok ha r e
  · obtain ⟨l, rfl, ds, g, r⟩ := hb.lst_inv
    simp only [inB, g]
    exact inSeq_ok ha r e
  · obtain ⟨l, rfl, es, g, q, r⟩ := hb.dK_inv
    simp only [inB, g]
    simp only [pInB] at e
    cases e1 : pKey a with
    | none => rw [e1] at e; cases e
    | some k =>
      rw [e1] at e; cases e
      have ha' : Den O S a x := by cases a <;> first | (cases e1; done) | exact ha
      rw [key_ok ha' e1]
      subst q
      simp only [Option.map_some, any_fst]
  · obtain ⟨l, rfl, es, g, q, r⟩ := hb.dT_inv
    simp only [pInB] at e
    cases a <;> first | (cases e; done) | skip
    obtain ⟨ds, rfl, r1⟩ := ha.tup_inv
    simp only [inB, g]
    rename_i ys
    cases e1 : pKeys ys with
    | none => simp only [e1] at e; cases e
    | some k =>
      simp only [e1] at e; cases e
      rw [keys_ok r1 e1]
      subst q
      simp only [Option.map_some, any_fst]
theorem op_pIn : OpV dIn pIn := fun O S a b x y v ha hb e => by
  unfold pIn at e
  cases e1 : pInB a b with
  | none => rw [e1] at e; cases e
  | some z => rw [e1] at e; cases e; exact ⟨_, S, by unfold dIn; rw [inB_ok ha hb e1]; rfl, Pre.refl, Den.bl⟩
theorem op_pNotIn : OpV dNotIn pNotIn := fun O S a b x y v ha hb e => by
  unfold pNotIn at e
  cases e1 : pInB a b with
  | none => rw [e1] at e; cases e
  | some z => rw [e1] at e; cases e; exact ⟨_, S, by unfold dNotIn; rw [inB_ok ha hb e1]; rfl, Pre.refl, Den.bl⟩
theorem atI_ok {vs : List PV} {ds : List D} {i : Int} {v : PV} (r : DenL O S vs ds) (e : atI vs i = some v) : ∃ d, atI ds i = some d ∧ Den O S v d := by
  unfold atI at e ⊢
  rw [r.len]
  cases e1 : ixN vs.length i with
  | none => rw [e1] at e; cases e
  | some k => rw [e1] at e; exact r.get e
theorem op_pIx : OpV dIx pIx := fun O S a b x y v ha hb e => by
  cases a <;> first | (cases e; done) | skip
  · cases b <;> first | (cases e; done) | skip
    obtain ⟨ds, rfl, r⟩ := ha.tup_inv
    rw [hb.int_inv]
    obtain ⟨d, e1, q⟩ := atI_ok r e
    exact ⟨d, S, by simp only [dIx]; rw [e1]; rfl, Pre.refl, q⟩
  · cases b <;> first | (cases e; done) | skip
    obtain ⟨l, rfl, ds, g, r⟩ := ha.lst_inv
    rw [hb.int_inv]
    obtain ⟨d, e1, q⟩ := atI_ok r e
    exact ⟨d, S, by simp only [dIx, g]; rw [e1]; rfl, Pre.refl, q⟩
end
end P

set_option maxRecDepth 100000
set_option maxHeartbeats 1000000
namespace P
open G
open L2 (atI ixN)
/-! # slices, built-ins, methods, stores -/
def EO (f : FO) (p : PX (Option Int)) : Prop := ∀ B C ρ S π, Rel B C ρ S π → RR B C ρ S π (f ρ S) (p π) fun b _ b' _ => b = b'
def qNo : PX (Option Int) := fun π => .ok none π
def pOI : PV → Option (Option Int)
  | .int i => some (some i)
  | _ => none
def qSo (p : PX PV) : PX (Option Int) := fun π => (p π).bind fun v π1 => ofP (pOI v) π1
def pCut (xs : List PV) (lo hi : Option Int) : List PV := (xs.drop (HT.sIx xs.length 0 lo)).take (HT.sIx xs.length xs.length hi - HT.sIx xs.length 0 lo)
def pSlT : PV → Option Int → Option Int → Option PV
  | .tup xs, lo, hi => some (.tup (pCut xs lo hi))
  | _, _, _ => none
def pSlL : PV → Option Int → Option Int → Option PV
  | .lst xs, lo, hi => some (.lst (pCut xs lo hi))
  | _, _, _ => none
def qSl (g : PV → Option Int → Option Int → Option PV) (p : PX PV) (lo hi : PX (Option Int)) : PX PV := fun π => (p π).bind fun v π1 => (lo π1).bind fun l π2 => (hi π2).bind fun h π3 => ofP (g v l h) π3
def pRevT : PV → Option PV
  | .tup xs => some (.tup xs.reverse)
  | _ => none
def pRevL : PV → Option PV
  | .lst xs => some (.lst xs.reverse)
  | _ => none
def pTy : PV → String
  | .non => "NoneType"
  | .bl _ => "bool"
  | .int _ => "int"
  | .str _ => "str"
  | .tup _ => "tuple"
  | .lst _ => "list"
  | .dK _ _ => "dict"
  | .dT _ _ => "dict"
def qIsT (t : String) (p : PX PV) : PX PV := fun π => (p π).bind fun v π1 => .ok (.bl (isTy t (pTy v))) π1
def pLen : PV → Option PV
  | .tup xs => some (.int xs.length)
  | .lst xs => some (.int xs.length)
  | .str z => if z.length ≤ PySem.sizeLine then some (.int z.length) else none
  | .dK ks _ => some (.int ks.length)
  | .dT ks _ => some (.int ks.length)
  | _ => none
def pInt : PV → Option PV
  | .int i => some (.int i)
  | .bl b => some (.int (if b = true then 1 else 0))
  | _ => none
def pMax2 : List PV → Option PV
  | [.int i, .int j] => some (.int (maxI i j))
  | _ => none
def pMax1 : PV → Option PV
  | .lst xs => match pInts xs with
    | some ns => if 0 < ns.length then some (.int (maxL ns)) else none
    | none => none
  | _ => none
def pMaxD : PV → Option PV
  | .lst xs => match pInts xs with
    | some ns => some (.int (if ns = [] then 0 else maxL ns))
    | none => none
  | _ => none
def pTup : PV → Option PV
  | .tup xs => some (.tup xs)
  | .lst xs => some (.tup xs)
  | _ => none
def pLst : PV → Option PV
  | .tup xs => some (.lst xs)
  | .lst xs => some (.lst xs)
  | _ => none
def pKeyV : Key → PV
  | .inl i => .int i
  | .inr z => .str z
def pSeqOf : PV → Option (List PV)
  | .tup xs => some xs
  | .lst xs => some xs
  | .dT ks _ => some (ks.map fun k => .tup (k.map pKeyV))
  | _ => none
def pEnc (v : PV) : PySem.PyData := (pyD 20 v).getD .none
def pSortOk (xs : List PV) : Bool :=
  (xs.all fun x => (pyD 20 x).isSome && decide ((pEnc x).depth ≤ 40)) && (xs.all fun x => xs.all fun y => PySem.W.alike (pEnc x) (pEnc y)) &&
    ((xs.all fun x => match pEnc x with | .tuple (_ :: _) => true | _ => false) || xs.all fun x => match pEnc x with | .none => false | .tuple _ => false | _ => true) && decide (xs.length ≤ PySem.sizeLine)
def pSort (xs : List PV) : List PV := xs.mergeSort (PySem.W.dataLe false pEnc)
def pSorted (v : PV) : Option PV := match pSeqOf v with
  | some xs => if pSortOk xs = true then some (.lst (pSort xs)) else none
  | none => none
def pStrs : List PV → Option (List PySem.Str)
  | [] => some []
  | .str i :: r => (pStrs r).map (i :: ·)
  | _ :: _ => none
def pJoin : PV → PV → Option PV
  | .str a, .lst xs => match pStrs xs with
    | some ys => if (ys.map (·.length)).sum + ys.length * a.length ≤ 16777216 then some (.str (PySem.Txt.join a ys)) else none
    | none => none
  | _, _ => none
def qJoin (a p : PX PV) : PX PV := fun π => (a π).bind fun x π1 => match x with
  | .str z => (p π1).bind fun v π2 => ofP (pJoin (.str z) v) π2
  | _ => .bad
def pPut {κ : Type} [DecidableEq κ] : List κ → List PV → κ → PV → Option (List κ × List PV)
  | [], [], k, v => some ([k], [v])
  | k' :: ks, w :: ws, k, v => if k' = k then some (k' :: ks, v :: ws) else (pPut ks ws k v).map fun r => (k' :: r.1, w :: r.2)
  | _, _, _, _ => none
def pPutD {κ : Type} [DecidableEq κ] (ks : List κ) (vs : List PV) (k : κ) (v : PV) : List κ × List PV :=
  if (ks.any fun k' => decide (k' = k)) = true then (ks, List.zipWith (fun k' w => if k' = k then v else w) ks vs) else (ks ++ [k], vs ++ [v])
def pSet : PV → PV → PV → Option PV
  | .lst xs, .int k, v => (ixN xs.length k).map fun j => .lst (xs.set j v)
  | .dK ks vs, i, v => match pKey i with
    | some k => if ks.length < PySem.sizeLine then some (.dK (pPutD ks vs k v).1 (pPutD ks vs k v).2) else none
    | none => none
  | .dT ks vs, .tup ys, v => match pKeys ys with
    | some k => if ks.length < PySem.sizeLine then some (.dT (pPutD ks vs k v).1 (pPutD ks vs k v).2) else none
    | none => none
  | _, _, _ => none
def pAppend : PV → PV → Option (PV × PV)
  | .lst xs, v => if xs.length < PySem.sizeLine then some (.non, .lst (xs ++ [v])) else none
  | _, _ => none
def pExtend : PV → PV → Option (PV × PV)
  | .lst xs, .lst ys => if xs.length + ys.length ≤ PySem.sizeLine then some (.non, .lst (xs ++ ys)) else none
  | _, _ => none
def pPop : PV → Option (PV × PV)
  | .lst xs => match xs[xs.length - 1]? with
    | some y => some (y, .lst xs.dropLast)
    | none => none
  | _ => none
def qNewT : PX PV := fun π => .ok (.dT [] []) π
def qNewK : PX PV := fun π => .ok (.dK [] []) π
section
variable {O : Nat → Prop} {S : Store} {fa fb : F} {pa pb : PX PV}
theorem o_no : EO oNo qNo := fun B C ρ S π rl => RR.here rl rfl
theorem o_so (h : E .v fa pa) : EO (oSo fa) (qSo pa) := fun B C ρ S π rl => (h B C ρ S π rl).bind fun a S1 b π1 nx rl1 q => RR.ofP rl1 fun v e => by
  cases b <;> first | (cases e; done) | skip
  cases e
  have := q.d_.int_inv; subst this
  exact ⟨_, S1, rfl, Pre.refl, rfl⟩
theorem cut_ok {vs : List PV} {ds : List D} (r : DenL O S vs ds) (lo hi : Option Int) : DenL O S (pCut vs lo hi) (cutD ds lo hi) := by
  unfold pCut cutD
  rw [r.len]
  exact (r.drop _).take _
theorem e_slT {lo hi : FO} {pl ph : PX (Option Int)} (h : E .v fa pa) (hl : EO lo pl) (hh : EO hi ph) : E .v (fSl fa lo hi) (qSl pSlT pa pl ph) := fun B C ρ S π rl =>
  (h B C ρ S π rl).bind fun a S1 b π1 nx rl1 q => (hl B C ρ S1 π1 rl1).bind fun l S2 l' π2 nx2 rl2 e2 => (hh B C ρ S2 π2 rl2).bind fun h S3 h' π3 nx3 rl3 e3 => RR.ofP rl3 fun v e => by
    subst e2; subst e3
    cases b <;> first | (cases e; done) | skip
    cases e
    obtain ⟨ds, rfl, r⟩ := Den.tup_inv (nx3.den (nx2.den q))
    exact ⟨_, S3, rfl, Pre.refl, Den.tup (cut_ok r _ _)⟩
theorem e_slL {lo hi : FO} {pl ph : PX (Option Int)} (h : E .v fa pa) (hl : EO lo pl) (hh : EO hi ph) : E .f (fSl fa lo hi) (qSl pSlL pa pl ph) := fun B C ρ S π rl =>
  (h B C ρ S π rl).bind fun a S1 b π1 nx rl1 q => (hl B C ρ S1 π1 rl1).bind fun l S2 l' π2 nx2 rl2 e2 => (hh B C ρ S2 π2 rl2).bind fun h S3 h' π3 nx3 rl3 e3 => RR.ofP rl3 fun v e => by
    subst e2; subst e3
    cases b <;> first | (cases e; done) | skip
    cases e
    obtain ⟨l, rfl, no, ds, g, r⟩ := Den.lst_inv (nx3.den (nx2.den q))
    exact ⟨_, _, by simp only [dSl, g]; rfl, Pre.app _ _, QM.sub (md := .f) (QF.of rl3 fun O ho => cell_lst (cut_ok r _ _) ho) (Nat.le_trans nx.un.le (Nat.le_trans nx2.un.le nx3.un.le))⟩
theorem e_revT (h : E .k fa pa) : E .v (fRev fa) (qU pRevT pa) := fun B C ρ S π rl =>
  (h B C ρ S π rl).bind fun a S1 b π1 nx rl1 q => RR.ofP rl1 fun v e => by
    cases b <;> first | (cases e; done) | skip
    cases e
    obtain ⟨ds, rfl, r⟩ := Top.tup_inv q
    exact ⟨_, S1, rfl, Pre.refl, Den.tup r.reverse⟩
theorem e_revL (h : E .k fa pa) : E .f (fRev fa) (qU pRevL pa) := fun B C ρ S π rl =>
  (h B C ρ S π rl).bind fun a S1 b π1 nx rl1 q => RR.ofP rl1 fun v e => by
    cases b <;> first | (cases e; done) | skip
    cases e
    obtain ⟨l, rfl, ds, g, r⟩ := Top.lst_inv q
    exact ⟨_, _, by simp only [dRev, g]; rfl, Pre.app _ _, QM.sub (md := .f) (QF.of rl1 fun O ho => cell_lst r.reverse ho) nx.un.le⟩
theorem ty_ok {v : PV} {d : D} (h : Top O S v d) : tyN d S = some (pTy v) := by
  cases v with
  | non => rw [h.non_inv]; rfl
  | bl b => rw [h.bl_inv]; rfl
  | int b => rw [h.int_inv]; rfl
  | str b => rw [h.str_inv]; rfl
  | tup vs => obtain ⟨ds, rfl, r⟩ := h.tup_inv; rfl
  | lst vs => obtain ⟨l, rfl, ds, g, _⟩ := h.lst_inv; simp only [tyN, g, pTy]
  | dK ks vs => obtain ⟨l, rfl, ds, g, _⟩ := h.dK_inv; simp only [tyN, g, pTy]
  | dT ks vs => obtain ⟨l, rfl, ds, g, _⟩ := h.dT_inv; simp only [tyN, g, pTy]
theorem e_isT (t : String) (h : E .k fa pa) : E .v (fIsT t fa) (qIsT t pa) := fun B C ρ S π rl =>
  (h B C ρ S π rl).bind fun a S1 b π1 nx rl1 q => by
    rw [ty_ok q]
    exact RR.here rl1 (QM.v_ Den.bl)
theorem c_len : C1V (fun x => cLen [x]) pLen := fun O S a x v h e => by
  cases a <;> first | (cases e; done) | skip
  · rename_i z
    rw [h.str_inv]
    simp only [pLen] at e
    split at e
    · cases e; exact ⟨_, S, if_pos ‹_›, Pre.refl, Den.int⟩
    · cases e
  · obtain ⟨ds, rfl, r⟩ := h.tup_inv
    cases e
    exact ⟨_, S, rfl, Pre.refl, by rw [r.len]; exact Den.int⟩
  · obtain ⟨l, rfl, ds, g, r⟩ := h.lst_inv
    cases e
    exact ⟨.int ds.length, S, by simp only [cLen, g], Pre.refl, by rw [r.len]; exact Den.int⟩
  · obtain ⟨l, rfl, ds, g, q, r⟩ := h.dK_inv
    cases e
    exact ⟨.int ds.length, S, by simp only [cLen, g], Pre.refl, by subst q; rw [List.length_map]; exact Den.int⟩
  · obtain ⟨l, rfl, ds, g, q, r⟩ := h.dT_inv
    cases e
    exact ⟨.int ds.length, S, by simp only [cLen, g], Pre.refl, by subst q; rw [List.length_map]; exact Den.int⟩
theorem c_int : C1V (fun x => cInt [x]) pInt := fun O S a x v h e => by
  cases a <;> first | (cases e; done) | skip
  · rw [h.bl_inv]; cases e; exact ⟨_, S, rfl, Pre.refl, Den.int⟩
  · rw [h.int_inv]; cases e; exact ⟨_, S, rfl, Pre.refl, Den.int⟩
theorem c_max2 : CaV cMax pMax2 := fun O S a x v h e => by
  match a, h, e with
  | [.int i, .int j], h, e =>
    cases e
    obtain ⟨d, ds, rfl, q, r⟩ := h.cons_inv
    obtain ⟨d2, ds2, rfl, q2, r2⟩ := r.cons_inv
    have := r2.nil_inv; subst this
    rw [q.int_inv, q2.int_inv]
    exact ⟨_, S, rfl, Pre.refl, Den.int⟩
theorem c_max1 : C1V (fun x => cMax [x]) pMax1 := fun O S a x v h e => by
  cases a <;> first | (cases e; done) | skip
  obtain ⟨l, rfl, ds, g, r⟩ := h.lst_inv
  simp only [pMax1] at e
  split at e
  · split at e
    · cases e
      exact ⟨_, S, by simp only [cMax, g]; rw [ints_ok r ‹_›]; simp only; rw [if_pos ‹_›], Pre.refl, Den.int⟩
    · cases e
  · cases e
theorem c_maxD : C1V dMaxD pMaxD := fun O S a x v h e => by
  cases a <;> first | (cases e; done) | skip
  obtain ⟨l, rfl, ds, g, r⟩ := h.lst_inv
  simp only [pMaxD] at e
  split at e
  · cases e
    exact ⟨_, S, by simp only [dMaxD, g]; rw [ints_ok r ‹_›], Pre.refl, Den.int⟩
  · cases e
theorem e_maxD (h : E .k fa pa) : E .v (fMaxD fa) (qU pMaxD pa) := e_u (g := dMaxD) c_maxD h
theorem c_tup : C1V (fun x => cTuple [x]) pTup := fun O S a x v h e => by
  cases a <;> first | (cases e; done) | skip
  · obtain ⟨ds, rfl, r⟩ := h.tup_inv
    cases e
    exact ⟨_, S, rfl, Pre.refl, Den.tup r⟩
  · obtain ⟨l, rfl, ds, g, r⟩ := h.lst_inv
    cases e
    exact ⟨_, S, by simp only [cTuple, g], Pre.refl, Den.tup r⟩
theorem c_lst : C1F (fun x => cList [x]) pLst := fun O S a x v h e => by
  cases a <;> first | (cases e; done) | skip
  · obtain ⟨ds, rfl, r⟩ := h.tup_inv
    cases e
    exact ⟨_, rfl, fun O' ho => cell_lst r ho⟩
  · obtain ⟨l, rfl, ds, g, r⟩ := h.lst_inv
    cases e
    exact ⟨_, by simp only [cList, g], fun O' ho => cell_lst r ho⟩
theorem keyD_ok : ∀ (ks : List Key), DenL O S (ks.map pKeyV) (ks.map keyD)
  | [] => DenL.nil
  | .inl i :: ks => DenL.cons Den.int (keyD_ok ks)
  | .inr i :: ks => DenL.cons Den.str (keyD_ok ks)
theorem seq_ok {v : PV} {d : D} {vs : List PV} (h : Top O S v d) (e : pSeqOf v = some vs) : ∃ ds, seqOf d S = some ds ∧ DenL O S vs ds := by
  cases v <;> first | (cases e; done) | skip
  · obtain ⟨ds, rfl, r⟩ := h.tup_inv; cases e; exact ⟨ds, rfl, r⟩
  · obtain ⟨l, rfl, ds, g, r⟩ := h.lst_inv; cases e; exact ⟨ds, by simp only [seqOf, g], r⟩
  · obtain ⟨l, rfl, es, g, q, r⟩ := h.dT_inv
    cases e
    refine ⟨es.map fun kv => .tup (kv.1.map keyD), by simp only [seqOf, g], ?_⟩
    subst q
    clear g r h
    rw [List.map_map]
    induction es with
    | nil => exact DenL.nil
    | cons kv es ih => exact DenL.cons (Den.tup (keyD_ok _)) (by simpa using ih)
theorem zip_den : ∀ {vs : List PV} {ds : List D}, DenL O S vs ds → ∃ zs : List (PV × D), zs.map Prod.fst = vs ∧ zs.map Prod.snd = ds ∧ ∀ z ∈ zs, Den O S z.1 z.2
  | [], _, h => ⟨[], rfl, by rw [h.nil_inv]; rfl, by simp⟩
  | v :: vs, _, h => by
    obtain ⟨d, ds', rfl, q, r⟩ := h.cons_inv
    obtain ⟨zs, h1, h2, h3⟩ := zip_den r
    exact ⟨(v, d) :: zs, by simp [h1], by simp [h2], fun z hz => (List.mem_cons.mp hz).elim (fun e => by subst e; exact q) (h3 z)⟩
theorem den_zip : ∀ {zs : List (PV × D)}, (∀ z ∈ zs, Den O S z.1 z.2) → DenL O S (zs.map Prod.fst) (zs.map Prod.snd)
  | [], _ => DenL.nil
  | z :: zs, h => DenL.cons (h z List.mem_cons_self) (den_zip fun z hz => h z (List.mem_cons_of_mem _ hz))
theorem enc_ok {v : PV} {d : D} (h : Den O S v d) (e : (pyD 20 v).isSome = true) : encOf S d = pEnc v ∧ (pyOf 20 S d).isSome = true := by
  obtain ⟨p, e⟩ := Option.isSome_iff_exists.mp e
  have := py_ok 20 h.top e
  unfold encOf pEnc
  rw [this, e]; exact ⟨rfl, rfl⟩
theorem sort_ok {vs : List PV} {ds : List D} (r : DenL O S vs ds) (e : pSortOk vs = true) : sortOk S ds = true ∧ DenL O S (pSort vs) (ds.mergeSort (PySem.W.dataLe false (encOf S))) := by
  obtain ⟨zs, rfl, rfl, hz⟩ := zip_den r
  have e0 := e
  unfold pSortOk at e
  simp only [Bool.and_eq_true] at e
  obtain ⟨⟨⟨e1, e2⟩, e3⟩, e4⟩ := e
  have hs : ∀ z ∈ zs, (pyD 20 z.1).isSome = true := fun z h => by
    have := List.all_eq_true.mp e1 z.1 (List.mem_map.mpr ⟨z, h, rfl⟩)
    simp only [Bool.and_eq_true] at this
    exact this.1
  have he : ∀ z ∈ zs, encOf S z.2 = pEnc z.1 ∧ (pyOf 20 S z.2).isSome = true := fun z h => enc_ok (hz z h) (hs z h)
  refine ⟨?_, ?_⟩
  · unfold sortOk
    have a1 : (zs.map Prod.snd).all (fun x => (pyOf 20 S x).isSome && decide ((encOf S x).depth ≤ 40)) = (zs.map Prod.fst).all (fun x => (pyD 20 x).isSome && decide ((pEnc x).depth ≤ 40)) := by
      rw [List.all_map, List.all_map, Bool.eq_iff_iff, List.all_eq_true, List.all_eq_true]
      exact forall_congr' fun z => forall_congr' fun h => by simp only [Function.comp]; rw [(he z h).1, (he z h).2, hs z h]
    have a2 : ((zs.map Prod.snd).all fun x => (zs.map Prod.snd).all fun y => PySem.W.alike (encOf S x) (encOf S y)) = (zs.map Prod.fst).all fun x => (zs.map Prod.fst).all fun y => PySem.W.alike (pEnc x) (pEnc y) := by
      rw [List.all_map, List.all_map, Bool.eq_iff_iff, List.all_eq_true, List.all_eq_true]
      refine forall_congr' fun z => forall_congr' fun h => ?_
      simp only [Function.comp]
      rw [List.all_map, List.all_map, List.all_eq_true, List.all_eq_true]
      exact forall_congr' fun y => forall_congr' fun h2 => by simp only [Function.comp]; rw [(he z h).1, (he y h2).1]
    have a3 : ∀ g : PySem.PyData → Bool, ((zs.map Prod.snd).all fun x => g (encOf S x)) = (zs.map Prod.fst).all fun x => g (pEnc x) := fun g => by
      rw [List.all_map, List.all_map, Bool.eq_iff_iff, List.all_eq_true, List.all_eq_true]
      exact forall_congr' fun z => forall_congr' fun h => by simp only [Function.comp]; rw [(he z h).1]
    have l : decide ((zs.map Prod.snd).length ≤ PySem.sizeLine) = decide ((zs.map Prod.fst).length ≤ PySem.sizeLine) := by simp
    exact (congr (congrArg and (congr (congrArg and (congr (congrArg and a1) a2)) (congr (congrArg or (a3 (fun x => match x with | .tuple (_ :: _) => true | _ => false))) (a3 (fun x => match x with | .none => false | .tuple _ => false | _ => true))))) l).trans e0
  · have m1 : (zs.mergeSort (PySem.W.dataLe false fun z => pEnc z.1)).map Prod.fst = (zs.map Prod.fst).mergeSort (PySem.W.dataLe false pEnc) := List.map_mergeSort fun a _ b _ => rfl
    have m2 : (zs.mergeSort (PySem.W.dataLe false fun z => pEnc z.1)).map Prod.snd = (zs.map Prod.snd).mergeSort (PySem.W.dataLe false (encOf S)) := List.map_mergeSort fun a ha b hb => by
      unfold PySem.W.dataLe PySem.W.sortLe
      simp only [(he a ha).1, (he b hb).1]
    unfold pSort
    rw [← m1, ← m2]
    exact den_zip fun z h => hz z (List.mem_mergeSort.mp h)
theorem c_sorted : C1F (fun x => cSorted [x]) pSorted := fun O S a x v h e => by
  unfold pSorted at e
  split at e
  · split at e
    · cases e
      obtain ⟨ds, e1, r⟩ := seq_ok h ‹_›
      obtain ⟨s1, s2⟩ := sort_ok r ‹_›
      exact ⟨_, by simp only [cSorted, e1]; rw [if_pos s1], fun O' ho => cell_lst s2 ho⟩
    · cases e
  · cases e
theorem strs_ok : ∀ {vs : List PV} {ds : List D} {ns : List PySem.Str}, DenL O S vs ds → pStrs vs = some ns → strsOf ds = some ns
  | [], _, _, h, e => by rw [h.nil_inv]; exact e
  | v :: vs, _, ns, h, e => by
    obtain ⟨d, ds', rfl, q, r⟩ := h.cons_inv
    cases v <;> first | (cases e; done) | skip
    rw [q.str_inv]
    simp only [pStrs] at e
    cases e1 : pStrs vs with
    | none => rw [e1] at e; cases e
    | some ms => rw [e1] at e; simp only [strsOf]; rw [strs_ok r e1]; exact e
theorem e_join (ha : E .v fa pa) (hb : E .k fb pb) : E .v (fMt "str" mJoin fa (fCons fb fNil)) (qJoin pa pb) := fun B C ρ S π rl =>
  (ha B C ρ S π rl).bind fun x S1 a π1 nx rl1 qa => by
    cases a <;> first | trivial | skip
    rename_i z
    have := qa.d_.str_inv; subst this
    show RR B C ρ S1 π1 (if tyD "str" (.str z) S1 = true then _ else _) _ _
    rw [if_pos (by simp [tyD]), one_arg]
    refine (hb B C ρ S1 π1 rl1).bind fun y S2 b π2 nx2 rl2 qb => RR.ofP rl2 fun v e => ?_
    cases b <;> first | (cases e; done) | skip
    obtain ⟨l, rfl, ds, g, r⟩ := Top.lst_inv qb
    simp only [pJoin] at e
    split at e
    · split at e
      · cases e
        exact ⟨_, S2, by simp only [mJoin, g]; rw [strs_ok r ‹_›]; simp only; rw [if_pos ‹_›]; rfl, Pre.refl, QM.v_ Den.str⟩
      · cases e
    · cases e
theorem e_newT : E .f fNewT qNewT := fun B C ρ S π rl => RR.here' rl (Pre.app _ _) (QF.of rl fun O ho => ⟨[], by simp, rfl, DenL.nil⟩)
theorem e_newK : E .f fNewK qNewK := fun B C ρ S π rl => RR.here' rl (Pre.app _ _) (QF.of rl fun O ho => ⟨[], by simp, rfl, DenL.nil⟩)
theorem put_map {κ : Type} [DecidableEq κ] {v : PV} {d : D} {k : κ} (q : Den O S v d) : ∀ {es : List (κ × D)} {vs : List PV}, DenL O S vs (es.map Prod.snd) →
    DenL O S (List.zipWith (fun k' w => if k' = k then v else w) (es.map Prod.fst) vs) ((es.map fun kv => if kv.1 = k then (kv.1, d) else kv).map Prod.snd)
  | [], vs, r => by
    have := r.nil_inv'
    subst this
    exact DenL.nil
  | kv :: es, vs, r => by
    obtain ⟨w, ws, rfl, q1, r1⟩ := r.cons_inv'
    simp only [List.map_cons, List.zipWith_cons_cons]
    refine DenL.cons ?_ (put_map q r1)
    by_cases h : kv.1 = k
    · rw [if_pos h, if_pos h]; exact q
    · rw [if_neg h, if_neg h]; exact q1
theorem put_ok {κ : Type} [DecidableEq κ] {es : List (κ × D)} {vs : List PV} {v : PV} {d : D} {k : κ} (r : DenL O S vs (es.map Prod.snd)) (q : Den O S v d) :
    (dSet.putD es k d).map Prod.fst = (pPutD (es.map Prod.fst) vs k v).1 ∧ DenL O S (pPutD (es.map Prod.fst) vs k v).2 ((dSet.putD es k d).map Prod.snd) := by
  unfold dSet.putD pPutD
  rw [any_fst]
  split
  · constructor
    · rw [List.map_map]
      apply List.map_congr_left
      intro kv _
      simp only [Function.comp]
      split <;> rfl
    · exact put_map q r
  · constructor
    · simp
    · rw [List.map_append]
      exact r.append (DenL.cons q DenL.nil)
theorem st_set : StOk pSet := fun O S cur l k dk v dv cur' ol cv qk qv e => by
  have ll := cv.lt
  have h2 : ∀ c j, j < S.length → ¬ O j → (S.set l c)[j]? = S[j]? := fun c j lt n => List.getElem?_set_ne fun z => n (by subst z; exact ol)
  have gs : ∀ c, (S.set l c)[l]? = some c := fun c => by rw [List.getElem?_set]; simp [ll]
  have hid : ∀ k, k < S.length → O k → O k := fun _ _ z => z
  cases cur <;> first | (cases e; done) | skip
  · obtain ⟨ds, g, r⟩ := cv
    cases k <;> first | (cases e; done) | skip
    simp only [pSet] at e
    rw [qk.int_inv]
    cases e1 : ixN _ _ with
    | none => rw [e1] at e; cases e
    | some j =>
      rw [e1] at e; cases e
      exact ⟨_, by simp only [dSet, g]; rw [r.len, e1]; rfl, ds.set j dv, gs _, (r.set j qv).mv hid (h2 _)⟩
  · obtain ⟨es, g, q, r⟩ := cv
    simp only [pSet] at e
    cases e1 : pKey k with
    | none => rw [e1] at e; cases e
    | some kk =>
      rw [e1] at e
      simp only at e
      split at e
      · rename_i hlt
        cases e
        subst q
        rw [List.length_map] at hlt
        obtain ⟨p1, p2⟩ := put_ok (k := kk) r qv
        exact ⟨_, by simp only [dSet, g]; rw [key_ok qk e1]; simp only; rw [if_pos hlt], _, gs _, p1, p2.mv hid (h2 _)⟩
      · cases e
  · obtain ⟨es, g, q, r⟩ := cv
    cases k <;> first | (cases e; done) | skip
    obtain ⟨ks, rfl, rk⟩ := qk.tup_inv
    simp only [pSet] at e
    split at e
    · split at e
      · rename_i hlt
        cases e
        subst q
        rw [List.length_map] at hlt
        obtain ⟨p1, p2⟩ := put_ok r qv
        exact ⟨_, by simp only [dSet, g]; rw [keys_ok rk ‹_›]; simp only; rw [if_pos hlt], _, gs _, p1, p2.mv hid (h2 _)⟩
      · cases e
    · cases e
theorem m_append : MtOk .v mAppend pAppend := fun O S cur l a x rc ol cv qa e => by
  have ll := cv.lt
  cases cur <;> first | (cases e; done) | skip
  obtain ⟨ds, g, r⟩ := cv
  simp only [pAppend] at e
  split at e
  · cases e
    refine ⟨.non, .lst (ds ++ [x]), by simp only [mAppend, g]; rw [if_pos (by rw [r.len]; assumption)], ⟨ds ++ [x], by rw [List.getElem?_set]; simp [ll], ?_⟩, Den.non⟩
    exact (r.append (DenL.cons qa DenL.nil)).mv (fun _ _ z => z) fun j lt n => List.getElem?_set_ne fun z => n (by subst z; exact ol)
  · cases e
theorem m_extend : MtOk .k mExtend pExtend := fun O S cur l a x rc ol cv qa e => by
  have ll := cv.lt
  cases cur <;> first | (cases e; done) | skip
  obtain ⟨ds, g, r⟩ := cv
  cases a <;> first | (cases e; done) | skip
  obtain ⟨l2, rfl, es, g2, r2⟩ := Top.lst_inv qa
  simp only [pExtend] at e
  split at e
  · cases e
    refine ⟨.non, .lst (ds ++ es), by simp only [mExtend, g, g2]; rw [if_pos (by rw [r.len, r2.len]; assumption)], ⟨ds ++ es, by rw [List.getElem?_set]; simp [ll], ?_⟩, Den.non⟩
    exact (r.append r2).mv (fun _ _ z => z) fun j lt n => List.getElem?_set_ne fun z => n (by subst z; exact ol)
  · cases e
theorem DenL.dropLast {vs : List PV} {ds : List D} (r : DenL O S vs ds) : DenL O S vs.dropLast ds.dropLast := by
  rw [List.dropLast_eq_take, List.dropLast_eq_take, r.len]; exact r.take _
theorem m_pop : Mt0Ok mPop pPop := fun O S cur l rc ol cv e => by
  have ll := cv.lt
  cases cur <;> first | (cases e; done) | skip
  obtain ⟨ds, g, r⟩ := cv
  simp only [pPop] at e
  split at e
  · cases e
    obtain ⟨d, e1, q⟩ := r.get ‹_›
    refine ⟨d, .lst ds.dropLast, by simp only [mPop, g]; rw [r.len, e1], ⟨ds.dropLast, by rw [List.getElem?_set]; simp [ll], ?_⟩, ?_⟩
    · exact r.dropLast.mv (fun _ _ z => z) fun j lt n => List.getElem?_set_ne fun z => n (by subst z; exact ol)
    · exact q.mv (fun _ _ z => z) fun j lt n => List.getElem?_set_ne fun z => n (by subst z; exact ol)
  · cases e
end
/-! # a call that is heard -/
def HeardOk (fl : (Store → R D) → Store → R D) (told : PySem.Str) (nm : Nat → PySem.Str) : Prop := ∀ lam S,
  (∀ d S', lam S = .ok d S' → fl lam S = .ok (.tup [.str told, d]) S') ∧ ∀ c w S', lam S = .exc c w S' → ∃ S'', fl lam S = .ok (.tup [.str (nm c), w]) S'' ∧ Pre S' S''
def qHeard (told : PySem.Str) (nm : Nat → PySem.Str) (p : PX PV) : PX PV := fun π => match p π with
  | .ok v π1 => .ok (.tup [.str told, v]) π1
  | .exc c w π1 => .ok (.tup [.str (nm c), w]) π1
  | .bad => .bad
theorem e_heard {fl : (Store → R D) → Store → R D} {told : PySem.Str} {nm : Nat → PySem.Str} {fa : F} {pa : PX PV} (hh : HeardOk fl told nm) (h : E .v fa pa) : E .v (fLam fl fa) (qHeard told nm pa) := fun B C ρ S π rl => by
  have z := h B C ρ S π rl
  obtain ⟨h1, h2⟩ := hh (fun S' => fa ρ S') S
  show RR B C ρ S π (fl (fun S' => fa ρ S') S) (qHeard told nm pa π) _
  unfold qHeard
  cases e : pa π with
  | bad => trivial
  | ok v π1 =>
    rw [e] at z
    obtain ⟨d, S', e1, nx, rl1, q⟩ := z
    exact ⟨_, S', h1 d S' e1, nx, rl1, Den.tup (DenL.cons Den.str (DenL.cons q DenL.nil))⟩
  | exc c w π1 =>
    rw [e] at z
    obtain ⟨d, S', e1, nx, rl1, q⟩ := z
    obtain ⟨S'', e2, pr⟩ := h2 c d S' e1
    exact ⟨_, S'', e2, nx.trans pr.nxt, rl1.pre pr, Den.tup (DenL.cons Den.str (DenL.cons (pr.den q) DenL.nil))⟩
theorem rel_none {ρ : Env} {S : Store} : Rel (fun _ => False) (fun _ => False) ρ S (List.replicate ρ.length none) where
  len := by simp
  bc := fun k z => z.elim False.elim False.elim
  slot := fun i s e => by have := List.mem_of_getElem? e; simp at this
  sep := fun i j s t l _ e => by have := List.mem_of_getElem? e; simp at this
/-- the suite of a heard call: the names of the classes, then what is kept -/
theorem heard_suite {s1 : FS} {p1 : PS} {fj : F} {pj : PX PV} (h1 : SS false s1 p1) (hj : E .v fj pj) {ρ : Env} {S : Store} {πa πb : PEnv} {x : PySem.Str} (e1 : p1 (List.replicate ρ.length none) = .nx πa) (e2 : pj πa = .ok (.str x) πb) (w : D) :
    ∃ S'', (sSeq s1 (sSeq (sRet (fTup (fCons fj (fCons (fCon w) fNil)))) sNil)) ρ S = .ret (.tup [.str x, w]) S'' ∧ Pre S S'' := by
  have z := h1 _ _ ρ S _ rel_none
  rw [e1] at z
  obtain ⟨ρ1, S1, g1, nx, rl⟩ := z
  have z2 := hj _ _ ρ1 S1 _ rl
  rw [e2] at z2
  obtain ⟨d, S2, g2, nx2, rl2, q⟩ := z2
  have := q.d_.str_inv; subst this
  refine ⟨S2, ?_, ?_⟩
  · simp only [sSeq, g1, Fl.seq, sRet, fTup, fCons, g2, R.bind_ok, fCon, fNil, R.toFl]
    rfl
  · have u := (nx.trans nx2).un
    exact ⟨u.le, fun k lt => u.un k lt fun z => z.elim id fun ⟨i, v, e, _⟩ => by have := List.mem_of_getElem? e; simp at this⟩
end P

set_option maxRecDepth 100000
set_option maxHeartbeats 1000000
namespace P
open G
open L2 (atI ixN)
def tRaise (c : Nat) (p : PX PV) : PS := fun π => (p π).toFl fun v π1 => .exc c v π1
theorem s_raise {fm : Bool} {fa : F} {pa : PX PV} (c : Nat) (h : E .v fa pa) : SS fm (sRaise c (fCons fa fNil)) (tRaise c pa) := fun B C ρ S π rl => by
  have e : sRaise c (fCons fa fNil) ρ S = (fa ρ S).toFl ρ fun w S1 => .exc c w ρ S1 := by
    unfold sRaise fCons fNil
    cases fa ρ S <;> rfl
  rw [e]
  exact RF.ofR (h B C ρ S π rl) fun a S1 b π1 nx rl1 q => ⟨a, ρ, S1, rfl, Nxt.refl, rl1, q⟩
theorem heard_ok {n i : Nat} {told : PySem.Str} {sub : Nat → Option Bool} {suite : Nat → D → FS} {nm : Nat → PySem.Str} (hs : ∀ c, sub c = some true) (hi : i < n)
    (h : ∀ c w (ρ : Env) S, ρ.length = n → ∃ S'', suite c w ρ S = .ret (.tup [.str (nm c), w]) S'' ∧ Pre S S'') :
    HeardOk (runL n fun lam => sSeq (sTry i sub (sSeq (sRet (fTup (fCons (fCon (.str told)) (fCons (fAct lam) fNil)))) sNil) suite) sNil) told nm := fun lam S => by
  have hl : (enter n []).length = n := by simp [enter]
  refine ⟨fun d S' e => ?_, fun c w S' e => ?_⟩
  · simp only [runL, sSeq, sTry, sRet, fTup, fCons, fCon, fAct, fNil, e, R.bind_ok]
    rfl
  · obtain ⟨S'', e2, pr⟩ := h c w ((enter n []).set i none) S' (by simp [hl])
    refine ⟨S'', ?_, pr⟩
    simp only [runL, sSeq, sTry, sRet, fTup, fCons, fCon, fAct, fNil, e, R.bind_ok, R.bind_exc, R.toFl, Fl.seq, hs]
    rw [if_pos (by rw [hl]; exact hi), e2]
    rfl
def pItemsL : PV → Option (List PV)
  | .lst xs => some xs
  | _ => none
def qSeqL (p : PX PV) : PX (List PV) := fun π => (p π).bind fun v π1 => ofP (pItemsL v) π1
theorem w_seqH {fa : F} {pa : PX PV} (h : E .v fa pa) : EW (fun ρ S => (fa ρ S).bind fun d S1 => match d with | .loc l => ofW (wkOf (.loc l) S1) S1 | _ => .bad) (qSeqL pa) := fun B C ρ S π rl => (h B C ρ S π rl).bind fun a S1 b π1 nx rl1 q => RR.ofP rl1 fun vs e => by
  cases b <;> first | (cases e; done) | skip
  obtain ⟨w, e1, z⟩ := wk_items q (show pItems (.lst _) = some vs from e)
  obtain ⟨l, rfl, _⟩ := Den.lst_inv q
  exact ⟨w, S1, by dsimp only; rw [e1]; rfl, Pre.refl, z⟩
theorem e_lcH {fa : F} {pa : PX PV} {t : Tgt} {tt : FB} {te : F} {pt : PX Bool} {pe : PX PV} {own : List Nat} (hown : ∀ j, j ∈ tgN t → j ∈ own) (hw : E .v fa pa) (ht : ET tt pt) (he : E .v te pe) : E .f (fLcH fa t tt te own) (qLc (qSeqL pa) t pt pe own) := e_lc hown (w_seqH hw) ht he
end P

set_option maxRecDepth 100000
set_option maxHeartbeats 1000000
namespace P
open G
open PySem (PyData)
open PySem.SeqAt (shaped)
/-! # plain values that may be compared -/
mutual
def wt : PV → Nat
  | .tup xs => 1 + wtL xs
  | .lst xs => 1 + wtL xs
  | _ => 1
def wtL : List PV → Nat
  | [] => 0
  | x :: xs => wt x + wtL xs
end
def Gd : Nat → PV → Prop
  | 0, _ => False
  | _ + 1, .str x => PySem.PyData.strOk x = true
  | n + 1, .tup xs => ∀ x ∈ xs, Gd n x
  | n + 1, .lst xs => ∀ x ∈ xs, Gd n x
  | _ + 1, .dK _ _ => False
  | _ + 1, .dT _ _ => False
  | _ + 1, _ => True
theorem Gd.succ : ∀ {n : Nat} {v : PV}, Gd n v → Gd (n + 1) v
  | 0, _, h => h.elim
  | n + 1, .non, _ => trivial
  | n + 1, .bl _, _ => trivial
  | n + 1, .int _, _ => trivial
  | n + 1, .str _, h => h
  | n + 1, .tup xs, h => fun x hx => Gd.succ (h x hx)
  | n + 1, .lst xs, h => fun x hx => Gd.succ (h x hx)
  | n + 1, .dK _ _, h => h.elim
  | n + 1, .dT _ _, h => h.elim
theorem Gd.mono {n m : Nat} {v : PV} (h : Gd n v) (le : n ≤ m) : Gd m v := by
  induction le with
  | refl => exact h
  | step _ ih => exact ih.succ
theorem mapM_all {n : Nat} (ih : ∀ v : PV, Gd n v → ∀ m, n ≤ m → ∃ p, pyD m v = some p ∧ p.canLay0 = true ∧ p.depth ≤ n) {m : Nat} (hm : n ≤ m) : ∀ {xs : List PV}, (∀ x ∈ xs, Gd n x) → ∃ ps, xs.mapM (pyD m) = some ps ∧ PyData.canLayAll0 ps = true ∧ PyData.depthAll ps ≤ n
  | [], _ => ⟨[], rfl, rfl, by simp [PyData.depthAll]⟩
  | x :: xs, h => by
    obtain ⟨p, e1, c1, d1⟩ := ih x (h x List.mem_cons_self) m hm
    obtain ⟨ps, e2, c2, d2⟩ := mapM_all ih hm (xs := xs) fun y hy => h y (List.mem_cons_of_mem _ hy)
    refine ⟨p :: ps, by rw [List.mapM_cons, e1, e2]; rfl, by simp [PyData.canLayAll0, c1, c2], ?_⟩
    simp only [PyData.depthAll]
    omega
theorem Gd.py : ∀ (n : Nat) (v : PV), Gd n v → ∀ m, n ≤ m → ∃ p, pyD m v = some p ∧ p.canLay0 = true ∧ p.depth ≤ n
  | 0, _, h, _, _ => h.elim
  | n + 1, v, h, 0, hm => absurd hm (by omega)
  | n + 1, .non, _, m + 1, _ => ⟨_, rfl, rfl, by simp [PyData.depth]⟩
  | n + 1, .bl _, _, m + 1, _ => ⟨_, rfl, rfl, by simp [PyData.depth]⟩
  | n + 1, .int _, _, m + 1, _ => ⟨_, rfl, rfl, by simp [PyData.depth]⟩
  | n + 1, .str _, h, m + 1, _ => ⟨_, rfl, by have h2 : PyData.strOk _ = true := h; simpa [PyData.canLay0] using h2, by simp [PyData.depth]⟩
  | n + 1, .dK _ _, h, _, _ => h.elim
  | n + 1, .dT _ _, h, _, _ => h.elim
  | n + 1, .tup xs, h, m + 1, hm => by
    obtain ⟨ps, e, c, d⟩ := mapM_all (fun v hv m hm => Gd.py n v hv m hm) (m := m) (by omega) h
    exact ⟨.tuple ps, by simp only [pyD, e]; rfl, by simpa [PyData.canLay0] using c, by simp only [PyData.depth]; omega⟩
  | n + 1, .lst xs, h, m + 1, hm => by
    obtain ⟨ps, e, c, d⟩ := mapM_all (fun v hv m hm => Gd.py n v hv m hm) (m := m) (by omega) h
    exact ⟨.list ps, by simp only [pyD, e]; rfl, by simpa [PyData.canLay0] using c, by simp only [PyData.depth]; omega⟩
mutual
theorem eqv_self : ∀ p : PyData, p.canLay0 = true → PyData.eqv p p = true
  | .none, _ => rfl
  | .bool b, _ => by simp [PyData.eqv]
  | .int b, _ => by simp [PyData.eqv]
  | .str b, _ => by simp [PyData.eqv]
  | .list xs, h => by simp only [PyData.eqv]; exact eqvAll_self xs (by simpa [PyData.canLay0] using h)
  | .tuple xs, h => by simp only [PyData.eqv]; exact eqvAll_self xs (by simpa [PyData.canLay0] using h)
  | .dict _, h => by simp [PyData.canLay0] at h
theorem eqvAll_self : ∀ p : List PyData, PyData.canLayAll0 p = true → PyData.eqvAll p p = true
  | [], _ => rfl
  | x :: xs, h => by
    simp only [PyData.canLayAll0, Bool.and_eq_true] at h
    simp only [PyData.eqvAll, eqv_self x h.1, eqvAll_self xs h.2, Bool.and_self]
end
theorem eqB_gd {a b : PV} {n m : Nat} (ha : Gd n a) (hb : Gd m b) (hn : n ≤ 20) (hm : m ≤ 20) : ∃ p q, pyD 20 a = some p ∧ pyD 20 b = some q ∧ pEqB a b = some (PyData.eqv p q) := by
  obtain ⟨p, e1, c1, d1⟩ := ha.py n a 20 hn
  obtain ⟨q, e2, c2, d2⟩ := hb.py m b 20 hm
  refine ⟨p, q, e1, e2, ?_⟩
  unfold pEqB
  rw [e1, e2]
  simp only
  rw [if_pos]
  unfold shaped
  rw [c1, c2, decide_eq_true (show p.depth ≤ 64 by omega), decide_eq_true (show q.depth ≤ 64 by omega)]
  exact ⟨rfl, rfl⟩
theorem eqB_self {a : PV} {n : Nat} (ha : Gd n a) (hn : n ≤ 20) : pEqB a a = some true := by
  obtain ⟨p, q, e1, e2, e3⟩ := eqB_gd ha ha hn hn
  rw [e1] at e2; cases e2
  obtain ⟨p', e1', c1, _⟩ := ha.py n a 20 hn
  rw [e1] at e1'; cases e1'
  rw [e3, eqv_self p c1]
theorem eqB_int (i j : Int) : pEqB (.int i) (.int j) = some (decide (i = j)) := by
  obtain ⟨p, q, e1, e2, e3⟩ := eqB_gd (a := .int i) (b := .int j) (n := 1) (m := 1) trivial trivial (by decide) (by decide)
  cases e1; cases e2
  rw [e3, PyData.eqv]
  congr 1
theorem pEq_int (i j : Int) : pEq (.int i) (.int j) = some (.bl (decide (i = j))) := by unfold pEq; rw [eqB_int]; rfl
theorem pNe_int (i j : Int) : pNe (.int i) (.int j) = some (.bl (!decide (i = j))) := by unfold pNe; rw [eqB_int]; rfl
theorem eqB_nil {xs : List PV} {n : Nat} (h : Gd n (.tup xs)) (hn : n ≤ 20) : pEqB (.tup xs) (.tup []) = some xs.isEmpty := by
  obtain ⟨p, q, e1, e2, e3⟩ := eqB_gd h (b := .tup []) (m := 1) (by intro x hx; cases hx) hn (by decide)
  rw [e3]
  have : q = .tuple [] := by have : pyD 20 (.tup []) = some (.tuple []) := rfl; rw [e2] at this; cases this; rfl
  subst this
  have z : pyD 20 (.tup xs) = (xs.mapM (pyD 19)).map .tuple := rfl
  rw [z] at e1
  cases em : xs.mapM (pyD 19) with
  | none => rw [em] at e1; cases e1
  | some ps =>
    rw [em] at e1; cases e1
    have := mapM_len em
    cases ps <;> cases xs <;> simp_all [PyData.eqv, PyData.eqvAll]
theorem eqB_nilL {xs : List PV} {n : Nat} (h : Gd n (.lst xs)) (hn : n ≤ 20) : pEqB (.lst xs) (.lst []) = some xs.isEmpty := by
  obtain ⟨p, q, e1, e2, e3⟩ := eqB_gd h (b := .lst []) (m := 1) (by intro x hx; cases hx) hn (by decide)
  rw [e3]
  have : q = .list [] := by have : pyD 20 (.lst []) = some (.list []) := rfl; rw [e2] at this; cases this; rfl
  subst this
  have z : pyD 20 (.lst xs) = (xs.mapM (pyD 19)).map .list := rfl
  rw [z] at e1
  cases em : xs.mapM (pyD 19) with
  | none => rw [em] at e1; cases e1
  | some ps =>
    rw [em] at e1; cases e1
    have := mapM_len em
    cases ps <;> cases xs <;> simp_all [PyData.eqv, PyData.eqvAll]
/-! # comprehensions and loops -/
theorem lcP_map {t : Tgt} {pt : PX Bool} {pe : PX PV} {own : List Nat} {π : PEnv} (f : PV → PV) : ∀ (vs : List PV), (∀ v ∈ vs, ∃ π1, tgP t v π = some π1 ∧ pt π1 = .ok true π1 ∧ pe π1 = .ok (f v) π1 ∧ wipeP π1 own = π) → lcP t pt pe own vs π = .ok (vs.map f) π
  | [], _ => rfl
  | v :: vs, h => by
    obtain ⟨π1, e1, e2, e3, e4⟩ := h v List.mem_cons_self
    have ih := lcP_map f vs fun w hw => h w (List.mem_cons_of_mem _ hw)
    simp only [lcP, e1, e2, e3, e4, PR.ne_ok, PR.bind_ok, if_true, ih, List.map_cons]
theorem lcP_filter {t : Tgt} {pt : PX Bool} {pe : PX PV} {own : List Nat} {π : PEnv} (f : PV → PV) (g : PV → Bool) : ∀ (vs : List PV), (∀ v ∈ vs, ∃ π1, tgP t v π = some π1 ∧ pt π1 = .ok (g v) π1 ∧ (g v = true → pe π1 = .ok (f v) π1) ∧ wipeP π1 own = π) → lcP t pt pe own vs π = .ok ((vs.filter g).map f) π
  | [], _ => rfl
  | v :: vs, h => by
    obtain ⟨π1, e1, e2, e3, e4⟩ := h v List.mem_cons_self
    have ih := lcP_filter f g vs fun w hw => h w (List.mem_cons_of_mem _ hw)
    cases hg : g v with
    | true => simp only [lcP, e1, e2, e3 hg, e4, PR.ne_ok, PR.bind_ok, hg, if_true, ih, List.filter_cons, List.map_cons]
    | false => simp only [lcP, e1, e2, e4, PR.ne_ok, PR.bind_ok, hg, if_false, ih, List.filter_cons, Bool.false_eq_true]
theorem pAddI (i j : Int) : pAdd (.int i) (.int j) = some (.int (i + j)) := rfl
@[simp] theorem pNon_non : pNon .non = true := rfl
@[simp] theorem pNon_int (i : Int) : pNon (.int i) = false := rfl
@[simp] theorem pNon_bl (i : Bool) : pNon (.bl i) = false := rfl
@[simp] theorem pNon_str (i : PySem.Str) : pNon (.str i) = false := rfl
@[simp] theorem pNon_tup (i : List PV) : pNon (.tup i) = false := rfl
@[simp] theorem pNon_lst (i : List PV) : pNon (.lst i) = false := rfl
@[simp] theorem nmS_none : nmS none = true := rfl
@[simp] theorem nmS_sh (v : PV) : nmS (some (.sh v)) = true := rfl
@[simp] theorem nmS_pk (v : PV) : nmS (some (.pk v)) = true := rfl
@[simp] theorem nmS_ow (v : PV) : nmS (some (.ow v)) = true := rfl
@[simp] theorem okS_none : okS none = true := rfl
@[simp] theorem okS_sh (v : PV) : okS (some (.sh v)) = true := rfl
theorem tseq {p q : PS} {π π1 : PEnv} (h : p π = .nx π1) : tSeq p q π = q π1 := by unfold tSeq; rw [h]; rfl
theorem forP_nil {body : PV → PS} {π : PEnv} : forP body [] π = .nx π := rfl
theorem forP_cons {body : PV → PS} {v : PV} {vs : List PV} {π : PEnv} : forP body (v :: vs) π = forKP (forP body vs) (body v π) := rfl
/-- a loop that keeps I and never leaves -/
theorem forP_keep {body : PV → PS} (I : Nat → PEnv → Prop) : ∀ (vs : List PV) (n : Nat) (π : PEnv), I n π → (∀ v ∈ vs, ∀ i π, i < n + vs.length → I i π → ∃ π', body v π = .nx π' ∧ I (i + 1) π') → ∃ π', forP body vs π = .nx π' ∧ I (n + vs.length) π'
  | [], n, π, h, _ => ⟨π, rfl, h⟩
  | v :: vs, n, π, h, k => by
    obtain ⟨π1, e1, h1⟩ := k v List.mem_cons_self n π (by simp) h
    obtain ⟨π2, e2, h2⟩ := forP_keep I vs (n + 1) π1 h1 fun w hw i π hi => k w (List.mem_cons_of_mem _ hw) i π (by simp; omega)
    exact ⟨π2, by rw [forP_cons, e1]; exact e2, by rw [List.length_cons, Nat.add_comm vs.length 1, ← Nat.add_assoc]; exact h2⟩
theorem while_ok {t : PX Bool} {p : PS} (I : Nat → PEnv → Prop) (hend : ∀ π, I 0 π → t π = .ok false π) (hstep : ∀ n π, I n π → n ≠ 0 → t π = .ok true π ∧ ∃ m π', p π = .nx π' ∧ m < n ∧ I m π') : ∀ (fuel n : Nat) (π : PEnv), n < fuel → I n π → ∃ π', whileP t p fuel π = .nx π' ∧ I 0 π'
  | 0, n, π, h, _ => absurd h (by omega)
  | fuel + 1, n, π, h, i => by
    by_cases z : n = 0
    · subst z
      exact ⟨π, by simp only [whileP, hend π i, PR.toFl_ok]; rfl, i⟩
    · obtain ⟨e1, m, π', e2, lt, i'⟩ := hstep n π i z
      obtain ⟨π2, e3, i2⟩ := while_ok I hend hstep fuel m π' (by omega) i'
      exact ⟨π2, by simp only [whileP, e1, PR.toFl_ok, if_true, e2, forKP_nx]; exact e3, i2⟩
theorem wt_pos (v : PV) : 1 ≤ wt v := by cases v <;> simp [wt]
theorem pR1_nat {n : Nat} (h : n ≤ 1000000000) : pR1 (.int (n : Int)) = some (rng 0 n) := by
  simp only [pR1]
  rw [if_pos (by omega)]
  rfl
def onInt (f : Int → PV) : PV → PV
  | .int i => f i
  | _ => .non
theorem rng_map {f : Int → PV} {g : Nat → PV} {n : Nat} (h : ∀ i : Nat, i < n → f i = g i) : (rng 0 n).map (onInt f) = (List.range n).map g := by
  unfold rng
  rw [List.map_map]
  apply List.map_congr_left
  intro i hi
  simp only [Function.comp, Int.zero_add, onInt]
  exact h i (by simpa using hi)
theorem mem_rng {n : Nat} {x : PV} (h : x ∈ rng 0 n) : ∃ i : Nat, i < n ∧ x = .int i := by
  obtain ⟨i, hi, rfl⟩ := List.mem_map.mp h
  exact ⟨i, by simpa using hi, by rw [Int.zero_add]⟩
theorem range_get {xs : List PV} {f : PV → PV} : (List.range xs.length).map (fun i => f (xs.getD i .non)) = xs.map f := by
  apply List.ext_getElem
  · simp
  · intro i h1 h2
    simp at h1 h2
    simp [h1]
end P

set_option maxRecDepth 100000
set_option maxHeartbeats 0
namespace K01
open PySem PySem.Spec PyProof.Rows L2 HotX G
def top (i : Nat) : Stmt := PySem.Challenge.pw_turnsonce_k01_nets_by_form.main.body.getD i (.Pass ⟨0, 0, 0, 0⟩)
abbrev s_whole : Stmt := top 4
abbrev s_is_move : Stmt := top 10
abbrev s_first_bad_move : Stmt := top 11
abbrev s_longest_time : Stmt := top 12
abbrev s_is_period : Stmt := top 13
abbrev s_form_of : Stmt := top 14
abbrev s_made_net : Stmt := top 15
abbrev s_is_net : Stmt := top 16
abbrev s__law_pool : Stmt := top 18
abbrev s__law_take : Stmt := top 19
abbrev s__law_one : Stmt := top 20
abbrev s__law_xp_is_whole : Stmt := top 21
abbrev s__law_xp_is_in : Stmt := top 22
abbrev s__law_xp_same : Stmt := top 23
abbrev s__law_xp_is_move : Stmt := top 24
abbrev s__law_xp_net_fault : Stmt := top 25
abbrev s__law_xp_net : Stmt := top 26
abbrev s__law_xp_bent : Stmt := top 27
abbrev s__law_n1_heard : Stmt := top 28
abbrev s__law_n1_things : Stmt := top 29
abbrev s__law_n1_put : Stmt := top 30
abbrev s__law_n1_right : Stmt := top 31
abbrev s__law_n1_hand : Stmt := top 32
abbrev s_law : Stmt := top 33
abbrev s_Refused_init : Stmt := inClass (top 1) 0
def d_whole : He.DefD := ⟨("whole", none), "whole", "whole", defArgs s_whole, defBody s_whole, defScope s_whole, [], []⟩
def d_is_move : He.DefD := ⟨("is_move", none), "is_move", "is_move", defArgs s_is_move, defBody s_is_move, defScope s_is_move, [], []⟩
def d_first_bad_move : He.DefD := ⟨("first_bad_move", none), "first_bad_move", "first_bad_move", defArgs s_first_bad_move, defBody s_first_bad_move, defScope s_first_bad_move, [], []⟩
def d_longest_time : He.DefD := ⟨("longest_time", none), "longest_time", "longest_time", defArgs s_longest_time, defBody s_longest_time, defScope s_longest_time, [], []⟩
def d_is_period : He.DefD := ⟨("is_period", none), "is_period", "is_period", defArgs s_is_period, defBody s_is_period, defScope s_is_period, [], []⟩
def d_form_of : He.DefD := ⟨("form_of", none), "form_of", "form_of", defArgs s_form_of, defBody s_form_of, defScope s_form_of, [], []⟩
def d_made_net : He.DefD := ⟨("made_net", none), "made_net", "made_net", defArgs s_made_net, defBody s_made_net, defScope s_made_net, [], []⟩
def d_is_net : He.DefD := ⟨("is_net", none), "is_net", "is_net", defArgs s_is_net, defBody s_is_net, defScope s_is_net, [], []⟩
def d__law_pool : He.DefD := ⟨("_law_pool", none), "_law_pool", "_law_pool", defArgs s__law_pool, defBody s__law_pool, defScope s__law_pool, [], []⟩
def d__law_take : He.DefD := ⟨("_law_take", none), "_law_take", "_law_take", defArgs s__law_take, defBody s__law_take, defScope s__law_take, [], []⟩
def d__law_one : He.DefD := ⟨("_law_one", none), "_law_one", "_law_one", defArgs s__law_one, defBody s__law_one, defScope s__law_one, [], []⟩
def d__law_xp_is_whole : He.DefD := ⟨("_law_xp_is_whole", none), "_law_xp_is_whole", "_law_xp_is_whole", defArgs s__law_xp_is_whole, defBody s__law_xp_is_whole, defScope s__law_xp_is_whole, [], []⟩
def d__law_xp_is_in : He.DefD := ⟨("_law_xp_is_in", none), "_law_xp_is_in", "_law_xp_is_in", defArgs s__law_xp_is_in, defBody s__law_xp_is_in, defScope s__law_xp_is_in, [], []⟩
def d__law_xp_same : He.DefD := ⟨("_law_xp_same", none), "_law_xp_same", "_law_xp_same", defArgs s__law_xp_same, defBody s__law_xp_same, defScope s__law_xp_same, [], []⟩
def d__law_xp_is_move : He.DefD := ⟨("_law_xp_is_move", none), "_law_xp_is_move", "_law_xp_is_move", defArgs s__law_xp_is_move, defBody s__law_xp_is_move, defScope s__law_xp_is_move, [], []⟩
def d__law_xp_net_fault : He.DefD := ⟨("_law_xp_net_fault", none), "_law_xp_net_fault", "_law_xp_net_fault", defArgs s__law_xp_net_fault, defBody s__law_xp_net_fault, defScope s__law_xp_net_fault, [], []⟩
def d__law_xp_net : He.DefD := ⟨("_law_xp_net", none), "_law_xp_net", "_law_xp_net", defArgs s__law_xp_net, defBody s__law_xp_net, defScope s__law_xp_net, [], []⟩
def d__law_xp_bent : He.DefD := ⟨("_law_xp_bent", none), "_law_xp_bent", "_law_xp_bent", defArgs s__law_xp_bent, defBody s__law_xp_bent, defScope s__law_xp_bent, [], []⟩
def d__law_n1_heard : He.DefD := ⟨("_law_n1_heard", none), "_law_n1_heard", "_law_n1_heard", defArgs s__law_n1_heard, defBody s__law_n1_heard, defScope s__law_n1_heard, [], []⟩
def d__law_n1_things : He.DefD := ⟨("_law_n1_things", none), "_law_n1_things", "_law_n1_things", defArgs s__law_n1_things, defBody s__law_n1_things, defScope s__law_n1_things, [], []⟩
def d__law_n1_put : He.DefD := ⟨("_law_n1_put", none), "_law_n1_put", "_law_n1_put", defArgs s__law_n1_put, defBody s__law_n1_put, defScope s__law_n1_put, [], []⟩
def d__law_n1_right : He.DefD := ⟨("_law_n1_right", none), "_law_n1_right", "_law_n1_right", defArgs s__law_n1_right, defBody s__law_n1_right, defScope s__law_n1_right, [], []⟩
def d__law_n1_hand : He.DefD := ⟨("_law_n1_hand", none), "_law_n1_hand", "_law_n1_hand", defArgs s__law_n1_hand, defBody s__law_n1_hand, defScope s__law_n1_hand, [], []⟩
def d_law : He.DefD := ⟨("law", none), "law", "law", defArgs s_law, defBody s_law, defScope s_law, [], []⟩
def d_Refused_init : He.DefD := ⟨("Refused", some "__init__"), "__init__", "Refused.__init__", defArgs s_Refused_init, defBody s_Refused_init, defScope s_Refused_init, [], []⟩
def fn : List He.DefD := [d_whole, d_is_move, d_first_bad_move, d_longest_time, d_is_period, d_form_of, d_made_net, d_is_net, d__law_pool, d__law_take, d__law_one, d__law_xp_is_whole, d__law_xp_is_in, d__law_xp_same, d__law_xp_is_move, d__law_xp_net_fault, d__law_xp_net, d__law_xp_bent, d__law_n1_heard, d__law_n1_things, d__law_n1_put, d__law_n1_right, d__law_n1_hand, d_law, d_Refused_init]
def fa : List He.Fa := [.glo "whole", .glo "is_move", .glo "first_bad_move", .glo "longest_time", .glo "is_period", .glo "form_of", .glo "made_net", .glo "is_net", .glo "_law_pool", .glo "_law_take", .glo "_law_one", .glo "_law_xp_is_whole", .glo "_law_xp_is_in", .glo "_law_xp_same", .glo "_law_xp_is_move", .glo "_law_xp_net_fault", .glo "_law_xp_net", .glo "_law_xp_bent", .glo "_law_n1_heard", .glo "_law_n1_things", .glo "_law_n1_put", .glo "_law_n1_right", .glo "_law_n1_hand", .glo "law", .glo "Refused", .glo "BadNet", .glo "TooMany", .free "ValueError", .free "bool", .free "enumerate", .free "int", .free "isinstance", .free "len", .free "list", .free "max", .free "range", .free "sorted", .free "str", .free "tuple", .int "MOST_PLACES" (30), .int "MOST_MOVES" (60), .int "LONGEST_TIME" (20), .int "MOST_PERIOD" (48)]
def cls : List PySem.Str := ["Refused", "BadNet", "TooMany"]
def tbs (K : PySem.W.Frag) : List (Addr × PySem.Str) := [((He.cT K ("_law_n1_right", none)).2, (("_law_n1_right" : PySem.Str) ++ ".<locals>.") ++ "<lambda>")]
abbrev tbsOk (K : PySem.W.Frag) : Bool := G.tabsOk (tbs K)
/-- more facts: the classes of exceptions, the tables -/
def ex (K : PySem.W.Frag) : Bool := excsB K cls && tbsOk K
def tf : List He.Defn := [("_law_n1_right", none)]
abbrev rowL : PySem.W.OpenRow := PySem.W.OpenLaw.row PySem.Challenge.rw_turnsonce_k01_nets_by_form
abbrev hk : PySem.W.Hook := He.hookX 6 fa fn [] tf ex
def ob (s : PySem.W.SharedT) : He.AlX := He.obsX 6 fa fn [] tf ex (HandSHeadRun.getT s)
theorem ob_eq (s : PySem.W.SharedT) : ob s = hk.obs s.abs := He.obsX_eq (HandSHeadRun.getT_eq s)
def loose : List PySem.Str := ["whole", "is_move", "first_bad_move", "longest_time", "is_period", "form_of", "made_net", "is_net", "_law_pool", "_law_take", "_law_one", "_law_xp_is_whole", "_law_xp_is_in", "_law_xp_same", "_law_xp_is_move", "_law_xp_net_fault", "_law_xp_net", "_law_xp_bent", "_law_n1_heard", "_law_n1_things", "_law_n1_put", "_law_n1_right", "_law_n1_hand", "Refused", "BadNet", "TooMany", "MOST_PLACES", "MOST_MOVES", "LONGEST_TIME", "MOST_PERIOD"]
theorem run (w : World) : HandSHeadRun.RunEq rowL (PySem.W.view rowL.prog [33]) hk ob 6000 loose w := by
  intro os
  kernel_rfl
end K01



set_option maxRecDepth 100000
set_option maxHeartbeats 0
namespace K01
open PySem PySem.Spec PyProof.Rows L2 HotX G
section
variable {P : Program} {w : World} {K : PySem.W.Frag} {mg : PySem.Str → Option Value} {base : Heap} {T : Tz}
def TT (K : PySem.W.Frag) : Tz := { tb := tbs K }
theorem tbs_mem {i : Nat} {p : Addr × PySem.Str} (h : (tbs K)[i]? = some p) : p ∈ (TT K).tb := List.mem_of_getElem? h
theorem tbs_uniq (B4 : tbsOk K = true) {i : Nat} {p : Addr × PySem.Str} (h : (tbs K)[i]? = some p) : ∀ q ∈ (TT K).tb, q.1 = p.1 → q.2 = p.2 := G.tabs_uniq B4 h
theorem sc_init : FnScope ["self", "what"] ["self", "what"] (defScope s_Refused_init) := ⟨rfl, rfl, rfl, by decide +kernel, rfl, by decide +kernel, by decide +kernel⟩
theorem ok_init (B : Facts K mg fa fn) (B2 : Exs K mg cls) : FnOk P w K mg base (L2N.CX P w) 1 (He.ma K (He.ga K (cls.headD "")) "__init__") (Classical.choose (B.says.def_ 24 (d := d_Refused_init) rfl)) ["self", "what"] (spIni K) ∧ Binds K (Classical.choose (B.says.def_ 24 (d := d_Refused_init) rfl)) ["self", "what"] [] := by
  have F0 := Classical.choose_spec (B.says.def_ 24 (d := d_Refused_init) rfl)
  refine ⟨FunD.ok (N := ["self", "what"]) F0 sc_init (fun vs H Q E h => ?_) (fun cdv A outer s H vs Q E hr h => ?_), FunD.bindsN F0 fun _ _ _ _ _ _ us hl => match us, hl with | [_, _], _ => rfl⟩
  · obtain ⟨a, C, v, rfl, _⟩ := h; rfl
  · obtain ⟨a, C, v, rfl, oex, no, ea, q⟩ := h
    refine ⟨_, pss_cons (ps_expr (pe_veinit rfl (B.free 27 rfl) B2.ve (pa_cons (pv 0) (pa_cons (pv 1) pa_nil)))) (pss_one (ps_ost (f := "what") (pv 0) (pv 1))), ?_⟩
    exact ⟨.ref a, rfl, v, rfl, a, C, [v], rfl, (by show 1 ≤ 1000; decide), oex, ea, v, rfl, .ref a, rfl, a, C, rfl, oex, no, .inl ⟨ea, fun dx hd ne => q dx hd ne⟩⟩
theorem sc_whole : FnScope ["thing", "least", "most"] ["thing", "least", "most"] (defScope s_whole) := ⟨rfl, rfl, rfl, by decide +kernel, rfl, by decide +kernel, by decide +kernel⟩
def f_whole : FS := sSeq (sRet (fAnd (fIsT "int" (fVar 0)) (fAnd (fNot (fIsT "bool" (fVar 0))) (fChain dLe dLe (fVar 1) (fVar 0) (fVar 2))))) (sNil)
def R_whole : G.Run := runOf 3 f_whole
theorem ok_whole (B : Facts K mg fa fn) (B2 : Exs K mg cls) (B3 : ∀ p ∈ tf.map (He.cT K), LamX.TabB base mg p.1 p.2) (B4 : tbsOk K = true) : Ok P w K mg base (TT K) (caOf K cls) "whole" 1 ["thing", "least", "most"] R_whole := by
  have eb : d_whole.body = d_whole.body := rfl
  conv at eb => rhs; whnf
  have es : d_whole.scope = d_whole.scope := rfl
  conv at es => rhs; whnf
  refine ok_def (N := ["thing", "least", "most"]) (k := 0) B d_whole 0 0 rfl rfl rfl rfl rfl rfl es eb sc_whole rfl (fun _ _ _ _ _ _ us hl => match us, hl with | [_, _, _], _ => rfl) fun cdv A outer s H E hr tk => ?_
  have hu1 := room_u hr
  have hu := room_u64 hr
  have hu5 := room_u65 hr
  have hu1' := room_u1 hr
  exact (vs_cons (vs_ret (ve_and (vis "int" (B.free 31 rfl) (B.free 30 rfl) (vv 0)) (ve_and (ve_not (vis "bool" (B.free 31 rfl) (B.free 28 rfl) (vv 0))) (ve_one (vch (op_dLe hu1) (op_dLe hu1) (vv 1) (vv 0) (vv 2))))))
    vs_nil)
theorem sc_is_move : FnScope ["n", "thing", "a", "b", "d"] ["n", "thing"] (defScope s_is_move) := ⟨rfl, rfl, rfl, by decide +kernel, rfl, by decide +kernel, by decide +kernel⟩
def f_is_move : FS := sSeq (sIf (fOrB (fNotB (fTru (fIsT "tuple" (fVar 1)))) (fAsB (fB2 dNe (fCall cLen (fCons (fVar 1) (fNil))) (fCon (.int 3))))) (sSeq (sRet (fCon (.bl false))) (sNil)) (sNil)) (sSeq (sAsg (fVar 1) (gT (.tp ((.nm 2) :: (.nm 3) :: (.nm 4) :: [])))) (sSeq (sIf (fOrB (fNotB (fTru (fRun 3 R_whole (fCons (fVar 2) (fCons (fCon (.int 0)) (fCons (fB2 dSub (fVar 0) (fCon (.int 1))) (fNil))))))) (fOrB (fNotB (fTru (fRun 3 R_whole (fCons (fVar 3) (fCons (fCon (.int 0)) (fCons (fB2 dSub (fVar 0) (fCon (.int 1))) (fNil))))))) (fNotB (fTru (fRun 3 R_whole (fCons (fVar 4) (fCons (fCon (.int 0)) (fCons (fCon (.int (20))) (fNil))))))))) (sSeq (sRet (fCon (.bl false))) (sNil)) (sNil)) (sSeq (sRet (fOr (fB2 dNe (fVar 2) (fVar 3)) (fB2 dNe (fVar 4) (fCon (.int 0))))) (sNil))))
def R_is_move : G.Run := runOf 5 f_is_move
theorem ok_is_move (B : Facts K mg fa fn) (B2 : Exs K mg cls) (B3 : ∀ p ∈ tf.map (He.cT K), LamX.TabB base mg p.1 p.2) (B4 : tbsOk K = true) : Ok P w K mg base (TT K) (caOf K cls) "is_move" 2 ["n", "thing"] R_is_move := by
  have eb : d_is_move.body = d_is_move.body := rfl
  conv at eb => rhs; whnf
  have es : d_is_move.scope = d_is_move.scope := rfl
  conv at es => rhs; whnf
  refine ok_def (N := ["n", "thing", "a", "b", "d"]) (k := 1) B d_is_move 1 1 rfl rfl rfl rfl rfl rfl es eb sc_is_move rfl (fun _ _ _ _ _ _ us hl => match us, hl with | [_, _], _ => rfl) fun cdv A outer s H E hr tk => ?_
  have k_whole : Ok P w K mg base (TT K) (caOf K cls) "whole" 1 ["thing", "least", "most"] R_whole := ok_whole B B2 B3 B4
  have hu1 := room_u hr
  have hu := room_u64 hr
  have hu5 := room_u65 hr
  have hu1' := room_u1 hr
  exact (vs_cons (vs_if (PW.pt (vw_or (vt_not (ttr (vis "tuple" (B.free 31 rfl) (B.free 38 rfl) (vv 1)))) (vw_or1 (tcm (op_dNe hu) (vbl call_dLen (B.free 32 rfl) (ac (vv 1) a0)) vi_)))) (vs_cons (vs_ret vb_)
    vs_nil) vs_nil)
    (vs_cons (sasg (vv 1) (vg_tgt (gt (gc (gn 2 sc_is_move.nd) (gc (gn 3 sc_is_move.nd) (gc (gn 4 sc_is_move.nd) g0)))) (fun i _ => fr0 rfl i)))
    (vs_cons (vs_if (PW.pt (vw_or (vt_not (ttr (vc (X := _) (k := 1) (ps := ["thing", "least", "most"]) k_whole (hr.mono (by omega)) tk (ac (vv 2) (ac vi_ (ac (vop op_dSub (vv 0) vi_) a0)))))) (vw_or (vt_not (ttr (vc (X := _) (k := 1) (ps := ["thing", "least", "most"]) k_whole (hr.mono (by omega)) tk (ac (vv 3) (ac vi_ (ac (vop op_dSub (vv 0) vi_) a0)))))) (vw_or1 (vt_not (ttr (vc (X := _) (k := 1) (ps := ["thing", "least", "most"]) k_whole (hr.mono (by omega)) tk (ac (vv 4) (ac vi_ (ac (vgi (B.int 41 rfl)) a0)))))))))) (vs_cons (vs_ret vb_)
    vs_nil) vs_nil)
    (vs_cons (vs_ret (ve_or (vcm (op_dNe hu) (vv 2) (vv 3)) (ve_one (vcm (op_dNe hu) (vv 4) vi_))))
    vs_nil))))
theorem sc_first_bad_move : FnScope ["n", "moves", "known", "last", "at", "move"] ["n", "moves"] (defScope s_first_bad_move) := ⟨rfl, rfl, rfl, by decide +kernel, rfl, by decide +kernel, by decide +kernel⟩
def f_first_bad_move : FS := sSeq (sPar2 2 3 (fCons (fNewT) (fCons (fCon .non) (fNil)))) (sSeq (sFor (wEnum (fCons (fVar 1) (fNil))) (gT (.tp ((.nm 4) :: (.nm 5) :: []))) (sSeq (sIf (fOrB (fNotB (fTru (fRun 2 R_is_move (fCons (fVar 0) (fCons (fVar 5) (fNil)))))) (fAndB (fAsB (fB2 dNotN (fVar 3) (fCon .non))) (fAsB (fB2 dLe (fVar 5) (fVar 3))))) (sSeq (sRet (fVar 4)) (sNil)) (sNil)) (sSeq (sIf (fAndB (fAsB (fB2 dEq (fB2 dIx (fVar 5) (fCon (.int 2))) (fCon (.int 0)))) (fAsB (fB2 dIn (fTup (fCons (fB2 dIx (fVar 5) (fCon (.int 1))) (fCons (fB2 dIx (fVar 5) (fCon (.int 0))) (fCons (fCon (.int 0)) (fNil))))) (fVar 2)))) (sSeq (sRet (fVar 4)) (sNil)) (sNil)) (sSeq (sAsg (fCon (.bl true)) (gSb (fVar 2) (fVar 5))) (sSeq (sAsg (fVar 5) (gNm 3)) (sNil)))))) (sSeq (sRet (fCon .non)) (sNil)))
def R_first_bad_move : G.Run := runOf 6 f_first_bad_move
theorem ok_first_bad_move (B : Facts K mg fa fn) (B2 : Exs K mg cls) (B3 : ∀ p ∈ tf.map (He.cT K), LamX.TabB base mg p.1 p.2) (B4 : tbsOk K = true) : Ok P w K mg base (TT K) (caOf K cls) "first_bad_move" 3 ["n", "moves"] R_first_bad_move := by
  have eb : d_first_bad_move.body = d_first_bad_move.body := rfl
  conv at eb => rhs; whnf
  have es : d_first_bad_move.scope = d_first_bad_move.scope := rfl
  conv at es => rhs; whnf
  refine ok_def (N := ["n", "moves", "known", "last", "at", "move"]) (k := 2) B d_first_bad_move 2 2 rfl rfl rfl rfl rfl rfl es eb sc_first_bad_move rfl (fun _ _ _ _ _ _ us hl => match us, hl with | [_, _], _ => rfl) fun cdv A outer s H E hr tk => ?_
  have k_is_move : Ok P w K mg base (TT K) (caOf K cls) "is_move" 2 ["n", "thing"] R_is_move := ok_is_move B B2 B3 B4
  have hu1 := room_u hr
  have hu := room_u64 hr
  have hu5 := room_u65 hr
  have hu1' := room_u1 hr
  exact (vs_cons (spar2 2 3 (fr0 rfl 2) (fr0 rfl 3) sc_first_bad_move.nd (ac vdT (ac vn_ a0)))
    (vs_cons (sfor (fun i _ => fr0 rfl i) (vi_enum rfl (B.free 29 rfl) (ac (vv 1) a0) rfl) (gt (gc (gn 4 sc_first_bad_move.nd) (gc (gn 5 sc_first_bad_move.nd) g0))) (vs_cons (vs_if (PW.pt (vw_or (vt_not (ttr (vc (X := _) (k := 2) (ps := ["n", "thing"]) k_is_move (hr.mono (by omega)) tk (ac (vv 0) (ac (vv 5) a0))))) (vw_or1 (PW.pt (vw_and (tcm op_dNotN (vv 3) vn_) (vw_and1 (tcm (op_dLe hu1) (vv 5) (vv 3)))))))) (vs_cons (vs_ret (vv 4))
    vs_nil) vs_nil)
    (vs_cons (vs_if (PW.pt (vw_and (tcm (op_dEq hu) (vix (vv 5) vi_) vi_) (vw_and1 (tcm (op_dIn hu5) (ve_tup (ac (vix (vv 5) vi_) (ac (vix (vv 5) vi_) (ac vi_ a0)))) (vv 2))))) (vs_cons (vs_ret (vv 4))
    vs_nil) vs_nil)
    (vs_cons (sasg vb_ (gsub hu1' (vv 2) (vv 5)))
    (vs_cons (sset 3 (fr0 rfl 3) sc_first_bad_move.nd (vv 5))
    vs_nil)))) (hp := (L2.passes_of rfl)))
    (vs_cons (vs_ret vn_)
    vs_nil)))
theorem sc_longest_time : FnScope ["moves", "a", "b", "d"] ["moves"] (defScope s_longest_time) := ⟨rfl, rfl, rfl, by decide +kernel, rfl, by decide +kernel, by decide +kernel⟩
def f_longest_time : FS := sSeq (sRet (fMaxD (fLc (wSeq (fVar 0)) (.tp ((.nm 1) :: (.nm 2) :: (.nm 3) :: [])) (fYes) (fVar 3) [1, 2, 3]))) (sNil)
def R_longest_time : G.Run := runOf 4 f_longest_time
theorem ok_longest_time (B : Facts K mg fa fn) (B2 : Exs K mg cls) (B3 : ∀ p ∈ tf.map (He.cT K), LamX.TabB base mg p.1 p.2) (B4 : tbsOk K = true) : Ok P w K mg base (TT K) (caOf K cls) "longest_time" 1 ["moves"] R_longest_time := by
  have eb : d_longest_time.body = d_longest_time.body := rfl
  conv at eb => rhs; whnf
  have es : d_longest_time.scope = d_longest_time.scope := rfl
  conv at es => rhs; whnf
  refine ok_def (N := ["moves", "a", "b", "d"]) (k := 0) B d_longest_time 3 3 rfl rfl rfl rfl rfl rfl es eb sc_longest_time rfl (fun _ _ _ _ _ _ us hl => match us, hl with | [_], _ => rfl) fun cdv A outer s H E hr tk => ?_
  have hu1 := room_u hr
  have hu := room_u64 hr
  have hu5 := room_u65 hr
  have hu1' := room_u1 hr
  exact (vs_cons (vs_ret (ve_maxD rfl hu1' (B.free 34 rfl) (ve_lc (own := [("a", 1), ("b", 2), ("d", 3)]) rfl sc_longest_time.nd (vi_seq (vv 0)) (blkOk_by (by rfl)) (by decide) (fun i _ => fr0 rfl i) (fun _ _ _ _ _ => (gt (gc (gn 1 sc_longest_time.nd) (gc (gn 2 sc_longest_time.nd) (gc (gn 3 sc_longest_time.nd) g0))))) (fun _ _ _ _ _ => by exact vts_nil) (fun _ _ _ _ _ => by exact (vv 3)) (fun _ => rfl))))
    vs_nil)
theorem sc_is_period : FnScope ["moves", "thing"] ["moves", "thing"] (defScope s_is_period) := ⟨rfl, rfl, rfl, by decide +kernel, rfl, by decide +kernel, by decide +kernel⟩
def f_is_period : FS := sSeq (sRet (fAnd (fRun 3 R_whole (fCons (fVar 1) (fCons (fCon (.int 0)) (fCons (fCon (.int (48))) (fNil))))) (fOr (fB2 dEq (fVar 1) (fCon (.int 0))) (fB2 dGt (fVar 1) (fB2 dMul (fCon (.int 2)) (fRun 1 R_longest_time (fCons (fVar 0) (fNil)))))))) (sNil)
def R_is_period : G.Run := runOf 2 f_is_period
theorem ok_is_period (B : Facts K mg fa fn) (B2 : Exs K mg cls) (B3 : ∀ p ∈ tf.map (He.cT K), LamX.TabB base mg p.1 p.2) (B4 : tbsOk K = true) : Ok P w K mg base (TT K) (caOf K cls) "is_period" 2 ["moves", "thing"] R_is_period := by
  have eb : d_is_period.body = d_is_period.body := rfl
  conv at eb => rhs; whnf
  have es : d_is_period.scope = d_is_period.scope := rfl
  conv at es => rhs; whnf
  refine ok_def (N := ["moves", "thing"]) (k := 1) B d_is_period 4 4 rfl rfl rfl rfl rfl rfl es eb sc_is_period rfl (fun _ _ _ _ _ _ us hl => match us, hl with | [_, _], _ => rfl) fun cdv A outer s H E hr tk => ?_
  have k_longest_time : Ok P w K mg base (TT K) (caOf K cls) "longest_time" 1 ["moves"] R_longest_time := ok_longest_time B B2 B3 B4
  have k_whole : Ok P w K mg base (TT K) (caOf K cls) "whole" 1 ["thing", "least", "most"] R_whole := ok_whole B B2 B3 B4
  have hu1 := room_u hr
  have hu := room_u64 hr
  have hu5 := room_u65 hr
  have hu1' := room_u1 hr
  exact (vs_cons (vs_ret (ve_and (vc (X := _) (k := 1) (ps := ["thing", "least", "most"]) k_whole (hr.mono (by omega)) tk (ac (vv 1) (ac vi_ (ac (vgi (B.int 42 rfl)) a0)))) (ve_one (ve_or (vcm (op_dEq hu) (vv 1) vi_) (ve_one (vcm op_dGt' (vv 1) (vop op_dMul vi_ (vc (X := _) (k := 1) (ps := ["moves"]) k_longest_time (hr.mono (by omega)) tk (ac (vv 0) a0)))))))))
    vs_nil)
theorem sc_form_of : FnScope ["thing", "n", "moves", "period", "wrong"] ["thing"] (defScope s_form_of) := ⟨rfl, rfl, rfl, by decide +kernel, rfl, by decide +kernel, by decide +kernel⟩
def f_form_of : FS := sSeq (sIf (fOrB (fNotB (fTru (fIsT "tuple" (fVar 0)))) (fAsB (fB2 dNe (fCall cLen (fCons (fVar 0) (fNil))) (fCon (.int 3))))) (sSeq (sRet (fTup (fCons (fCon (.str "BadNet")) (fCons (fU dNeg (fCon (.int 1))) (fNil))))) (sNil)) (sNil)) (sSeq (sAsg (fVar 0) (gT (.tp ((.nm 1) :: (.nm 2) :: (.nm 3) :: [])))) (sSeq (sIf (fNotB (fTru (fRun 3 R_whole (fCons (fVar 1) (fCons (fCon (.int 0)) (fCons (fCon (.int (30))) (fNil))))))) (sSeq (sRet (fTup (fCons (fCon (.str "BadNet")) (fCons (fCon (.int 0)) (fNil))))) (sNil)) (sNil)) (sSeq (sIf (fNotB (fTru (fIsT "tuple" (fVar 2)))) (sSeq (sRet (fTup (fCons (fCon (.str "BadNet")) (fCons (fCon (.int 1)) (fNil))))) (sNil)) (sNil)) (sSeq (sIf (fAsB (fB2 dGt (fCall cLen (fCons (fVar 2) (fNil))) (fCon (.int (60))))) (sSeq (sRet (fTup (fCons (fCon (.str "TooMany")) (fCons (fCall cLen (fCons (fVar 2) (fNil))) (fNil))))) (sNil)) (sNil)) (sSeq (sAsg (fRun 2 R_first_bad_move (fCons (fVar 1) (fCons (fVar 2) (fNil)))) (gNm 4)) (sSeq (sIf (fAsB (fB2 dNotN (fVar 4) (fCon .non))) (sSeq (sRet (fTup (fCons (fCon (.str "BadNet")) (fCons (fTup (fCons (fCon (.int 1)) (fCons (fVar 4) (fNil)))) (fNil))))) (sNil)) (sNil)) (sSeq (sRet (fIf (fTru (fRun 2 R_is_period (fCons (fVar 2) (fCons (fVar 3) (fNil))))) (fCon .non) (fTup (fCons (fCon (.str "BadNet")) (fCons (fCon (.int 2)) (fNil)))))) (sNil))))))))
def R_form_of : G.Run := runOf 5 f_form_of
theorem ok_form_of (B : Facts K mg fa fn) (B2 : Exs K mg cls) (B3 : ∀ p ∈ tf.map (He.cT K), LamX.TabB base mg p.1 p.2) (B4 : tbsOk K = true) : Ok P w K mg base (TT K) (caOf K cls) "form_of" 4 ["thing"] R_form_of := by
  have eb : d_form_of.body = d_form_of.body := rfl
  conv at eb => rhs; whnf
  have es : d_form_of.scope = d_form_of.scope := rfl
  conv at es => rhs; whnf
  refine ok_def (N := ["thing", "n", "moves", "period", "wrong"]) (k := 3) B d_form_of 5 5 rfl rfl rfl rfl rfl rfl es eb sc_form_of rfl (fun _ _ _ _ _ _ us hl => match us, hl with | [_], _ => rfl) fun cdv A outer s H E hr tk => ?_
  have k_first_bad_move : Ok P w K mg base (TT K) (caOf K cls) "first_bad_move" 3 ["n", "moves"] R_first_bad_move := ok_first_bad_move B B2 B3 B4
  have k_is_period : Ok P w K mg base (TT K) (caOf K cls) "is_period" 2 ["moves", "thing"] R_is_period := ok_is_period B B2 B3 B4
  have k_whole : Ok P w K mg base (TT K) (caOf K cls) "whole" 1 ["thing", "least", "most"] R_whole := ok_whole B B2 B3 B4
  have hu1 := room_u hr
  have hu := room_u64 hr
  have hu5 := room_u65 hr
  have hu1' := room_u1 hr
  exact (vs_cons (vs_if (PW.pt (vw_or (vt_not (ttr (vis "tuple" (B.free 31 rfl) (B.free 38 rfl) (vv 0)))) (vw_or1 (tcm (op_dNe hu) (vbl call_dLen (B.free 32 rfl) (ac (vv 0) a0)) vi_)))) (vs_cons (vs_ret (ve_tup (ac vs_ (ac (ve_un op_dNeg vi_) a0))))
    vs_nil) vs_nil)
    (vs_cons (sasg (vv 0) (vg_tgt (gt (gc (gn 1 sc_form_of.nd) (gc (gn 2 sc_form_of.nd) (gc (gn 3 sc_form_of.nd) g0)))) (fun i _ => fr0 rfl i)))
    (vs_cons (vs_if (vt_not (ttr (vc (X := _) (k := 1) (ps := ["thing", "least", "most"]) k_whole (hr.mono (by omega)) tk (ac (vv 1) (ac vi_ (ac (vgi (B.int 39 rfl)) a0)))))) (vs_cons (vs_ret (ve_tup (ac vs_ (ac vi_ a0))))
    vs_nil) vs_nil)
    (vs_cons (vs_if (vt_not (ttr (vis "tuple" (B.free 31 rfl) (B.free 38 rfl) (vv 2)))) (vs_cons (vs_ret (ve_tup (ac vs_ (ac vi_ a0))))
    vs_nil) vs_nil)
    (vs_cons (vs_if (tcm op_dGt' (vbl call_dLen (B.free 32 rfl) (ac (vv 2) a0)) (vgi (B.int 40 rfl))) (vs_cons (vs_ret (ve_tup (ac vs_ (ac (vbl call_dLen (B.free 32 rfl) (ac (vv 2) a0)) a0))))
    vs_nil) vs_nil)
    (vs_cons (sset 4 (fr0 rfl 4) sc_form_of.nd (vc (X := _) (k := 3) (ps := ["n", "moves"]) k_first_bad_move (hr.mono (by omega)) tk (ac (vv 1) (ac (vv 2) a0))))
    (vs_cons (vs_if (tcm op_dNotN (vv 4) vn_) (vs_cons (vs_ret (ve_tup (ac vs_ (ac (ve_tup (ac vi_ (ac (vv 4) a0))) a0))))
    vs_nil) vs_nil)
    (vs_cons (vs_ret (ve_if (ttr (vc (X := _) (k := 2) (ps := ["moves", "thing"]) k_is_period (hr.mono (by omega)) tk (ac (vv 2) (ac (vv 3) a0)))) vn_ (ve_tup (ac vs_ (ac vi_ a0)))))
    vs_nil))))))))
theorem sc_made_net : FnScope ["thing", "wrong"] ["thing"] (defScope s_made_net) := ⟨rfl, rfl, rfl, by decide +kernel, rfl, by decide +kernel, by decide +kernel⟩
def f_made_net : FS := sSeq (sAsg (fRun 1 R_form_of (fCons (fVar 0) (fNil))) (gNm 1)) (sSeq (sIf (fAsB (fB2 dNotN (fVar 1) (fCon .non))) (sSeq (sIf (fAsB (fB2 dEq (fB2 dIx (fVar 1) (fCon (.int 0))) (fCon (.str "TooMany")))) (sSeq (sRaise 2 (fCons (fB2 dIx (fVar 1) (fCon (.int 1))) (fNil))) (sNil)) (sNil)) (sSeq (sRaise 1 (fCons (fB2 dIx (fVar 1) (fCon (.int 1))) (fNil))) (sNil))) (sNil)) (sSeq (sRet (fVar 0)) (sNil)))
def R_made_net : G.Run := runOf 2 f_made_net
theorem ok_made_net (B : Facts K mg fa fn) (B2 : Exs K mg cls) (B3 : ∀ p ∈ tf.map (He.cT K), LamX.TabB base mg p.1 p.2) (B4 : tbsOk K = true) : Ok P w K mg base (TT K) (caOf K cls) "made_net" 5 ["thing"] R_made_net := by
  have eb : d_made_net.body = d_made_net.body := rfl
  conv at eb => rhs; whnf
  have es : d_made_net.scope = d_made_net.scope := rfl
  conv at es => rhs; whnf
  refine ok_def (N := ["thing", "wrong"]) (k := 4) B d_made_net 6 6 rfl rfl rfl rfl rfl rfl es eb sc_made_net rfl (fun _ _ _ _ _ _ us hl => match us, hl with | [_], _ => rfl) fun cdv A outer s H E hr tk => ?_
  have k_form_of : Ok P w K mg base (TT K) (caOf K cls) "form_of" 4 ["thing"] R_form_of := ok_form_of B B2 B3 B4
  have hu1 := room_u hr
  have hu := room_u64 hr
  have hu5 := room_u65 hr
  have hu1' := room_u1 hr
  exact (vs_cons (sset 1 (fr0 rfl 1) sc_made_net.nd (vc (X := _) (k := 4) (ps := ["thing"]) k_form_of (hr.mono (by omega)) tk (ac (vv 0) a0)))
    (vs_cons (vs_if (tcm op_dNotN (vv 1) vn_) (vs_cons (vs_if (tcm (op_dEq hu) (vix (vv 1) vi_) vs_) (vs_cons (sraise (B2.ex 2 "TooMany" rfl) (ok_init (P := P) (w := w) (base := base) B B2).1 (hr.mono (by decide)) (ok_init (P := P) (w := w) (base := base) B B2).2 tk passN (ac (vix (vv 1) vi_) a0))
    vs_nil) vs_nil)
    (vs_cons (sraise (B2.ex 1 "BadNet" rfl) (ok_init (P := P) (w := w) (base := base) B B2).1 (hr.mono (by decide)) (ok_init (P := P) (w := w) (base := base) B B2).2 tk passN (ac (vix (vv 1) vi_) a0))
    vs_nil)) vs_nil)
    (vs_cons (vs_ret (vv 0))
    vs_nil)))
theorem sc_is_net : FnScope ["thing"] ["thing"] (defScope s_is_net) := ⟨rfl, rfl, rfl, by decide +kernel, rfl, by decide +kernel, by decide +kernel⟩
def f_is_net : FS := sSeq (sRet (fB2 dIsN (fRun 1 R_form_of (fCons (fVar 0) (fNil))) (fCon .non))) (sNil)
def R_is_net : G.Run := runOf 1 f_is_net
theorem ok_is_net (B : Facts K mg fa fn) (B2 : Exs K mg cls) (B3 : ∀ p ∈ tf.map (He.cT K), LamX.TabB base mg p.1 p.2) (B4 : tbsOk K = true) : Ok P w K mg base (TT K) (caOf K cls) "is_net" 5 ["thing"] R_is_net := by
  have eb : d_is_net.body = d_is_net.body := rfl
  conv at eb => rhs; whnf
  have es : d_is_net.scope = d_is_net.scope := rfl
  conv at es => rhs; whnf
  refine ok_def (N := ["thing"]) (k := 4) B d_is_net 7 7 rfl rfl rfl rfl rfl rfl es eb sc_is_net rfl (fun _ _ _ _ _ _ us hl => match us, hl with | [_], _ => rfl) fun cdv A outer s H E hr tk => ?_
  have k_form_of : Ok P w K mg base (TT K) (caOf K cls) "form_of" 4 ["thing"] R_form_of := ok_form_of B B2 B3 B4
  have hu1 := room_u hr
  have hu := room_u64 hr
  have hu5 := room_u65 hr
  have hu1' := room_u1 hr
  exact (vs_cons (vs_ret (vcm op_dIsN (vc (X := _) (k := 4) (ps := ["thing"]) k_form_of (hr.mono (by omega)) tk (ac (vv 0) a0)) vn_))
    vs_nil)
theorem sc__law_pool : FnScope ["script", "digits", "stirred", "at", "cell"] ["script"] (defScope s__law_pool) := ⟨rfl, rfl, rfl, by decide +kernel, rfl, by decide +kernel, by decide +kernel⟩
def f__law_pool : FS := sSeq (sAsg (fTup (fCons (fCon (.int 0)) (fCons (fCon (.int 7)) (fNil)))) (gT (.tp ((.nm 1) :: (.nm 2) :: [])))) (sSeq (sFor (wR1 (fCons (fCall cLen (fCons (fVar 0) (fNil))) (fNil))) (gT (.nm 3)) (sSeq (sAsg (fCall cInt (fCons (fCall cMax (fCons (fB2 dIx (fVar 0) (fVar 3)) (fCons (fB2 dSub (fU dNeg (fCon (.int 1))) (fB2 dIx (fVar 0) (fVar 3))) (fNil)))) (fNil))) (gNm 4)) (sSeq (sAsg (fB2 dMod (fCall cInt (fCons (fB2 dAdd (fB2 dAdd (fB2 dMul (fVar 2) (fCon (.int 48271))) (fB2 dMod (fVar 4) (fCon (.int 2147483629)))) (fCon (.int 11))) (fNil))) (fCon (.int 2147483647))) (gNm 2)) (sSeq (sAsg (fIf (fAndB (fAsB (fB2 dGe (fVar 4) (fB2 dPow (fCon (.int 10)) (fCon (.int 12))))) (fAsB (fB2 dLt (fVar 1) (fB2 dPow (fCon (.int 10)) (fCon (.int 60)))))) (fCall cInt (fCons (fB2 dAdd (fB2 dMul (fVar 1) (fB2 dPow (fCon (.int 10)) (fCon (.int 60)))) (fB2 dMod (fVar 4) (fB2 dPow (fCon (.int 10)) (fCon (.int 60))))) (fNil))) (fVar 1)) (gNm 1)) (sNil))))) (sSeq (sRet (fLst (fCons (fVar 1) (fCons (fVar 2) (fCons (fCon (.int 0)) (fNil)))))) (sNil)))
def R__law_pool : G.Run := runOf 5 f__law_pool
theorem ok__law_pool (B : Facts K mg fa fn) (B2 : Exs K mg cls) (B3 : ∀ p ∈ tf.map (He.cT K), LamX.TabB base mg p.1 p.2) (B4 : tbsOk K = true) : Ok P w K mg base (TT K) (caOf K cls) "_law_pool" 1 ["script"] R__law_pool := by
  have eb : d__law_pool.body = d__law_pool.body := rfl
  conv at eb => rhs; whnf
  have es : d__law_pool.scope = d__law_pool.scope := rfl
  conv at es => rhs; whnf
  refine ok_def (N := ["script", "digits", "stirred", "at", "cell"]) (k := 0) B d__law_pool 8 8 rfl rfl rfl rfl rfl rfl es eb sc__law_pool rfl (fun _ _ _ _ _ _ us hl => match us, hl with | [_], _ => rfl) fun cdv A outer s H E hr tk => ?_
  have hu1 := room_u hr
  have hu := room_u64 hr
  have hu5 := room_u65 hr
  have hu1' := room_u1 hr
  exact (vs_cons (sasg (ve_tup (ac vi_ (ac vi_ a0))) (vg_tgt (gt (gc (gn 1 sc__law_pool.nd) (gc (gn 2 sc__law_pool.nd) g0))) (fun i _ => fr0 rfl i)))
    (vs_cons (sfor (fun i _ => fr0 rfl i) (vi_range1 rfl (B.free 35 rfl) (ac (vbl call_dLen (B.free 32 rfl) (ac (vv 0) a0)) a0) rfl) (gn 3 sc__law_pool.nd) (vs_cons (sset 4 (fr0 rfl 4) sc__law_pool.nd (vty call_dInt (B.free 30 rfl) (ac (vbl (call_dMax rfl) (B.free 34 rfl) (ac (vix (vv 0) (vv 3)) (ac (vop op_dSub (ve_un op_dNeg vi_) (vix (vv 0) (vv 3))) a0))) a0)))
    (vs_cons (sset 2 (fr0 rfl 2) sc__law_pool.nd (vop op_dMod (vty call_dInt (B.free 30 rfl) (ac (vop op_dAdd (vop op_dAdd (vop op_dMul (vv 2) vi_) (vop op_dMod (vv 4) vi_)) vi_) a0)) vi_))
    (vs_cons (sset 1 (fr0 rfl 1) sc__law_pool.nd (ve_if (PW.pt (vw_and (tcm op_dGe' (vv 4) (vop op_dPow vi_ vi_)) (vw_and1 (tcm (op_dLt hu1) (vv 1) (vop op_dPow vi_ vi_))))) (vty call_dInt (B.free 30 rfl) (ac (vop op_dAdd (vop op_dMul (vv 1) (vop op_dPow vi_ vi_)) (vop op_dMod (vv 4) (vop op_dPow vi_ vi_))) a0)) (vv 1)))
    vs_nil))) (hp := (L2.passes_of rfl)))
    (vs_cons (vs_ret (ve_lst (ac (vv 1) (ac (vv 2) (ac vi_ a0)))))
    vs_nil)))
theorem sc__law_take : FnScope ["jar", "many", "made_now"] ["jar", "many"] (defScope s__law_take) := ⟨rfl, rfl, rfl, by decide +kernel, rfl, by decide +kernel, by decide +kernel⟩
def f__law_take : FS := sSeq (sIf (fAsB (fB2 dGt (fB2 dIx (fVar 0) (fCon (.int 0))) (fCon (.int 0)))) (sSeq (sAsg (fB2 dMod (fCall cInt (fCons (fB2 dIx (fVar 0) (fCon (.int 0))) (fNil))) (fVar 1)) (gNm 2)) (sSeq (sAsg (fB2 dDiv (fB2 dIx (fVar 0) (fCon (.int 0))) (fVar 1)) (gSb (fVar 0) (fCon (.int 0)))) (sSeq (sRet (fVar 2)) (sNil)))) (sNil)) (sSeq (sAsg (fB2 dAdd (fB2 dIx (fVar 0) (fCon (.int 2))) (fCon (.int 1))) (gSb (fVar 0) (fCon (.int 2)))) (sSeq (sAsg (fB2 dMod (fCall cInt (fCons (fB2 dAdd (fB2 dAdd (fB2 dMul (fB2 dIx (fVar 0) (fCon (.int 1))) (fCon (.int 39373))) (fB2 dMul (fCon (.int 7919)) (fB2 dIx (fVar 0) (fCon (.int 2))))) (fCon (.int 7))) (fNil))) (fCon (.int 2147483647))) (gSb (fVar 0) (fCon (.int 1)))) (sSeq (sRet (fB2 dMod (fCall cInt (fCons (fB2 dDiv (fB2 dMod (fCall cInt (fCons (fB2 dMul (fB2 dIx (fVar 0) (fCon (.int 1))) (fB2 dIx (fVar 0) (fCon (.int 1)))) (fNil))) (fCon (.int 2147483629))) (fCon (.int 32))) (fNil))) (fVar 1))) (sNil))))
def R__law_take : G.Run := runOf 3 f__law_take
theorem ok__law_take (B : Facts K mg fa fn) (B2 : Exs K mg cls) (B3 : ∀ p ∈ tf.map (He.cT K), LamX.TabB base mg p.1 p.2) (B4 : tbsOk K = true) : Ok P w K mg base (TT K) (caOf K cls) "_law_take" 1 ["jar", "many"] R__law_take := by
  have eb : d__law_take.body = d__law_take.body := rfl
  conv at eb => rhs; whnf
  have es : d__law_take.scope = d__law_take.scope := rfl
  conv at es => rhs; whnf
  refine ok_def (N := ["jar", "many", "made_now"]) (k := 0) B d__law_take 9 9 rfl rfl rfl rfl rfl rfl es eb sc__law_take rfl (fun _ _ _ _ _ _ us hl => match us, hl with | [_, _], _ => rfl) fun cdv A outer s H E hr tk => ?_
  have hu1 := room_u hr
  have hu := room_u64 hr
  have hu5 := room_u65 hr
  have hu1' := room_u1 hr
  exact (vs_cons (vs_if (tcm op_dGt' (vix (vv 0) vi_) vi_) (vs_cons (sset 2 (fr0 rfl 2) sc__law_take.nd (vop op_dMod (vty call_dInt (B.free 30 rfl) (ac (vix (vv 0) vi_) a0)) (vv 1)))
    (vs_cons (sasg (vop op_dDiv (vix (vv 0) vi_) (vv 1)) (gsub hu1' (vv 0) vi_))
    (vs_cons (vs_ret (vv 2))
    vs_nil))) vs_nil)
    (vs_cons (sasg (vop op_dAdd (vix (vv 0) vi_) vi_) (gsub hu1' (vv 0) vi_))
    (vs_cons (sasg (vop op_dMod (vty call_dInt (B.free 30 rfl) (ac (vop op_dAdd (vop op_dAdd (vop op_dMul (vix (vv 0) vi_) vi_) (vop op_dMul vi_ (vix (vv 0) vi_))) vi_) a0)) vi_) (gsub hu1' (vv 0) vi_))
    (vs_cons (vs_ret (vop op_dMod (vty call_dInt (B.free 30 rfl) (ac (vop op_dDiv (vop op_dMod (vty call_dInt (B.free 30 rfl) (ac (vop op_dMul (vix (vv 0) vi_) (vix (vv 0) vi_)) a0)) vi_) vi_) a0)) (vv 1)))
    vs_nil))))
theorem sc__law_one : FnScope ["jar", "things"] ["jar", "things"] (defScope s__law_one) := ⟨rfl, rfl, rfl, by decide +kernel, rfl, by decide +kernel, by decide +kernel⟩
def f__law_one : FS := sSeq (sRet (fB2 dIx (fVar 1) (fRun 2 R__law_take (fCons (fVar 0) (fCons (fCall cLen (fCons (fVar 1) (fNil))) (fNil)))))) (sNil)
def R__law_one : G.Run := runOf 2 f__law_one
theorem ok__law_one (B : Facts K mg fa fn) (B2 : Exs K mg cls) (B3 : ∀ p ∈ tf.map (He.cT K), LamX.TabB base mg p.1 p.2) (B4 : tbsOk K = true) : Ok P w K mg base (TT K) (caOf K cls) "_law_one" 2 ["jar", "things"] R__law_one := by
  have eb : d__law_one.body = d__law_one.body := rfl
  conv at eb => rhs; whnf
  have es : d__law_one.scope = d__law_one.scope := rfl
  conv at es => rhs; whnf
  refine ok_def (N := ["jar", "things"]) (k := 1) B d__law_one 10 10 rfl rfl rfl rfl rfl rfl es eb sc__law_one rfl (fun _ _ _ _ _ _ us hl => match us, hl with | [_, _], _ => rfl) fun cdv A outer s H E hr tk => ?_
  have k__law_take : Ok P w K mg base (TT K) (caOf K cls) "_law_take" 1 ["jar", "many"] R__law_take := ok__law_take B B2 B3 B4
  have hu1 := room_u hr
  have hu := room_u64 hr
  have hu5 := room_u65 hr
  have hu1' := room_u1 hr
  exact (vs_cons (vs_ret (vix (vv 1) (vc (X := _) (k := 1) (ps := ["jar", "many"]) k__law_take (hr.mono (by omega)) tk (ac (vv 0) (ac (vbl call_dLen (B.free 32 rfl) (ac (vv 1) a0)) a0)))))
    vs_nil)
theorem sc__law_xp_is_whole : FnScope ["thing"] ["thing"] (defScope s__law_xp_is_whole) := ⟨rfl, rfl, rfl, by decide +kernel, rfl, by decide +kernel, by decide +kernel⟩
def f__law_xp_is_whole : FS := sSeq (sRet (fAnd (fIsT "int" (fVar 0)) (fNot (fIsT "bool" (fVar 0))))) (sNil)
def R__law_xp_is_whole : G.Run := runOf 1 f__law_xp_is_whole
theorem ok__law_xp_is_whole (B : Facts K mg fa fn) (B2 : Exs K mg cls) (B3 : ∀ p ∈ tf.map (He.cT K), LamX.TabB base mg p.1 p.2) (B4 : tbsOk K = true) : Ok P w K mg base (TT K) (caOf K cls) "_law_xp_is_whole" 1 ["thing"] R__law_xp_is_whole := by
  have eb : d__law_xp_is_whole.body = d__law_xp_is_whole.body := rfl
  conv at eb => rhs; whnf
  have es : d__law_xp_is_whole.scope = d__law_xp_is_whole.scope := rfl
  conv at es => rhs; whnf
  refine ok_def (N := ["thing"]) (k := 0) B d__law_xp_is_whole 11 11 rfl rfl rfl rfl rfl rfl es eb sc__law_xp_is_whole rfl (fun _ _ _ _ _ _ us hl => match us, hl with | [_], _ => rfl) fun cdv A outer s H E hr tk => ?_
  have hu1 := room_u hr
  have hu := room_u64 hr
  have hu5 := room_u65 hr
  have hu1' := room_u1 hr
  exact (vs_cons (vs_ret (ve_and (vis "int" (B.free 31 rfl) (B.free 30 rfl) (vv 0)) (ve_one (ve_not (vis "bool" (B.free 31 rfl) (B.free 28 rfl) (vv 0))))))
    vs_nil)
theorem sc__law_xp_is_in : FnScope ["thing", "low", "high"] ["thing", "low", "high"] (defScope s__law_xp_is_in) := ⟨rfl, rfl, rfl, by decide +kernel, rfl, by decide +kernel, by decide +kernel⟩
def f__law_xp_is_in : FS := sSeq (sRet (fAnd (fRun 1 R__law_xp_is_whole (fCons (fVar 0) (fNil))) (fChain dLe dLe (fVar 1) (fVar 0) (fVar 2)))) (sNil)
def R__law_xp_is_in : G.Run := runOf 3 f__law_xp_is_in
theorem ok__law_xp_is_in (B : Facts K mg fa fn) (B2 : Exs K mg cls) (B3 : ∀ p ∈ tf.map (He.cT K), LamX.TabB base mg p.1 p.2) (B4 : tbsOk K = true) : Ok P w K mg base (TT K) (caOf K cls) "_law_xp_is_in" 2 ["thing", "low", "high"] R__law_xp_is_in := by
  have eb : d__law_xp_is_in.body = d__law_xp_is_in.body := rfl
  conv at eb => rhs; whnf
  have es : d__law_xp_is_in.scope = d__law_xp_is_in.scope := rfl
  conv at es => rhs; whnf
  refine ok_def (N := ["thing", "low", "high"]) (k := 1) B d__law_xp_is_in 12 12 rfl rfl rfl rfl rfl rfl es eb sc__law_xp_is_in rfl (fun _ _ _ _ _ _ us hl => match us, hl with | [_, _, _], _ => rfl) fun cdv A outer s H E hr tk => ?_
  have k__law_xp_is_whole : Ok P w K mg base (TT K) (caOf K cls) "_law_xp_is_whole" 1 ["thing"] R__law_xp_is_whole := ok__law_xp_is_whole B B2 B3 B4
  have hu1 := room_u hr
  have hu := room_u64 hr
  have hu5 := room_u65 hr
  have hu1' := room_u1 hr
  exact (vs_cons (vs_ret (ve_and (vc (X := _) (k := 1) (ps := ["thing"]) k__law_xp_is_whole (hr.mono (by omega)) tk (ac (vv 0) a0)) (ve_one (vch (op_dLe hu1) (op_dLe hu1) (vv 1) (vv 0) (vv 2)))))
    vs_nil)
theorem sc__law_xp_same : FnScope ["heard", "owed", "todo", "one", "due", "is_so", "at"] ["heard", "owed"] (defScope s__law_xp_same) := ⟨rfl, rfl, rfl, by decide +kernel, rfl, by decide +kernel, by decide +kernel⟩
def f__law_xp_same : FS := sSeq (sAsg (fLst (fCons (fTup (fCons (fVar 0) (fCons (fVar 1) (fNil)))) (fNil))) (gNm 2)) (sSeq (sWhile FUEL (fAsB (fB2 dNe (fVar 2) (fLst (fNil)))) (sSeq (sAsg (fMt "list" mPop (fVar 2) fNil) (gT (.tp ((.nm 3) :: (.nm 4) :: [])))) (sSeq (sIf (fAsB (fB2 dIsN (fVar 4) (fCon .non))) (sSeq (sAsg (fB2 dIsN (fVar 3) (fCon .non)) (gNm 5)) (sNil)) (sSeq (sIf (fTru (fIsT "bool" (fVar 4))) (sSeq (sAsg (fAnd (fIsT "bool" (fVar 3)) (fB2 dEq (fVar 3) (fVar 4))) (gNm 5)) (sNil)) (sSeq (sIf (fTru (fIsT "int" (fVar 4))) (sSeq (sAsg (fAnd (fRun 1 R__law_xp_is_whole (fCons (fVar 3) (fNil))) (fB2 dEq (fVar 3) (fVar 4))) (gNm 5)) (sNil)) (sSeq (sIf (fTru (fIsT "str" (fVar 4))) (sSeq (sAsg (fAnd (fIsT "str" (fVar 3)) (fB2 dEq (fVar 3) (fVar 4))) (gNm 5)) (sNil)) (sSeq (sAsg (fIf (fTru (fIsT "tuple" (fVar 4))) (fIsT "tuple" (fVar 3)) (fIsT "list" (fVar 3))) (gNm 5)) (sSeq (sAsg (fAnd (fVar 5) (fB2 dEq (fCall cLen (fCons (fVar 3) (fNil))) (fCall cLen (fCons (fVar 4) (fNil))))) (gNm 5)) (sSeq (sDrop (fMt "list" mExtend (fVar 2) (fCons (fIf (fTru (fVar 5)) (fLc (wR1 (fCons (fCall cLen (fCons (fVar 4) (fNil))) (fNil))) (.nm 6) (fYes) (fTup (fCons (fB2 dIx (fVar 3) (fVar 6)) (fCons (fB2 dIx (fVar 4) (fVar 6)) (fNil)))) [6]) (fLst (fNil))) (fNil)))) (sNil))))) (sNil))) (sNil))) (sNil))) (sSeq (sIf (fNotB (fTru (fVar 5))) (sSeq (sRet (fCon (.bl false))) (sNil)) (sNil)) (sNil))))) (sSeq (sRet (fCon (.bl true))) (sNil)))
def R__law_xp_same : G.Run := runOf 7 f__law_xp_same
theorem ok__law_xp_same (B : Facts K mg fa fn) (B2 : Exs K mg cls) (B3 : ∀ p ∈ tf.map (He.cT K), LamX.TabB base mg p.1 p.2) (B4 : tbsOk K = true) : Ok P w K mg base (TT K) (caOf K cls) "_law_xp_same" 2 ["heard", "owed"] R__law_xp_same := by
  have eb : d__law_xp_same.body = d__law_xp_same.body := rfl
  conv at eb => rhs; whnf
  have es : d__law_xp_same.scope = d__law_xp_same.scope := rfl
  conv at es => rhs; whnf
  refine ok_def (N := ["heard", "owed", "todo", "one", "due", "is_so", "at"]) (k := 1) B d__law_xp_same 13 13 rfl rfl rfl rfl rfl rfl es eb sc__law_xp_same rfl (fun _ _ _ _ _ _ us hl => match us, hl with | [_, _], _ => rfl) fun cdv A outer s H E hr tk => ?_
  have k__law_xp_is_whole : Ok P w K mg base (TT K) (caOf K cls) "_law_xp_is_whole" 1 ["thing"] R__law_xp_is_whole := ok__law_xp_is_whole B B2 B3 B4
  have hu1 := room_u hr
  have hu := room_u64 hr
  have hu5 := room_u65 hr
  have hu1' := room_u1 hr
  exact (vs_cons (sset 2 (fr0 rfl 2) sc__law_xp_same.nd (ve_lst (ac (ve_tup (ac (vv 0) (ac (vv 1) a0))) a0)))
    (vs_cons (swhile (tcm (op_dNe hu) (vv 2) (ve_lst a0)) (vs_cons (sasg (vm0 PySem.F.plainAttrs_list PySem.F.slot_list_pop PySem.F.type_list_pop mt_dPop (vv 2)) (vg_tgt (gt (gc (gn 3 sc__law_xp_same.nd) (gc (gn 4 sc__law_xp_same.nd) g0))) (fun i _ => fr0 rfl i)))
    (vs_cons (vs_if (tcm op_dIsN (vv 4) vn_) (vs_cons (sset 5 (fr0 rfl 5) sc__law_xp_same.nd (vcm op_dIsN (vv 3) vn_))
    vs_nil) (vs_cons (vs_if (ttr (vis "bool" (B.free 31 rfl) (B.free 28 rfl) (vv 4))) (vs_cons (sset 5 (fr0 rfl 5) sc__law_xp_same.nd (ve_and (vis "bool" (B.free 31 rfl) (B.free 28 rfl) (vv 3)) (ve_one (vcm (op_dEq hu) (vv 3) (vv 4)))))
    vs_nil) (vs_cons (vs_if (ttr (vis "int" (B.free 31 rfl) (B.free 30 rfl) (vv 4))) (vs_cons (sset 5 (fr0 rfl 5) sc__law_xp_same.nd (ve_and (vc (X := _) (k := 1) (ps := ["thing"]) k__law_xp_is_whole (hr.mono (by omega)) tk (ac (vv 3) a0)) (ve_one (vcm (op_dEq hu) (vv 3) (vv 4)))))
    vs_nil) (vs_cons (vs_if (ttr (vis "str" (B.free 31 rfl) (B.free 37 rfl) (vv 4))) (vs_cons (sset 5 (fr0 rfl 5) sc__law_xp_same.nd (ve_and (vis "str" (B.free 31 rfl) (B.free 37 rfl) (vv 3)) (ve_one (vcm (op_dEq hu) (vv 3) (vv 4)))))
    vs_nil) (vs_cons (sset 5 (fr0 rfl 5) sc__law_xp_same.nd (ve_if (ttr (vis "tuple" (B.free 31 rfl) (B.free 38 rfl) (vv 4))) (vis "tuple" (B.free 31 rfl) (B.free 38 rfl) (vv 3)) (vis "list" (B.free 31 rfl) (B.free 33 rfl) (vv 3))))
    (vs_cons (sset 5 (fr0 rfl 5) sc__law_xp_same.nd (ve_and (vv 5) (ve_one (vcm (op_dEq hu) (vbl call_dLen (B.free 32 rfl) (ac (vv 3) a0)) (vbl call_dLen (B.free 32 rfl) (ac (vv 4) a0))))))
    (vs_cons (sexp (vmt PySem.F.plainAttrs_list PySem.F.slot_list_extend PySem.F.type_list_extend mt_dExtend (vv 2) (ac (ve_if (ttr (vv 5)) (ve_lc (own := [("at", 6)]) rfl sc__law_xp_same.nd (vi_range1 rfl (B.free 35 rfl) (ac (vbl call_dLen (B.free 32 rfl) (ac (vv 4) a0)) a0) rfl) (blkOk_by (by rfl)) (by decide) (fun i _ => fr0 rfl i) (fun _ _ _ _ _ => (gn 6 sc__law_xp_same.nd)) (fun _ _ _ _ _ => by exact vts_nil) (fun _ _ _ _ _ => by exact (ve_tup (ac (vix (vv 3) (vv 6)) (ac (vix (vv 4) (vv 6)) a0)))) (fun _ => rfl)) (ve_lst a0)) a0)))
    vs_nil))))
    vs_nil))
    vs_nil))
    vs_nil))
    (vs_cons (vs_if (vt_not (ttr (vv 5))) (vs_cons (vs_ret vb_)
    vs_nil) vs_nil)
    vs_nil))) (hp := (L2.passes_of rfl)))
    (vs_cons (vs_ret vb_)
    vs_nil)))
theorem sc__law_xp_is_move : FnScope ["n", "thing"] ["n", "thing"] (defScope s__law_xp_is_move) := ⟨rfl, rfl, rfl, by decide +kernel, rfl, by decide +kernel, by decide +kernel⟩
def f__law_xp_is_move : FS := sSeq (sIf (fOrB (fNotB (fTru (fIsT "tuple" (fVar 1)))) (fAsB (fB2 dNe (fCall cLen (fCons (fVar 1) (fNil))) (fCon (.int 3))))) (sSeq (sRet (fCon (.bl false))) (sNil)) (sNil)) (sSeq (sIf (fOrB (fNotB (fTru (fRun 3 R__law_xp_is_in (fCons (fB2 dIx (fVar 1) (fCon (.int 0))) (fCons (fCon (.int 0)) (fCons (fB2 dSub (fVar 0) (fCon (.int 1))) (fNil))))))) (fNotB (fTru (fRun 3 R__law_xp_is_in (fCons (fB2 dIx (fVar 1) (fCon (.int 1))) (fCons (fCon (.int 0)) (fCons (fB2 dSub (fVar 0) (fCon (.int 1))) (fNil)))))))) (sSeq (sRet (fCon (.bl false))) (sNil)) (sNil)) (sSeq (sRet (fAnd (fRun 3 R__law_xp_is_in (fCons (fB2 dIx (fVar 1) (fCon (.int 2))) (fCons (fCon (.int 0)) (fCons (fCon (.int 20)) (fNil))))) (fOr (fB2 dNe (fB2 dIx (fVar 1) (fCon (.int 0))) (fB2 dIx (fVar 1) (fCon (.int 1)))) (fB2 dGt (fB2 dIx (fVar 1) (fCon (.int 2))) (fCon (.int 0)))))) (sNil)))
def R__law_xp_is_move : G.Run := runOf 2 f__law_xp_is_move
theorem ok__law_xp_is_move (B : Facts K mg fa fn) (B2 : Exs K mg cls) (B3 : ∀ p ∈ tf.map (He.cT K), LamX.TabB base mg p.1 p.2) (B4 : tbsOk K = true) : Ok P w K mg base (TT K) (caOf K cls) "_law_xp_is_move" 3 ["n", "thing"] R__law_xp_is_move := by
  have eb : d__law_xp_is_move.body = d__law_xp_is_move.body := rfl
  conv at eb => rhs; whnf
  have es : d__law_xp_is_move.scope = d__law_xp_is_move.scope := rfl
  conv at es => rhs; whnf
  refine ok_def (N := ["n", "thing"]) (k := 2) B d__law_xp_is_move 14 14 rfl rfl rfl rfl rfl rfl es eb sc__law_xp_is_move rfl (fun _ _ _ _ _ _ us hl => match us, hl with | [_, _], _ => rfl) fun cdv A outer s H E hr tk => ?_
  have k__law_xp_is_in : Ok P w K mg base (TT K) (caOf K cls) "_law_xp_is_in" 2 ["thing", "low", "high"] R__law_xp_is_in := ok__law_xp_is_in B B2 B3 B4
  have hu1 := room_u hr
  have hu := room_u64 hr
  have hu5 := room_u65 hr
  have hu1' := room_u1 hr
  exact (vs_cons (vs_if (PW.pt (vw_or (vt_not (ttr (vis "tuple" (B.free 31 rfl) (B.free 38 rfl) (vv 1)))) (vw_or1 (tcm (op_dNe hu) (vbl call_dLen (B.free 32 rfl) (ac (vv 1) a0)) vi_)))) (vs_cons (vs_ret vb_)
    vs_nil) vs_nil)
    (vs_cons (vs_if (PW.pt (vw_or (vt_not (ttr (vc (X := _) (k := 2) (ps := ["thing", "low", "high"]) k__law_xp_is_in (hr.mono (by omega)) tk (ac (vix (vv 1) vi_) (ac vi_ (ac (vop op_dSub (vv 0) vi_) a0)))))) (vw_or1 (vt_not (ttr (vc (X := _) (k := 2) (ps := ["thing", "low", "high"]) k__law_xp_is_in (hr.mono (by omega)) tk (ac (vix (vv 1) vi_) (ac vi_ (ac (vop op_dSub (vv 0) vi_) a0))))))))) (vs_cons (vs_ret vb_)
    vs_nil) vs_nil)
    (vs_cons (vs_ret (ve_and (vc (X := _) (k := 2) (ps := ["thing", "low", "high"]) k__law_xp_is_in (hr.mono (by omega)) tk (ac (vix (vv 1) vi_) (ac vi_ (ac vi_ a0)))) (ve_one (ve_or (vcm (op_dNe hu) (vix (vv 1) vi_) (vix (vv 1) vi_)) (ve_one (vcm op_dGt' (vix (vv 1) vi_) vi_))))))
    vs_nil)))
theorem sc__law_xp_net_fault : FnScope ["thing", "n", "moves_now", "period", "at", "move", "longest"] ["thing"] (defScope s__law_xp_net_fault) := ⟨rfl, rfl, rfl, by decide +kernel, rfl, by decide +kernel, by decide +kernel⟩
def f__law_xp_net_fault : FS := sSeq (sIf (fOrB (fNotB (fTru (fIsT "tuple" (fVar 0)))) (fAsB (fB2 dNe (fCall cLen (fCons (fVar 0) (fNil))) (fCon (.int 3))))) (sSeq (sRet (fTup (fCons (fCon (.str "BadNet")) (fCons (fU dNeg (fCon (.int 1))) (fNil))))) (sNil)) (sNil)) (sSeq (sAsg (fVar 0) (gT (.tp ((.nm 1) :: (.nm 2) :: (.nm 3) :: [])))) (sSeq (sIf (fNotB (fTru (fRun 3 R__law_xp_is_in (fCons (fVar 1) (fCons (fCon (.int 0)) (fCons (fCon (.int 30)) (fNil))))))) (sSeq (sRet (fTup (fCons (fCon (.str "BadNet")) (fCons (fCon (.int 0)) (fNil))))) (sNil)) (sNil)) (sSeq (sIf (fNotB (fTru (fIsT "tuple" (fVar 2)))) (sSeq (sRet (fTup (fCons (fCon (.str "BadNet")) (fCons (fCon (.int 1)) (fNil))))) (sNil)) (sNil)) (sSeq (sIf (fAsB (fB2 dGt (fCall cLen (fCons (fVar 2) (fNil))) (fCon (.int 60)))) (sSeq (sRet (fTup (fCons (fCon (.str "TooMany")) (fCons (fCall cLen (fCons (fVar 2) (fNil))) (fNil))))) (sNil)) (sNil)) (sSeq (sFor (wR1 (fCons (fCall cLen (fCons (fVar 2) (fNil))) (fNil))) (gT (.nm 4)) (sSeq (sAsg (fB2 dIx (fVar 2) (fVar 4)) (gNm 5)) (sSeq (sIf (fOrB (fNotB (fTru (fRun 2 R__law_xp_is_move (fCons (fVar 1) (fCons (fVar 5) (fNil)))))) (fAndB (fAsB (fB2 dGt (fVar 4) (fCon (.int 0)))) (fAsB (fB2 dLe (fVar 5) (fB2 dIx (fVar 2) (fB2 dSub (fVar 4) (fCon (.int 1)))))))) (sSeq (sRet (fTup (fCons (fCon (.str "BadNet")) (fCons (fTup (fCons (fCon (.int 1)) (fCons (fVar 4) (fNil)))) (fNil))))) (sNil)) (sNil)) (sSeq (sIf (fAndB (fAsB (fB2 dEq (fB2 dIx (fVar 5) (fCon (.int 2))) (fCon (.int 0)))) (fAsB (fB2 dIn (fTup (fCons (fB2 dIx (fVar 5) (fCon (.int 1))) (fCons (fB2 dIx (fVar 5) (fCon (.int 0))) (fCons (fCon (.int 0)) (fNil))))) (fSl (fVar 2) (oNo) (oSo (fVar 4)))))) (sSeq (sRet (fTup (fCons (fCon (.str "BadNet")) (fCons (fTup (fCons (fCon (.int 1)) (fCons (fVar 4) (fNil)))) (fNil))))) (sNil)) (sNil)) (sNil))))) (sSeq (sAsg (fCall cMax (fCons (fB2 dAdd (fLst (fCons (fCon (.int 0)) (fNil))) (fLc (wSeq (fVar 2)) (.nm 5) (fYes) (fB2 dIx (fVar 5) (fCon (.int 2))) [5])) (fNil))) (gNm 6)) (sSeq (sIf (fOrB (fNotB (fTru (fRun 3 R__law_xp_is_in (fCons (fVar 3) (fCons (fCon (.int 0)) (fCons (fCon (.int 48)) (fNil))))))) (fAsB (fChain dLt dLe (fCon (.int 0)) (fVar 3) (fB2 dMul (fCon (.int 2)) (fVar 6))))) (sSeq (sRet (fTup (fCons (fCon (.str "BadNet")) (fCons (fCon (.int 2)) (fNil))))) (sNil)) (sNil)) (sSeq (sRet (fCon .non)) (sNil)))))))))
def R__law_xp_net_fault : G.Run := runOf 7 f__law_xp_net_fault
theorem ok__law_xp_net_fault (B : Facts K mg fa fn) (B2 : Exs K mg cls) (B3 : ∀ p ∈ tf.map (He.cT K), LamX.TabB base mg p.1 p.2) (B4 : tbsOk K = true) : Ok P w K mg base (TT K) (caOf K cls) "_law_xp_net_fault" 4 ["thing"] R__law_xp_net_fault := by
  have eb : d__law_xp_net_fault.body = d__law_xp_net_fault.body := rfl
  conv at eb => rhs; whnf
  have es : d__law_xp_net_fault.scope = d__law_xp_net_fault.scope := rfl
  conv at es => rhs; whnf
  refine ok_def (N := ["thing", "n", "moves_now", "period", "at", "move", "longest"]) (k := 3) B d__law_xp_net_fault 15 15 rfl rfl rfl rfl rfl rfl es eb sc__law_xp_net_fault rfl (fun _ _ _ _ _ _ us hl => match us, hl with | [_], _ => rfl) fun cdv A outer s H E hr tk => ?_
  have k__law_xp_is_in : Ok P w K mg base (TT K) (caOf K cls) "_law_xp_is_in" 2 ["thing", "low", "high"] R__law_xp_is_in := ok__law_xp_is_in B B2 B3 B4
  have k__law_xp_is_move : Ok P w K mg base (TT K) (caOf K cls) "_law_xp_is_move" 3 ["n", "thing"] R__law_xp_is_move := ok__law_xp_is_move B B2 B3 B4
  have hu1 := room_u hr
  have hu := room_u64 hr
  have hu5 := room_u65 hr
  have hu1' := room_u1 hr
  exact (vs_cons (vs_if (PW.pt (vw_or (vt_not (ttr (vis "tuple" (B.free 31 rfl) (B.free 38 rfl) (vv 0)))) (vw_or1 (tcm (op_dNe hu) (vbl call_dLen (B.free 32 rfl) (ac (vv 0) a0)) vi_)))) (vs_cons (vs_ret (ve_tup (ac vs_ (ac (ve_un op_dNeg vi_) a0))))
    vs_nil) vs_nil)
    (vs_cons (sasg (vv 0) (vg_tgt (gt (gc (gn 1 sc__law_xp_net_fault.nd) (gc (gn 2 sc__law_xp_net_fault.nd) (gc (gn 3 sc__law_xp_net_fault.nd) g0)))) (fun i _ => fr0 rfl i)))
    (vs_cons (vs_if (vt_not (ttr (vc (X := _) (k := 2) (ps := ["thing", "low", "high"]) k__law_xp_is_in (hr.mono (by omega)) tk (ac (vv 1) (ac vi_ (ac vi_ a0)))))) (vs_cons (vs_ret (ve_tup (ac vs_ (ac vi_ a0))))
    vs_nil) vs_nil)
    (vs_cons (vs_if (vt_not (ttr (vis "tuple" (B.free 31 rfl) (B.free 38 rfl) (vv 2)))) (vs_cons (vs_ret (ve_tup (ac vs_ (ac vi_ a0))))
    vs_nil) vs_nil)
    (vs_cons (vs_if (tcm op_dGt' (vbl call_dLen (B.free 32 rfl) (ac (vv 2) a0)) vi_) (vs_cons (vs_ret (ve_tup (ac vs_ (ac (vbl call_dLen (B.free 32 rfl) (ac (vv 2) a0)) a0))))
    vs_nil) vs_nil)
    (vs_cons (sfor (fun i _ => fr0 rfl i) (vi_range1 rfl (B.free 35 rfl) (ac (vbl call_dLen (B.free 32 rfl) (ac (vv 2) a0)) a0) rfl) (gn 4 sc__law_xp_net_fault.nd) (vs_cons (sset 5 (fr0 rfl 5) sc__law_xp_net_fault.nd (vix (vv 2) (vv 4)))
    (vs_cons (vs_if (PW.pt (vw_or (vt_not (ttr (vc (X := _) (k := 3) (ps := ["n", "thing"]) k__law_xp_is_move (hr.mono (by omega)) tk (ac (vv 1) (ac (vv 5) a0))))) (vw_or1 (PW.pt (vw_and (tcm op_dGt' (vv 4) vi_) (vw_and1 (tcm (op_dLe hu1) (vv 5) (vix (vv 2) (vop op_dSub (vv 4) vi_))))))))) (vs_cons (vs_ret (ve_tup (ac vs_ (ac (ve_tup (ac vi_ (ac (vv 4) a0))) a0))))
    vs_nil) vs_nil)
    (vs_cons (vs_if (PW.pt (vw_and (tcm (op_dEq hu) (vix (vv 5) vi_) vi_) (vw_and1 (tcm (op_dIn hu5) (ve_tup (ac (vix (vv 5) vi_) (ac (vix (vv 5) vi_) (ac vi_ a0)))) (ve_sl (vv 2) vo_no (vo_so (vv 4))))))) (vs_cons (vs_ret (ve_tup (ac vs_ (ac (ve_tup (ac vi_ (ac (vv 4) a0))) a0))))
    vs_nil) vs_nil)
    vs_nil))) (hp := (L2.passes_of rfl)))
    (vs_cons (sset 6 (fr0 rfl 6) sc__law_xp_net_fault.nd (vbl (call_dMax rfl) (B.free 34 rfl) (ac (vop op_dAdd (ve_lst (ac vi_ a0)) (ve_lc (own := [("move", 5)]) rfl sc__law_xp_net_fault.nd (vi_seq (vv 2)) (blkOk_by (by rfl)) (by decide) (fun i _ => fr0 rfl i) (fun _ _ _ _ _ => (gn 5 sc__law_xp_net_fault.nd)) (fun _ _ _ _ _ => by exact vts_nil) (fun _ _ _ _ _ => by exact (vix (vv 5) vi_)) (fun _ => rfl))) a0)))
    (vs_cons (vs_if (PW.pt (vw_or (vt_not (ttr (vc (X := _) (k := 2) (ps := ["thing", "low", "high"]) k__law_xp_is_in (hr.mono (by omega)) tk (ac (vv 3) (ac vi_ (ac vi_ a0)))))) (vw_or1 (tch (op_dLt hu1) (op_dLe hu1) vi_ (vv 3) (vop op_dMul vi_ (vv 6)))))) (vs_cons (vs_ret (ve_tup (ac vs_ (ac vi_ a0))))
    vs_nil) vs_nil)
    (vs_cons (vs_ret vn_)
    vs_nil)))))))))
theorem sc__law_xp_net : FnScope ["jar", "n", "some", "go", "a", "b", "d", "moves_now", "least"] ["jar"] (defScope s__law_xp_net) := ⟨rfl, rfl, rfl, by decide +kernel, rfl, by decide +kernel, by decide +kernel⟩
def f__law_xp_net : FS := sSeq (sPar2 1 2 (fCons (fRun 2 R__law_one (fCons (fVar 0) (fCons (fLst (fCons (fCon (.int 0)) (fCons (fCon (.int 1)) (fCons (fCon (.int 1)) (fCons (fCon (.int 2)) (fCons (fCon (.int 2)) (fCons (fCon (.int 3)) (fCons (fCon (.int 3)) (fCons (fCon (.int 4)) (fCons (fCon (.int 4)) (fCons (fCon (.int 5)) (fCons (fCon (.int 6)) (fCons (fCon (.int 30)) (fNil)))))))))))))) (fNil)))) (fCons (fNewT) (fNil)))) (sSeq (sFor (wR1 (fCons (fIf (fAsB (fB2 dGt (fVar 1) (fCon (.int 0)))) (fRun 2 R__law_one (fCons (fVar 0) (fCons (fLst (fCons (fCon (.int 0)) (fCons (fCon (.int 1)) (fCons (fCon (.int 2)) (fCons (fCon (.int 3)) (fCons (fCon (.int 4)) (fCons (fCon (.int 5)) (fCons (fCon (.int 6)) (fCons (fCon (.int 8)) (fCons (fCon (.int 60)) (fNil))))))))))) (fNil)))) (fCon (.int 0))) (fNil))) (gT (.nm 3)) (sSeq (sPar3 4 5 6 (fCons (fRun 2 R__law_take (fCons (fVar 0) (fCons (fVar 1) (fNil)))) (fCons (fRun 2 R__law_take (fCons (fVar 0) (fCons (fVar 1) (fNil)))) (fCons (fRun 2 R__law_one (fCons (fVar 0) (fCons (fLst (fCons (fCon (.int 0)) (fCons (fCon (.int 0)) (fCons (fCon (.int 1)) (fCons (fCon (.int 1)) (fCons (fCon (.int 2)) (fCons (fCon (.int 3)) (fCons (fRun 2 R__law_take (fCons (fVar 0) (fCons (fCon (.int 21)) (fNil)))) (fNil))))))))) (fNil)))) (fNil))))) (sSeq (sIf (fAndB (fOrB (fAsB (fB2 dNe (fVar 4) (fVar 5))) (fAsB (fB2 dGt (fVar 6) (fCon (.int 0))))) (fOrB (fAsB (fB2 dGt (fVar 6) (fCon (.int 0)))) (fAsB (fB2 dNotIn (fTup (fCons (fVar 5) (fCons (fVar 4) (fCons (fCon (.int 0)) (fNil))))) (fVar 2))))) (sSeq (sAsg (fCon (.bl true)) (gSb (fVar 2) (fTup (fCons (fVar 4) (fCons (fVar 5) (fCons (fVar 6) (fNil))))))) (sNil)) (sNil)) (sNil)))) (sSeq (sAsg (fCall cTuple (fCons (fCall cSorted (fCons (fVar 2) (fNil))) (fNil))) (gNm 7)) (sSeq (sAsg (fB2 dAdd (fB2 dMul (fCon (.int 2)) (fCall cMax (fCons (fB2 dAdd (fLst (fCons (fCon (.int 0)) (fNil))) (fLc (wSeq (fVar 7)) (.tp ((.nm 4) :: (.nm 5) :: (.nm 6) :: [])) (fYes) (fVar 6) [4, 5, 6])) (fNil)))) (fCon (.int 1))) (gNm 8)) (sSeq (sRet (fTup (fCons (fVar 1) (fCons (fVar 7) (fCons (fRun 2 R__law_one (fCons (fVar 0) (fCons (fLst (fCons (fCon (.int 0)) (fCons (fCon (.int 0)) (fCons (fVar 8) (fCons (fB2 dAdd (fVar 8) (fRun 2 R__law_take (fCons (fVar 0) (fCons (fB2 dSub (fCon (.int 49)) (fVar 8)) (fNil))))) (fCons (fCon (.int 48)) (fNil))))))) (fNil)))) (fNil)))))) (sNil)))))
def R__law_xp_net : G.Run := runOf 9 f__law_xp_net
theorem ok__law_xp_net (B : Facts K mg fa fn) (B2 : Exs K mg cls) (B3 : ∀ p ∈ tf.map (He.cT K), LamX.TabB base mg p.1 p.2) (B4 : tbsOk K = true) : Ok P w K mg base (TT K) (caOf K cls) "_law_xp_net" 3 ["jar"] R__law_xp_net := by
  have eb : d__law_xp_net.body = d__law_xp_net.body := rfl
  conv at eb => rhs; whnf
  have es : d__law_xp_net.scope = d__law_xp_net.scope := rfl
  conv at es => rhs; whnf
  refine ok_def (N := ["jar", "n", "some", "go", "a", "b", "d", "moves_now", "least"]) (k := 2) B d__law_xp_net 16 16 rfl rfl rfl rfl rfl rfl es eb sc__law_xp_net rfl (fun _ _ _ _ _ _ us hl => match us, hl with | [_], _ => rfl) fun cdv A outer s H E hr tk => ?_
  have k__law_one : Ok P w K mg base (TT K) (caOf K cls) "_law_one" 2 ["jar", "things"] R__law_one := ok__law_one B B2 B3 B4
  have k__law_take : Ok P w K mg base (TT K) (caOf K cls) "_law_take" 1 ["jar", "many"] R__law_take := ok__law_take B B2 B3 B4
  have hu1 := room_u hr
  have hu := room_u64 hr
  have hu5 := room_u65 hr
  have hu1' := room_u1 hr
  exact (vs_cons (spar2 1 2 (fr0 rfl 1) (fr0 rfl 2) sc__law_xp_net.nd (ac (vc (X := _) (k := 2) (ps := ["jar", "things"]) k__law_one (hr.mono (by omega)) tk (ac (vv 0) (ac (ve_lst (ac vi_ (ac vi_ (ac vi_ (ac vi_ (ac vi_ (ac vi_ (ac vi_ (ac vi_ (ac vi_ (ac vi_ (ac vi_ (ac vi_ a0))))))))))))) a0))) (ac vdT a0)))
    (vs_cons (sfor (fun i _ => fr0 rfl i) (vi_range1 rfl (B.free 35 rfl) (ac (ve_if (tcm op_dGt' (vv 1) vi_) (vc (X := _) (k := 2) (ps := ["jar", "things"]) k__law_one (hr.mono (by omega)) tk (ac (vv 0) (ac (ve_lst (ac vi_ (ac vi_ (ac vi_ (ac vi_ (ac vi_ (ac vi_ (ac vi_ (ac vi_ (ac vi_ a0)))))))))) a0))) vi_) a0) rfl) (gn 3 sc__law_xp_net.nd) (vs_cons (spar3 4 5 6 (fr0 rfl 4) (fr0 rfl 5) (fr0 rfl 6) sc__law_xp_net.nd (ac (vc (X := _) (k := 1) (ps := ["jar", "many"]) k__law_take (hr.mono (by omega)) tk (ac (vv 0) (ac (vv 1) a0))) (ac (vc (X := _) (k := 1) (ps := ["jar", "many"]) k__law_take (hr.mono (by omega)) tk (ac (vv 0) (ac (vv 1) a0))) (ac (vc (X := _) (k := 2) (ps := ["jar", "things"]) k__law_one (hr.mono (by omega)) tk (ac (vv 0) (ac (ve_lst (ac vi_ (ac vi_ (ac vi_ (ac vi_ (ac vi_ (ac vi_ (ac (vc (X := _) (k := 1) (ps := ["jar", "many"]) k__law_take (hr.mono (by omega)) tk (ac (vv 0) (ac vi_ a0))) a0)))))))) a0))) a0))))
    (vs_cons (vs_if (PW.pt (vw_and (PW.pt (vw_or (tcm (op_dNe hu) (vv 4) (vv 5)) (vw_or1 (tcm op_dGt' (vv 6) vi_)))) (vw_and1 (PW.pt (vw_or (tcm op_dGt' (vv 6) vi_) (vw_or1 (tcm (op_dNotIn hu5) (ve_tup (ac (vv 5) (ac (vv 4) (ac vi_ a0)))) (vv 2)))))))) (vs_cons (sasg vb_ (gsub hu1' (vv 2) (ve_tup (ac (vv 4) (ac (vv 5) (ac (vv 6) a0))))))
    vs_nil) vs_nil)
    vs_nil)) (hp := (L2.passes_of rfl)))
    (vs_cons (sset 7 (fr0 rfl 7) sc__law_xp_net.nd (vty call_dTuple (B.free 38 rfl) (ac (vbl (call_dSorted rfl hu) (B.free 36 rfl) (ac (vv 2) a0)) a0)))
    (vs_cons (sset 8 (fr0 rfl 8) sc__law_xp_net.nd (vop op_dAdd (vop op_dMul vi_ (vbl (call_dMax rfl) (B.free 34 rfl) (ac (vop op_dAdd (ve_lst (ac vi_ a0)) (ve_lc (own := [("a", 4), ("b", 5), ("d", 6)]) rfl sc__law_xp_net.nd (vi_seq (vv 7)) (blkOk_by (by rfl)) (by decide) (fun i _ => fr0 rfl i) (fun _ _ _ _ _ => (gt (gc (gn 4 sc__law_xp_net.nd) (gc (gn 5 sc__law_xp_net.nd) (gc (gn 6 sc__law_xp_net.nd) g0))))) (fun _ _ _ _ _ => by exact vts_nil) (fun _ _ _ _ _ => by exact (vv 6)) (fun _ => rfl))) a0))) vi_))
    (vs_cons (vs_ret (ve_tup (ac (vv 1) (ac (vv 7) (ac (vc (X := _) (k := 2) (ps := ["jar", "things"]) k__law_one (hr.mono (by omega)) tk (ac (vv 0) (ac (ve_lst (ac vi_ (ac vi_ (ac (vv 8) (ac (vop op_dAdd (vv 8) (vc (X := _) (k := 1) (ps := ["jar", "many"]) k__law_take (hr.mono (by omega)) tk (ac (vv 0) (ac (vop op_dSub vi_ (vv 8)) a0)))) (ac vi_ a0)))))) a0))) a0)))))
    vs_nil)))))
theorem sc__law_xp_bent : FnScope ["jar", "thing", "odd", "at", "form", "some"] ["jar", "thing"] (defScope s__law_xp_bent) := ⟨rfl, rfl, rfl, by decide +kernel, rfl, by decide +kernel, by decide +kernel⟩
def f__law_xp_bent (self_ : G.Run) : FS := sSeq (sAsg (fRun 2 R__law_one (fCons (fVar 0) (fCons (fLst (fCons (fCon .non) (fCons (fCon (.str "0")) (fCons (fCon (.bl true)) (fCons (fCon (.bl false)) (fCons (fU dNeg (fCon (.int 1))) (fCons (fCon (.int 0)) (fCons (fB2 dPow (fCon (.int 10)) (fCon (.int 25))) (fCons (fTup (fNil)) (fCons (fTup (fCons (fCon (.int 0)) (fNil))) (fCons (fLst (fCons (fCon (.int 0)) (fNil))) (fCons (fCon (.str "net")) (fNil))))))))))))) (fNil)))) (gNm 2)) (sSeq (sIf (fOrB (fNotB (fTru (fIsT "tuple" (fVar 1)))) (fAsB (fB2 dEq (fVar 1) (fTup (fNil))))) (sSeq (sRet (fVar 2)) (sNil)) (sNil)) (sSeq (sPar2 3 4 (fCons (fRun 2 R__law_take (fCons (fVar 0) (fCons (fCall cLen (fCons (fVar 1) (fNil))) (fNil)))) (fCons (fRun 2 R__law_take (fCons (fVar 0) (fCons (fCon (.int 9)) (fNil)))) (fNil)))) (sSeq (sIf (fAsB (fB2 dLt (fVar 4) (fCon (.int 3)))) (sSeq (sRet (fB2 dAdd (fB2 dAdd (fSl (fVar 1) (oNo) (oSo (fVar 3))) (fTup (fCons (fRun 2 self_ (fCons (fVar 0) (fCons (fB2 dIx (fVar 1) (fVar 3)) (fNil)))) (fNil)))) (fSl (fVar 1) (oSo (fB2 dAdd (fVar 3) (fCon (.int 1)))) (oNo)))) (sNil)) (sNil)) (sSeq (sAsg (fLst (fCons (fB2 dAdd (fB2 dAdd (fSl (fVar 1) (oNo) (oSo (fVar 3))) (fTup (fCons (fVar 2) (fNil)))) (fSl (fVar 1) (oSo (fB2 dAdd (fVar 3) (fCon (.int 1)))) (oNo))) (fCons (fB2 dAdd (fSl (fVar 1) (oNo) (oSo (fVar 3))) (fSl (fVar 1) (oSo (fB2 dAdd (fVar 3) (fCon (.int 1)))) (oNo))) (fCons (fB2 dAdd (fSl (fVar 1) (oNo) (oSo (fB2 dAdd (fVar 3) (fCon (.int 1))))) (fSl (fVar 1) (oSo (fVar 3)) (oNo))) (fNil))))) (gNm 5)) (sSeq (sDrop (fMt "list" mExtend (fVar 5) (fCons (fLst (fCons (fB2 dAdd (fSl (fVar 1) (oNo) (oSo (fVar 3))) (fRev (fSl (fVar 1) (oSo (fVar 3)) (oNo)))) (fCons (fCall cList (fCons (fVar 1) (fNil))) (fCons (fB2 dAdd (fVar 1) (fTup (fCons (fVar 2) (fNil)))) (fNil))))) (fNil)))) (sSeq (sRet (fB2 dIx (fVar 5) (fB2 dSub (fVar 4) (fCon (.int 3))))) (sNil)))))))
def R__law_xp_bent : Nat → G.Run
  | 0 => RBad
  | n + 1 => runOf 6 (f__law_xp_bent (R__law_xp_bent n))
theorem ok__law_xp_bent (B : Facts K mg fa fn) (B2 : Exs K mg cls) (B3 : ∀ p ∈ tf.map (He.cT K), LamX.TabB base mg p.1 p.2) (B4 : tbsOk K = true) : ∀ n : Nat, Ok P w K mg base (TT K) (caOf K cls) "_law_xp_bent" (2 + n) ["jar", "thing"] (R__law_xp_bent n)
  | 0 => ok_bad B d__law_xp_bent 17 17 rfl rfl rfl rfl rfl (fun _ _ _ _ _ _ us hl => match us, hl with | [_, _], _ => rfl)
  | n + 1 => by
    have self := ok__law_xp_bent B B2 B3 B4 n
    have eb : d__law_xp_bent.body = d__law_xp_bent.body := rfl
    conv at eb => rhs; whnf
    have es : d__law_xp_bent.scope = d__law_xp_bent.scope := rfl
    conv at es => rhs; whnf
    refine ok_def (N := ["jar", "thing", "odd", "at", "form", "some"]) (k := 2 + n) B d__law_xp_bent 17 17 rfl rfl rfl rfl rfl rfl es eb sc__law_xp_bent rfl (fun _ _ _ _ _ _ us hl => match us, hl with | [_, _], _ => rfl) fun cdv A outer s H E hr tk => ?_
    have k__law_one : Ok P w K mg base (TT K) (caOf K cls) "_law_one" 2 ["jar", "things"] R__law_one := ok__law_one B B2 B3 B4
    have k__law_take : Ok P w K mg base (TT K) (caOf K cls) "_law_take" 1 ["jar", "many"] R__law_take := ok__law_take B B2 B3 B4
    have hu1 := room_u hr
    have hu := room_u64 hr
    have hu5 := room_u65 hr
    have hu1' := room_u1 hr
    exact (vs_cons (sset 2 (fr0 rfl 2) sc__law_xp_bent.nd (vc (X := _) (k := 2) (ps := ["jar", "things"]) k__law_one (hr.mono (by omega)) tk (ac (vv 0) (ac (ve_lst (ac vn_ (ac vs_ (ac vb_ (ac vb_ (ac (ve_un op_dNeg vi_) (ac vi_ (ac (vop op_dPow vi_ vi_) (ac (ve_tup a0) (ac (ve_tup (ac vi_ a0)) (ac (ve_lst (ac vi_ a0)) (ac vs_ a0)))))))))))) a0))))
    (vs_cons (vs_if (PW.pt (vw_or (vt_not (ttr (vis "tuple" (B.free 31 rfl) (B.free 38 rfl) (vv 1)))) (vw_or1 (tcm (op_dEq hu) (vv 1) (ve_tup a0))))) (vs_cons (vs_ret (vv 2))
    vs_nil) vs_nil)
    (vs_cons (spar2 3 4 (fr0 rfl 3) (fr0 rfl 4) sc__law_xp_bent.nd (ac (vc (X := _) (k := 1) (ps := ["jar", "many"]) k__law_take (hr.mono (by omega)) tk (ac (vv 0) (ac (vbl call_dLen (B.free 32 rfl) (ac (vv 1) a0)) a0))) (ac (vc (X := _) (k := 1) (ps := ["jar", "many"]) k__law_take (hr.mono (by omega)) tk (ac (vv 0) (ac vi_ a0))) a0)))
    (vs_cons (vs_if (tcm (op_dLt hu1) (vv 4) vi_) (vs_cons (vs_ret (vop op_dAdd (vop op_dAdd (ve_sl (vv 1) vo_no (vo_so (vv 3))) (ve_tup (ac (vc (X := _) (ps := ["jar", "thing"]) self (hr.mono (by omega)) tk (ac (vv 0) (ac (vix (vv 1) (vv 3)) a0))) a0))) (ve_sl (vv 1) (vo_so (vop op_dAdd (vv 3) vi_)) vo_no)))
    vs_nil) vs_nil)
    (vs_cons (sset 5 (fr0 rfl 5) sc__law_xp_bent.nd (ve_lst (ac (vop op_dAdd (vop op_dAdd (ve_sl (vv 1) vo_no (vo_so (vv 3))) (ve_tup (ac (vv 2) a0))) (ve_sl (vv 1) (vo_so (vop op_dAdd (vv 3) vi_)) vo_no)) (ac (vop op_dAdd (ve_sl (vv 1) vo_no (vo_so (vv 3))) (ve_sl (vv 1) (vo_so (vop op_dAdd (vv 3) vi_)) vo_no)) (ac (vop op_dAdd (ve_sl (vv 1) vo_no (vo_so (vop op_dAdd (vv 3) vi_))) (ve_sl (vv 1) (vo_so (vv 3)) vo_no)) a0)))))
    (vs_cons (sexp (vmt PySem.F.plainAttrs_list PySem.F.slot_list_extend PySem.F.type_list_extend mt_dExtend (vv 5) (ac (ve_lst (ac (vop op_dAdd (ve_sl (vv 1) vo_no (vo_so (vv 3))) (ve_rev (ve_sl (vv 1) (vo_so (vv 3)) vo_no))) (ac (vty call_dList (B.free 33 rfl) (ac (vv 1) a0)) (ac (vop op_dAdd (vv 1) (ve_tup (ac (vv 2) a0))) a0)))) a0)))
    (vs_cons (vs_ret (vix (vv 5) (vop op_dSub (vv 4) vi_)))
    vs_nil)))))))
theorem sc__law_n1_heard : FnScope ["call", "refused_one", "some", "name", "is_one"] ["call"] (defScope s__law_n1_heard) := ⟨rfl, rfl, rfl, by decide +kernel, rfl, by decide +kernel, by decide +kernel⟩
def f__law_n1_heard (lam_ : Store → R D) : FS := sSeq (sTry 1 (fun c => some (kitT 3 c 0)) (sSeq (sRet (fTup (fCons (fCon (.str "told")) (fCons (fAct lam_) (fNil))))) (sNil)) (fun c w => sSeq (sAsg (fLst (fCons (fTup (fCons (fCon (.str "BadNet")) (fCons (fCon (.bl (kitT 3 c 1))) (fNil)))) (fCons (fTup (fCons (fCon (.str "TooMany")) (fCons (fCon (.bl (kitT 3 c 2))) (fNil)))) (fNil)))) (gNm 2)) (sSeq (sRet (fTup (fCons (fMt "str" mJoin (fCon (.str " ")) (fCons (fLcH (fVar 2) (.tp ((.nm 3) :: (.nm 4) :: [])) (fTru (fVar 4)) (fVar 3) [3, 4]) (fNil))) (fCons (fCon w) (fNil))))) (sNil)))) (sNil)
theorem okl__law_n1_heard (B : Facts K mg fa fn) (B2 : Exs K mg cls) (B3 : ∀ p ∈ tf.map (He.cT K), LamX.TabB base mg p.1 p.2) (B4 : tbsOk K = true) : OkL P w K mg base (tbs K) (caOf K cls) "_law_n1_heard" 1 "call" ["call", "refused_one", "some", "name", "is_one"] f__law_n1_heard := by
  have eb : d__law_n1_heard.body = d__law_n1_heard.body := rfl
  conv at eb => rhs; whnf
  have es : d__law_n1_heard.scope = d__law_n1_heard.scope := rfl
  conv at es => rhs; whnf
  refine okl_def (N := ["call", "refused_one", "some", "name", "is_one"]) (k := 1) B d__law_n1_heard 18 18 rfl rfl rfl rfl rfl rfl rfl es eb sc__law_n1_heard rfl (by first | exact Or.inl rfl | exact Or.inr (Or.inl rfl)) (fun _ _ _ _ _ _ us hl => match us, hl with | [_], _ => rfl) fun T f lam cdv A outer s H E hT' hTb hr tk act => ?_
  have hu1 := room_u hr
  have hu := room_u64 hr
  have hu5 := room_u65 hr
  have hu1' := room_u1 hr
  exact (vs_cons (vs_try (i := 1) (c0 := 0) rfl rfl sc__law_n1_heard.nd rfl rfl ⟨rfl, by decide, Or.inl (B2.clsm 0 rfl)⟩ tk (frS (T := {}) hT' (by decide) (fr0 rfl 1)) (fun c b ex => by cases ex; exact B2.exm c 0) (fun W' pn xe tk' hp' => (vs_cons (vs_ret (ve_tup (ac vs_ (ac (act _ _ _ _ _ tk') a0))))
    vs_nil))
    (fun a oe c w d pn zn fl => by
      have z : ∀ {X : Cx}, Suit (X.suite a ((a, oe) :: pn)) { T with xs := (d, w) :: T.xs, fx := (1, .ref a) :: T.fx } 1 a oe (caOf K cls c) d w := fun {X} => suit_of (X := X) zn fl
      exact (vs_cons (sset 2 (frS rfl (by decide) (frS (T := {}) hT' (by decide) (fr0 rfl 2))) sc__law_n1_heard.nd (ve_lst (ac (ve_tup (ac vs_ (ac (ve_isX z (B2.exc c) (B2.kit c 1) rfl (B.free 31 rfl) rfl (by first | exact Or.inl rfl | exact Or.inr (Or.inl rfl) | exact Or.inr (Or.inr rfl)) (by decide) (by decide) rfl (B2.clsm 1 rfl) (by decide) rfl rfl rfl) a0))) (ac (ve_tup (ac vs_ (ac (ve_isX z (B2.exc c) (B2.kit c 2) rfl (B.free 31 rfl) rfl (by first | exact Or.inl rfl | exact Or.inr (Or.inl rfl) | exact Or.inr (Or.inr rfl)) (by decide) (by decide) rfl (B2.clsm 2 rfl) (by decide) rfl rfl rfl) a0))) a0))))
    (vs_cons (vs_ret (ve_tup (ac (vmt PySem.F.plainAttrs_str PySem.F.slot_str_join PySem.F.type_str_join mt_dJoin vs_ (ac (ve_lcH (own := [("name", 3), ("is_one", 4)]) (Suit.hot z) (Suit.nf z) sc__law_n1_heard.nd (vv 2) (blkOk_by (by rfl)) (by decide) (fun j hj => frS rfl (by simp at hj; omega) (frS (T := {}) hT' (by simp at hj; omega) (fr0 rfl j))) (fun _ _ _ _ _ h => (gtH h (gc (gn 3 sc__law_n1_heard.nd) (gc (gn 4 sc__law_n1_heard.nd) g0)))) (fun _ _ _ _ _ h => by exact (vts1 (ttr (vv 4)))) (fun _ _ _ _ _ h => by exact (vv 3)) (fun _ => rfl)) a0)) (ac (ve_whatX z (B2.exc c) (B2.no c) rfl (by first | exact Or.inl rfl | exact Or.inr (Or.inl rfl) | exact Or.inr (Or.inr rfl)) (by decide) (by decide) rfl) a0))))
    vs_nil))))
    vs_nil)
theorem sc__law_n1_put : FnScope ["moves_now", "move", "one"] ["moves_now", "move"] (defScope s__law_n1_put) := ⟨rfl, rfl, rfl, by decide +kernel, rfl, by decide +kernel, by decide +kernel⟩
def f__law_n1_put : FS := sSeq (sIf (fOrB (fNotB (fTru (fIsT "tuple" (fVar 1)))) (fOrB (fAsB (fB2 dNe (fCall cLen (fCons (fVar 1) (fNil))) (fCon (.int 3)))) (fAsB (fB2 dNe (fLc (wSeq (fVar 1)) (.nm 2) (fNotB (fTru (fRun 1 R__law_xp_is_whole (fCons (fVar 2) (fNil))))) (fVar 2) [2]) (fLst (fNil)))))) (sSeq (sRet (fB2 dAdd (fVar 0) (fTup (fCons (fVar 1) (fNil))))) (sNil)) (sNil)) (sSeq (sRet (fCall cTuple (fCons (fCall cSorted (fCons (fB2 dAdd (fVar 0) (fTup (fCons (fVar 1) (fNil)))) (fNil))) (fNil)))) (sNil))
def R__law_n1_put : G.Run := runOf 3 f__law_n1_put
theorem ok__law_n1_put (B : Facts K mg fa fn) (B2 : Exs K mg cls) (B3 : ∀ p ∈ tf.map (He.cT K), LamX.TabB base mg p.1 p.2) (B4 : tbsOk K = true) : Ok P w K mg base (TT K) (caOf K cls) "_law_n1_put" 2 ["moves_now", "move"] R__law_n1_put := by
  have eb : d__law_n1_put.body = d__law_n1_put.body := rfl
  conv at eb => rhs; whnf
  have es : d__law_n1_put.scope = d__law_n1_put.scope := rfl
  conv at es => rhs; whnf
  refine ok_def (N := ["moves_now", "move", "one"]) (k := 1) B d__law_n1_put 20 20 rfl rfl rfl rfl rfl rfl es eb sc__law_n1_put rfl (fun _ _ _ _ _ _ us hl => match us, hl with | [_, _], _ => rfl) fun cdv A outer s H E hr tk => ?_
  have k__law_xp_is_whole : Ok P w K mg base (TT K) (caOf K cls) "_law_xp_is_whole" 1 ["thing"] R__law_xp_is_whole := ok__law_xp_is_whole B B2 B3 B4
  have hu1 := room_u hr
  have hu := room_u64 hr
  have hu5 := room_u65 hr
  have hu1' := room_u1 hr
  exact (vs_cons (vs_if (PW.pt (vw_or (vt_not (ttr (vis "tuple" (B.free 31 rfl) (B.free 38 rfl) (vv 1)))) (vw_or (tcm (op_dNe hu) (vbl call_dLen (B.free 32 rfl) (ac (vv 1) a0)) vi_) (vw_or1 (tcm (op_dNe hu) (ve_lc (own := [("one", 2)]) rfl sc__law_n1_put.nd (vi_seq (vv 1)) (blkOk_by (by rfl)) (by decide) (fun i _ => fr0 rfl i) (fun _ _ _ _ _ => (gn 2 sc__law_n1_put.nd)) (fun _ _ _ _ _ => by exact (vts1 (vt_not (ttr (vc (X := _) (k := 1) (ps := ["thing"]) k__law_xp_is_whole (hr.mono (by omega)) take0 (ac (vv 2) a0)))))) (fun _ _ _ _ _ => by exact (vv 2)) (fun _ => rfl)) (ve_lst a0)))))) (vs_cons (vs_ret (vop op_dAdd (vv 0) (ve_tup (ac (vv 1) a0))))
    vs_nil) vs_nil)
    (vs_cons (vs_ret (vty call_dTuple (B.free 38 rfl) (ac (vbl (call_dSorted rfl hu) (B.free 36 rfl) (ac (vop op_dAdd (vv 0) (ve_tup (ac (vv 1) a0))) a0)) a0)))
    vs_nil))
theorem sc__law_n1_things : FnScope ["jar", "net", "n", "moves_now", "period", "longest", "a", "b", "d", "some", "odd", "odds", "move", "at"] ["jar", "net"] (defScope s__law_n1_things) := ⟨rfl, rfl, rfl, by decide +kernel, rfl, by decide +kernel, by decide +kernel⟩
def f__law_n1_things : FS := sSeq (sAsg (fVar 1) (gT (.tp ((.nm 2) :: (.nm 3) :: (.nm 4) :: [])))) (sSeq (sAsg (fCall cMax (fCons (fB2 dAdd (fLst (fCons (fCon (.int 0)) (fNil))) (fLc (wSeq (fVar 3)) (.tp ((.nm 6) :: (.nm 7) :: (.nm 8) :: [])) (fYes) (fVar 8) [6, 7, 8])) (fNil))) (gNm 5)) (sSeq (sAsg (fLst (fCons (fVar 1) (fCons (fTup (fCons (fVar 2) (fCons (fVar 3) (fNil)))) (fCons (fB2 dAdd (fVar 1) (fTup (fCons (fCon (.int 0)) (fNil)))) (fCons (fCall cList (fCons (fVar 1) (fNil))) (fCons (fCon .non) (fCons (fVar 2) (fCons (fTup (fNil)) (fCons (fTup (fCons (fCon (.int 31)) (fCons (fVar 3) (fCons (fCon (.int 0)) (fNil))))) (fCons (fTup (fCons (fU dNeg (fCon (.int 1))) (fCons (fTup (fNil)) (fCons (fCon (.int 0)) (fNil))))) (fCons (fTup (fCons (fCon (.bl true)) (fCons (fTup (fNil)) (fCons (fCon (.int 0)) (fNil))))) (fNil)))))))))))) (gNm 9)) (sSeq (sDrop (fMt "list" mExtend (fVar 9) (fCons (fLst (fCons (fTup (fCons (fCon .non) (fCons (fVar 3) (fCons (fVar 4) (fNil))))) (fCons (fTup (fCons (fVar 2) (fCons (fCall cList (fCons (fVar 3) (fNil))) (fCons (fVar 4) (fNil))))) (fCons (fTup (fCons (fVar 2) (fCons (fCon .non) (fCons (fVar 4) (fNil))))) (fCons (fTup (fCons (fVar 2) (fCons (fCon (.int 0)) (fCons (fCon .non) (fNil))))) (fNil)))))) (fNil)))) (sSeq (sDrop (fMt "list" mAppend (fVar 9) (fCons (fTup (fCons (fCon (.int 31)) (fCons (fCon .non) (fCons (fCon (.int 49)) (fNil))))) (fNil)))) (sSeq (sDrop (fMt "list" mExtend (fVar 9) (fCons (fLst (fCons (fTup (fCons (fVar 2) (fCons (fRev (fVar 3)) (fCons (fVar 4) (fNil))))) (fCons (fTup (fCons (fVar 2) (fCons (fB2 dMul (fVar 3) (fCon (.int 2))) (fCons (fVar 4) (fNil))))) (fCons (fTup (fCons (fVar 2) (fCons (fB2 dMul (fVar 3) (fCon (.int 61))) (fCons (fCon .non) (fNil))))) (fNil))))) (fNil)))) (sSeq (sDrop (fMt "list" mAppend (fVar 9) (fCons (fTup (fCons (fCon (.int 30)) (fCons (fVar 3) (fCons (fVar 4) (fNil))))) (fNil)))) (sSeq (sDrop (fMt "list" mExtend (fVar 9) (fCons (fLst (fCons (fTup (fCons (fVar 2) (fCons (fB2 dMul (fTup (fCons (fCon .non) (fNil))) (fCon (.int 61))) (fCons (fCon (.int 49)) (fNil))))) (fCons (fTup (fCons (fVar 2) (fCons (fB2 dMul (fTup (fCons (fCon .non) (fNil))) (fCon (.int 60))) (fCons (fCon (.int 49)) (fNil))))) (fCons (fTup (fCons (fVar 2) (fCons (fTup (fNil)) (fCons (fVar 4) (fNil))))) (fCons (fTup (fCons (fCon (.int 0)) (fCons (fTup (fNil)) (fCons (fCon (.int 0)) (fNil))))) (fCons (fTup (fCons (fCon (.str "1")) (fCons (fTup (fNil)) (fCons (fCon (.int 0)) (fNil))))) (fNil))))))) (fNil)))) (sSeq (sFor (wSeq (fLst (fCons (fB2 dMul (fCon (.int 2)) (fVar 5)) (fCons (fB2 dAdd (fB2 dMul (fCon (.int 2)) (fVar 5)) (fCon (.int 1))) (fCons (fB2 dSub (fB2 dMul (fCon (.int 2)) (fVar 5)) (fCon (.int 1))) (fCons (fCon (.int 48)) (fCons (fCon (.int 49)) (fCons (fU dNeg (fCon (.int 1))) (fCons (fCon (.int 0)) (fCons (fCon (.int 1)) (fCons (fCon .non) (fCons (fCon (.bl true)) (fCons (fCon (.str "0")) (fCons (fTup (fCons (fCon (.int 0)) (fNil))) (fCons (fB2 dPow (fCon (.int 10)) (fCon (.int 20))) (fNil)))))))))))))))) (gT (.nm 10)) (sSeq (sDrop (fMt "list" mAppend (fVar 9) (fCons (fTup (fCons (fVar 2) (fCons (fVar 3) (fCons (fVar 10) (fNil))))) (fNil)))) (sNil))) (sSeq (sAsg (fLst (fCons (fTup (fCons (fCon (.int 0)) (fCons (fCon (.int 0)) (fCons (fCon (.int 0)) (fNil))))) (fCons (fTup (fCons (fCon (.int 0)) (fCons (fVar 2) (fCons (fCon (.int 1)) (fNil))))) (fCons (fTup (fCons (fVar 2) (fCons (fCon (.int 0)) (fCons (fCon (.int 1)) (fNil))))) (fCons (fTup (fCons (fU dNeg (fCon (.int 1))) (fCons (fCon (.int 0)) (fCons (fCon (.int 1)) (fNil))))) (fCons (fTup (fCons (fCon (.int 0)) (fCons (fCon (.int 0)) (fCons (fCon (.int 21)) (fNil))))) (fCons (fTup (fCons (fCon (.int 0)) (fCons (fCon (.int 0)) (fCons (fU dNeg (fCon (.int 1))) (fNil))))) (fCons (fTup (fCons (fCon (.int 0)) (fCons (fCon (.int 0)) (fNil)))) (fCons (fTup (fCons (fCon (.int 0)) (fCons (fCon (.int 0)) (fCons (fCon (.int 1)) (fCons (fCon (.int 0)) (fNil)))))) (fCons (fLst (fCons (fCon (.int 0)) (fCons (fCon (.int 0)) (fCons (fCon (.int 1)) (fNil))))) (fNil))))))))))) (gNm 11)) (sSeq (sDrop (fMt "list" mExtend (fVar 11) (fCons (fLst (fCons (fCon .non) (fCons (fCon (.int 5)) (fCons (fTup (fNil)) (fNil))))) (fNil)))) (sSeq (sDrop (fMt "list" mExtend (fVar 11) (fCons (fLst (fCons (fTup (fCons (fCon (.bl false)) (fCons (fCon (.int 0)) (fCons (fCon (.int 1)) (fNil))))) (fCons (fTup (fCons (fCon (.int 0)) (fCons (fCon (.int 0)) (fCons (fCon (.bl true)) (fNil))))) (fCons (fTup (fCons (fCon (.int 0)) (fCons (fCon (.int 0)) (fCons (fCon .non) (fNil))))) (fCons (fTup (fCons (fCon (.str "0")) (fCons (fCon (.int 0)) (fCons (fCon (.int 1)) (fNil))))) (fCons (fTup (fCons (fCon (.int 0)) (fCons (fTup (fCons (fCon (.int 0)) (fNil))) (fCons (fCon (.int 1)) (fNil))))) (fCons (fTup (fCons (fCon (.int 0)) (fCons (fCon (.int 1)) (fCons (fCon (.int 0)) (fNil))))) (fCons (fTup (fCons (fCon (.int 1)) (fCons (fCon (.int 0)) (fCons (fCon (.int 0)) (fNil))))) (fNil))))))))) (fNil)))) (sSeq (sDrop (fMt "list" mAppend (fVar 11) (fCons (fTup (fCons (fCon (.int 0)) (fCons (fCon (.int 0)) (fCons (fCon (.int 20)) (fNil))))) (fNil)))) (sSeq (sDrop (fMt "list" mExtend (fVar 11) (fCons (fB2 dAdd (fLc (wSeq (fSl (fVar 3) (oNo) (oSo (fCon (.int 2))))) (.tp ((.nm 6) :: (.nm 7) :: (.nm 8) :: [])) (fYes) (fTup (fCons (fVar 7) (fCons (fVar 6) (fCons (fCon (.int 0)) (fNil))))) [6, 7, 8]) (fCall cList (fCons (fSl (fVar 3) (oNo) (oSo (fCon (.int 1)))) (fNil)))) (fNil)))) (sSeq (sFor (wSeq (fVar 11)) (gT (.nm 12)) (sSeq (sAsg (fRun 2 R__law_take (fCons (fVar 0) (fCons (fB2 dAdd (fCall cLen (fCons (fVar 3) (fNil))) (fCon (.int 1))) (fNil)))) (gNm 13)) (sSeq (sDrop (fMt "list" mAppend (fVar 9) (fCons (fTup (fCons (fVar 2) (fCons (fB2 dAdd (fB2 dAdd (fSl (fVar 3) (oNo) (oSo (fVar 13))) (fTup (fCons (fVar 12) (fNil)))) (fSl (fVar 3) (oSo (fVar 13)) (oNo))) (fCons (fVar 4) (fNil))))) (fNil)))) (sSeq (sDrop (fMt "list" mAppend (fVar 9) (fCons (fTup (fCons (fVar 2) (fCons (fRun 2 R__law_n1_put (fCons (fVar 3) (fCons (fVar 12) (fNil)))) (fCons (fVar 4) (fNil))))) (fNil)))) (sNil))))) (sSeq (sDrop (fMt "list" mAppend (fVar 9) (fCons (fTup (fCons (fVar 2) (fCons (fB2 dAdd (fB2 dAdd (fTup (fCons (fCon .non) (fNil))) (fVar 3)) (fTup (fCons (fTup (fCons (fCon (.int 0)) (fCons (fCon (.int 0)) (fCons (fCon (.int 0)) (fNil))))) (fNil)))) (fCons (fCon (.int 49)) (fNil))))) (fNil)))) (sSeq (sRet (fB2 dAdd (fVar 9) (fLst (fCons (fRun 2 (R__law_xp_bent 8) (fCons (fVar 0) (fCons (fVar 1) (fNil)))) (fCons (fRun 2 (R__law_xp_bent 8) (fCons (fVar 0) (fCons (fRun 2 (R__law_xp_bent 8) (fCons (fVar 0) (fCons (fVar 1) (fNil)))) (fNil)))) (fNil)))))) (sNil)))))))))))))))))
def R__law_n1_things : G.Run := runOf 14 f__law_n1_things
theorem ok__law_n1_things (B : Facts K mg fa fn) (B2 : Exs K mg cls) (B3 : ∀ p ∈ tf.map (He.cT K), LamX.TabB base mg p.1 p.2) (B4 : tbsOk K = true) : Ok P w K mg base (TT K) (caOf K cls) "_law_n1_things" 11 ["jar", "net"] R__law_n1_things := by
  have eb : d__law_n1_things.body = d__law_n1_things.body := rfl
  conv at eb => rhs; whnf
  have es : d__law_n1_things.scope = d__law_n1_things.scope := rfl
  conv at es => rhs; whnf
  refine ok_def (N := ["jar", "net", "n", "moves_now", "period", "longest", "a", "b", "d", "some", "odd", "odds", "move", "at"]) (k := 10) B d__law_n1_things 19 19 rfl rfl rfl rfl rfl rfl es eb sc__law_n1_things rfl (fun _ _ _ _ _ _ us hl => match us, hl with | [_, _], _ => rfl) fun cdv A outer s H E hr tk => ?_
  have k__law_n1_put : Ok P w K mg base (TT K) (caOf K cls) "_law_n1_put" 2 ["moves_now", "move"] R__law_n1_put := ok__law_n1_put B B2 B3 B4
  have k__law_take : Ok P w K mg base (TT K) (caOf K cls) "_law_take" 1 ["jar", "many"] R__law_take := ok__law_take B B2 B3 B4
  have k__law_xp_bent : Ok P w K mg base (TT K) (caOf K cls) "_law_xp_bent" 10 ["jar", "thing"] (R__law_xp_bent 8) := ok__law_xp_bent B B2 B3 B4 8
  have hu1 := room_u hr
  have hu := room_u64 hr
  have hu5 := room_u65 hr
  have hu1' := room_u1 hr
  exact (vs_cons (sasg (vv 1) (vg_tgt (gt (gc (gn 2 sc__law_n1_things.nd) (gc (gn 3 sc__law_n1_things.nd) (gc (gn 4 sc__law_n1_things.nd) g0)))) (fun i _ => fr0 rfl i)))
    (vs_cons (sset 5 (fr0 rfl 5) sc__law_n1_things.nd (vbl (call_dMax rfl) (B.free 34 rfl) (ac (vop op_dAdd (ve_lst (ac vi_ a0)) (ve_lc (own := [("a", 6), ("b", 7), ("d", 8)]) rfl sc__law_n1_things.nd (vi_seq (vv 3)) (blkOk_by (by rfl)) (by decide) (fun i _ => fr0 rfl i) (fun _ _ _ _ _ => (gt (gc (gn 6 sc__law_n1_things.nd) (gc (gn 7 sc__law_n1_things.nd) (gc (gn 8 sc__law_n1_things.nd) g0))))) (fun _ _ _ _ _ => by exact vts_nil) (fun _ _ _ _ _ => by exact (vv 8)) (fun _ => rfl))) a0)))
    (vs_cons (sset 9 (fr0 rfl 9) sc__law_n1_things.nd (ve_lst (ac (vv 1) (ac (ve_tup (ac (vv 2) (ac (vv 3) a0))) (ac (vop op_dAdd (vv 1) (ve_tup (ac vi_ a0))) (ac (vty call_dList (B.free 33 rfl) (ac (vv 1) a0)) (ac vn_ (ac (vv 2) (ac (ve_tup a0) (ac (ve_tup (ac vi_ (ac (vv 3) (ac vi_ a0)))) (ac (ve_tup (ac (ve_un op_dNeg vi_) (ac (ve_tup a0) (ac vi_ a0)))) (ac (ve_tup (ac vb_ (ac (ve_tup a0) (ac vi_ a0)))) a0))))))))))))
    (vs_cons (sexp (vmt PySem.F.plainAttrs_list PySem.F.slot_list_extend PySem.F.type_list_extend mt_dExtend (vv 9) (ac (ve_lst (ac (ve_tup (ac vn_ (ac (vv 3) (ac (vv 4) a0)))) (ac (ve_tup (ac (vv 2) (ac (vty call_dList (B.free 33 rfl) (ac (vv 3) a0)) (ac (vv 4) a0)))) (ac (ve_tup (ac (vv 2) (ac vn_ (ac (vv 4) a0)))) (ac (ve_tup (ac (vv 2) (ac vi_ (ac vn_ a0)))) a0))))) a0)))
    (vs_cons (sexp (vmt PySem.F.plainAttrs_list PySem.F.slot_list_append PySem.F.type_list_append mt_dAppend (vv 9) (ac (ve_tup (ac vi_ (ac vn_ (ac vi_ a0)))) a0)))
    (vs_cons (sexp (vmt PySem.F.plainAttrs_list PySem.F.slot_list_extend PySem.F.type_list_extend mt_dExtend (vv 9) (ac (ve_lst (ac (ve_tup (ac (vv 2) (ac (ve_rev (vv 3)) (ac (vv 4) a0)))) (ac (ve_tup (ac (vv 2) (ac (vop op_dMul (vv 3) vi_) (ac (vv 4) a0)))) (ac (ve_tup (ac (vv 2) (ac (vop op_dMul (vv 3) vi_) (ac vn_ a0)))) a0)))) a0)))
    (vs_cons (sexp (vmt PySem.F.plainAttrs_list PySem.F.slot_list_append PySem.F.type_list_append mt_dAppend (vv 9) (ac (ve_tup (ac vi_ (ac (vv 3) (ac (vv 4) a0)))) a0)))
    (vs_cons (sexp (vmt PySem.F.plainAttrs_list PySem.F.slot_list_extend PySem.F.type_list_extend mt_dExtend (vv 9) (ac (ve_lst (ac (ve_tup (ac (vv 2) (ac (vop op_dMul (ve_tup (ac vn_ a0)) vi_) (ac vi_ a0)))) (ac (ve_tup (ac (vv 2) (ac (vop op_dMul (ve_tup (ac vn_ a0)) vi_) (ac vi_ a0)))) (ac (ve_tup (ac (vv 2) (ac (ve_tup a0) (ac (vv 4) a0)))) (ac (ve_tup (ac vi_ (ac (ve_tup a0) (ac vi_ a0)))) (ac (ve_tup (ac vs_ (ac (ve_tup a0) (ac vi_ a0)))) a0)))))) a0)))
    (vs_cons (sfor (fun i _ => fr0 rfl i) (vi_seq (ve_lst (ac (vop op_dMul vi_ (vv 5)) (ac (vop op_dAdd (vop op_dMul vi_ (vv 5)) vi_) (ac (vop op_dSub (vop op_dMul vi_ (vv 5)) vi_) (ac vi_ (ac vi_ (ac (ve_un op_dNeg vi_) (ac vi_ (ac vi_ (ac vn_ (ac vb_ (ac vs_ (ac (ve_tup (ac vi_ a0)) (ac (vop op_dPow vi_ vi_) a0))))))))))))))) (gn 10 sc__law_n1_things.nd) (vs_cons (sexp (vmt PySem.F.plainAttrs_list PySem.F.slot_list_append PySem.F.type_list_append mt_dAppend (vv 9) (ac (ve_tup (ac (vv 2) (ac (vv 3) (ac (vv 10) a0)))) a0)))
    vs_nil) (hp := (L2.passes_of rfl)))
    (vs_cons (sset 11 (fr0 rfl 11) sc__law_n1_things.nd (ve_lst (ac (ve_tup (ac vi_ (ac vi_ (ac vi_ a0)))) (ac (ve_tup (ac vi_ (ac (vv 2) (ac vi_ a0)))) (ac (ve_tup (ac (vv 2) (ac vi_ (ac vi_ a0)))) (ac (ve_tup (ac (ve_un op_dNeg vi_) (ac vi_ (ac vi_ a0)))) (ac (ve_tup (ac vi_ (ac vi_ (ac vi_ a0)))) (ac (ve_tup (ac vi_ (ac vi_ (ac (ve_un op_dNeg vi_) a0)))) (ac (ve_tup (ac vi_ (ac vi_ a0))) (ac (ve_tup (ac vi_ (ac vi_ (ac vi_ (ac vi_ a0))))) (ac (ve_lst (ac vi_ (ac vi_ (ac vi_ a0)))) a0)))))))))))
    (vs_cons (sexp (vmt PySem.F.plainAttrs_list PySem.F.slot_list_extend PySem.F.type_list_extend mt_dExtend (vv 11) (ac (ve_lst (ac vn_ (ac vi_ (ac (ve_tup a0) a0)))) a0)))
    (vs_cons (sexp (vmt PySem.F.plainAttrs_list PySem.F.slot_list_extend PySem.F.type_list_extend mt_dExtend (vv 11) (ac (ve_lst (ac (ve_tup (ac vb_ (ac vi_ (ac vi_ a0)))) (ac (ve_tup (ac vi_ (ac vi_ (ac vb_ a0)))) (ac (ve_tup (ac vi_ (ac vi_ (ac vn_ a0)))) (ac (ve_tup (ac vs_ (ac vi_ (ac vi_ a0)))) (ac (ve_tup (ac vi_ (ac (ve_tup (ac vi_ a0)) (ac vi_ a0)))) (ac (ve_tup (ac vi_ (ac vi_ (ac vi_ a0)))) (ac (ve_tup (ac vi_ (ac vi_ (ac vi_ a0)))) a0)))))))) a0)))
    (vs_cons (sexp (vmt PySem.F.plainAttrs_list PySem.F.slot_list_append PySem.F.type_list_append mt_dAppend (vv 11) (ac (ve_tup (ac vi_ (ac vi_ (ac vi_ a0)))) a0)))
    (vs_cons (sexp (vmt PySem.F.plainAttrs_list PySem.F.slot_list_extend PySem.F.type_list_extend mt_dExtend (vv 11) (ac (vop op_dAdd (ve_lc (own := [("a", 6), ("b", 7), ("d", 8)]) rfl sc__law_n1_things.nd (vi_seq (ve_sl (vv 3) vo_no (vo_so vi_))) (blkOk_by (by rfl)) (by decide) (fun i _ => fr0 rfl i) (fun _ _ _ _ _ => (gt (gc (gn 6 sc__law_n1_things.nd) (gc (gn 7 sc__law_n1_things.nd) (gc (gn 8 sc__law_n1_things.nd) g0))))) (fun _ _ _ _ _ => by exact vts_nil) (fun _ _ _ _ _ => by exact (ve_tup (ac (vv 7) (ac (vv 6) (ac vi_ a0))))) (fun _ => rfl)) (vty call_dList (B.free 33 rfl) (ac (ve_sl (vv 3) vo_no (vo_so vi_)) a0))) a0)))
    (vs_cons (sfor (fun i _ => fr0 rfl i) (vi_seq (vv 11)) (gn 12 sc__law_n1_things.nd) (vs_cons (sset 13 (fr0 rfl 13) sc__law_n1_things.nd (vc (X := _) (k := 1) (ps := ["jar", "many"]) k__law_take (hr.mono (by omega)) tk (ac (vv 0) (ac (vop op_dAdd (vbl call_dLen (B.free 32 rfl) (ac (vv 3) a0)) vi_) a0))))
    (vs_cons (sexp (vmt PySem.F.plainAttrs_list PySem.F.slot_list_append PySem.F.type_list_append mt_dAppend (vv 9) (ac (ve_tup (ac (vv 2) (ac (vop op_dAdd (vop op_dAdd (ve_sl (vv 3) vo_no (vo_so (vv 13))) (ve_tup (ac (vv 12) a0))) (ve_sl (vv 3) (vo_so (vv 13)) vo_no)) (ac (vv 4) a0)))) a0)))
    (vs_cons (sexp (vmt PySem.F.plainAttrs_list PySem.F.slot_list_append PySem.F.type_list_append mt_dAppend (vv 9) (ac (ve_tup (ac (vv 2) (ac (vc (X := _) (k := 2) (ps := ["moves_now", "move"]) k__law_n1_put (hr.mono (by omega)) tk (ac (vv 3) (ac (vv 12) a0))) (ac (vv 4) a0)))) a0)))
    vs_nil))) (hp := (L2.passes_of rfl)))
    (vs_cons (sexp (vmt PySem.F.plainAttrs_list PySem.F.slot_list_append PySem.F.type_list_append mt_dAppend (vv 9) (ac (ve_tup (ac (vv 2) (ac (vop op_dAdd (vop op_dAdd (ve_tup (ac vn_ a0)) (vv 3)) (ve_tup (ac (ve_tup (ac vi_ (ac vi_ (ac vi_ a0)))) a0))) (ac vi_ a0)))) a0)))
    (vs_cons (vs_ret (vop op_dAdd (vv 9) (ve_lst (ac (vc (X := _) (k := 10) (ps := ["jar", "thing"]) k__law_xp_bent (hr.mono (by omega)) tk (ac (vv 0) (ac (vv 1) a0))) (ac (vc (X := _) (k := 10) (ps := ["jar", "thing"]) k__law_xp_bent (hr.mono (by omega)) tk (ac (vv 0) (ac (vc (X := _) (k := 10) (ps := ["jar", "thing"]) k__law_xp_bent (hr.mono (by omega)) tk (ac (vv 0) (ac (vv 1) a0))) a0))) a0)))))
    vs_nil)))))))))))))))))
theorem sc__law_n1_right : FnScope ["thing", "fault", "got"] ["thing"] (defScope s__law_n1_right) := ⟨rfl, rfl, rfl, by decide +kernel, rfl, by decide +kernel, by decide +kernel⟩
def f__law_n1_right : FS := sSeq (sAsg (fRun 1 R__law_xp_net_fault (fCons (fVar 0) (fNil))) (gNm 1)) (sSeq (sAsg (fLam (runL 5 f__law_n1_heard) (fRun 1 R_made_net (fCons (fVar 0) (fNil)))) (gNm 2)) (sSeq (sIf (fNotB (fTru (fRun 2 R__law_xp_same (fCons (fVar 2) (fCons (fIf (fAsB (fB2 dIsN (fVar 1) (fCon .non))) (fTup (fCons (fCon (.str "told")) (fCons (fVar 0) (fNil)))) (fVar 1)) (fNil)))))) (sSeq (sRet (fCon (.bl false))) (sNil)) (sNil)) (sSeq (sRet (fRun 2 R__law_xp_same (fCons (fLam (runL 5 f__law_n1_heard) (fRun 1 R_is_net (fCons (fVar 0) (fNil)))) (fCons (fTup (fCons (fCon (.str "told")) (fCons (fB2 dIsN (fVar 1) (fCon .non)) (fNil)))) (fNil))))) (sNil))))
def R__law_n1_right : G.Run := runOf 3 f__law_n1_right
theorem ok__law_n1_right (B : Facts K mg fa fn) (B2 : Exs K mg cls) (B3 : ∀ p ∈ tf.map (He.cT K), LamX.TabB base mg p.1 p.2) (B4 : tbsOk K = true) : Ok P w K mg base (TT K) (caOf K cls) "_law_n1_right" 8 ["thing"] R__law_n1_right := by
  have eb : d__law_n1_right.body = d__law_n1_right.body := rfl
  conv at eb => rhs; whnf
  have es : d__law_n1_right.scope = d__law_n1_right.scope := rfl
  conv at es => rhs; whnf
  refine ok_defC (N := ["thing", "fault", "got"]) (k := 7) B d__law_n1_right 21 21 rfl rfl rfl rfl rfl (rfl : d__law_n1_right.qual = ("_law_n1_right" : PySem.Str)) es eb sc__law_n1_right rfl (fun _ _ _ _ _ _ us hl => match us, hl with | [_], _ => rfl) fun cdv A outer s H E hcd hr tk => ?_
  have k__law_n1_heard : OkL P w K mg base (tbs K) (caOf K cls) "_law_n1_heard" 1 "call" ["call", "refused_one", "some", "name", "is_one"] f__law_n1_heard := okl__law_n1_heard B B2 B3 B4
  have k__law_xp_net_fault : Ok P w K mg base (TT K) (caOf K cls) "_law_xp_net_fault" 4 ["thing"] R__law_xp_net_fault := ok__law_xp_net_fault B B2 B3 B4
  have k__law_xp_same : Ok P w K mg base (TT K) (caOf K cls) "_law_xp_same" 2 ["heard", "owed"] R__law_xp_same := ok__law_xp_same B B2 B3 B4
  have k_is_net : Ok P w K mg base (TT K) (caOf K cls) "is_net" 5 ["thing"] R_is_net := ok_is_net B B2 B3 B4
  have k_made_net : Ok P w K mg base (TT K) (caOf K cls) "made_net" 5 ["thing"] R_made_net := ok_made_net B B2 B3 B4
  have hmT0 : ((He.cT K ("_law_n1_right", none)).2, ((("_law_n1_right" : PySem.Str) ++ ".<locals>." : PySem.Str) ++ ("<lambda>" : PySem.Str) : PySem.Str)) ∈ (TT K).tb := tbs_mem (i := 0) rfl
  have hu40 : ∀ p ∈ (TT K).tb, p.1 = (He.cT K ("_law_n1_right", none)).2 → p.2 = ((("_law_n1_right" : PySem.Str) ++ ".<locals>." : PySem.Str) ++ ("<lambda>" : PySem.Str) : PySem.Str) := tbs_uniq B4 (i := 0) rfl
  have hu1 := room_u hr
  have hu := room_u64 hr
  have hu5 := room_u65 hr
  have hu1' := room_u1 hr
  exact (vs_cons (sset 1 (fr0 rfl 1) sc__law_n1_right.nd (vc (X := _) (k := 4) (ps := ["thing"]) k__law_xp_net_fault (hr.mono (by omega)) tk (ac (vv 0) a0)))
    (vs_cons (sset 2 (fr0 rfl 2) sc__law_n1_right.nd (ve_lam (k := 6) (c := He.codeOf K ("_law_n1_right", none)) (Pt := (He.cT K ("_law_n1_right", none)).2) (q := (("_law_n1_right" : PySem.Str) ++ ".<locals>." : PySem.Str)) (k__law_n1_heard.mono (by decide)) (by rfl) (B3 (He.cT K ("_law_n1_right", none)) (List.mem_map.mpr ⟨("_law_n1_right", none), List.mem_of_getElem? (i := 0) rfl, rfl⟩)) hcd (by rfl) hmT0 hu40 (hr.mono (by decide)) (by decide) tk (LamX.lamS_by (by rfl)) (by rfl) (fun _ _ _ _ _ => by rfl) (fun _ _ _ _ _ _ _ hr' tk' => by
      have hu := room_u64 hr'; have hu5 := room_u65 hr'; have hu1 := room_u hr'; have hu1' := room_u1 hr'
      exact (vc (X := _) (k := 5) (ps := ["thing"]) k_made_net (hr'.mono (by decide)) tk' (ac (vv 0) a0))) (by decide) (by decide) (by decide)))
    (vs_cons (vs_if (vt_not (ttr (vc (X := _) (k := 2) (ps := ["heard", "owed"]) k__law_xp_same (hr.mono (by omega)) tk (ac (vv 2) (ac (ve_if (tcm op_dIsN (vv 1) vn_) (ve_tup (ac vs_ (ac (vv 0) a0))) (vv 1)) a0))))) (vs_cons (vs_ret vb_)
    vs_nil) vs_nil)
    (vs_cons (vs_ret (vc (X := _) (k := 2) (ps := ["heard", "owed"]) k__law_xp_same (hr.mono (by omega)) tk (ac (ve_lam (k := 6) (c := He.codeOf K ("_law_n1_right", none)) (Pt := (He.cT K ("_law_n1_right", none)).2) (q := (("_law_n1_right" : PySem.Str) ++ ".<locals>." : PySem.Str)) (k__law_n1_heard.mono (by decide)) (by rfl) (B3 (He.cT K ("_law_n1_right", none)) (List.mem_map.mpr ⟨("_law_n1_right", none), List.mem_of_getElem? (i := 0) rfl, rfl⟩)) hcd (by rfl) hmT0 hu40 (hr.mono (by decide)) (by decide) tk (LamX.lamS_by (by rfl)) (by rfl) (fun _ _ _ _ _ => by rfl) (fun _ _ _ _ _ _ _ hr' tk' => by
      have hu := room_u64 hr'; have hu5 := room_u65 hr'; have hu1 := room_u hr'; have hu1' := room_u1 hr'
      exact (vc (X := _) (k := 5) (ps := ["thing"]) k_is_net (hr'.mono (by decide)) tk' (ac (vv 0) a0))) (by decide) (by decide) (by decide)) (ac (ve_tup (ac vs_ (ac (vcm op_dIsN (vv 1) vn_) a0))) a0))))
    vs_nil))))
theorem sc__law_n1_hand : FnScope ["great", "at", "some"] [] (defScope s__law_n1_hand) := ⟨rfl, rfl, rfl, by decide +kernel, rfl, by decide +kernel, by decide +kernel⟩
def f__law_n1_hand : FS := sSeq (sAsg (fCall cTuple (fCons (fCall cSorted (fCons (fLc (wR1 (fCons (fCon (.int 60)) (fNil))) (.nm 1) (fYes) (fTup (fCons (fB2 dDiv (fVar 1) (fCon (.int 2))) (fCons (fB2 dMod (fCall cInt (fCons (fB2 dAdd (fB2 dDiv (fVar 1) (fCon (.int 2))) (fCon (.int 1))) (fNil))) (fCon (.int 30))) (fCons (fB2 dAdd (fCon (.int 1)) (fB2 dMod (fCall cInt (fCons (fVar 1) (fNil))) (fCon (.int 2)))) (fNil))))) [1]) (fNil))) (fNil))) (gNm 0)) (sSeq (sAsg (fLst (fCons (fTup (fCons (fTup (fCons (fCon (.int 30)) (fCons (fVar 0) (fCons (fCon (.int 0)) (fNil))))) (fCons (fCon .non) (fNil)))) (fCons (fTup (fCons (fTup (fCons (fCon (.int 30)) (fCons (fVar 0) (fCons (fCon (.int 5)) (fNil))))) (fCons (fCon .non) (fNil)))) (fCons (fTup (fCons (fTup (fCons (fCon (.int 30)) (fCons (fVar 0) (fCons (fCon (.int 4)) (fNil))))) (fCons (fTup (fCons (fCon (.str "BadNet")) (fCons (fCon (.int 2)) (fNil)))) (fNil)))) (fNil))))) (gNm 2)) (sSeq (sDrop (fMt "list" mAppend (fVar 2) (fCons (fTup (fCons (fTup (fCons (fCon (.int 30)) (fCons (fVar 0) (fCons (fCon (.int 49)) (fNil))))) (fCons (fTup (fCons (fCon (.str "BadNet")) (fCons (fCon (.int 2)) (fNil)))) (fNil)))) (fNil)))) (sSeq (sDrop (fMt "list" mExtend (fVar 2) (fCons (fLst (fCons (fTup (fCons (fTup (fCons (fCon (.int 30)) (fCons (fB2 dAdd (fVar 0) (fSl (fVar 0) (oNo) (oSo (fCon (.int 1))))) (fCons (fCon (.int 0)) (fNil))))) (fCons (fTup (fCons (fCon (.str "TooMany")) (fCons (fCon (.int 61)) (fNil)))) (fNil)))) (fCons (fTup (fCons (fTup (fCons (fCon (.int 30)) (fCons (fB2 dMul (fTup (fCons (fCon .non) (fNil))) (fCon (.int 61))) (fCons (fCon .non) (fNil))))) (fCons (fTup (fCons (fCon (.str "TooMany")) (fCons (fCon (.int 61)) (fNil)))) (fNil)))) (fNil)))) (fNil)))) (sSeq (sDrop (fMt "list" mExtend (fVar 2) (fCons (fLst (fCons (fTup (fCons (fTup (fCons (fCon (.int 2)) (fCons (fTup (fCons (fTup (fCons (fCon (.int 0)) (fCons (fCon (.int 1)) (fCons (fCon (.int 0)) (fNil))))) (fCons (fTup (fCons (fCon (.int 1)) (fCons (fCon (.int 0)) (fCons (fCon (.int 0)) (fNil))))) (fNil)))) (fCons (fCon (.int 0)) (fNil))))) (fCons (fTup (fCons (fCon (.str "BadNet")) (fCons (fTup (fCons (fCon (.int 1)) (fCons (fCon (.int 1)) (fNil)))) (fNil)))) (fNil)))) (fCons (fTup (fCons (fTup (fCons (fCon (.int 2)) (fCons (fTup (fCons (fTup (fCons (fCon (.int 0)) (fCons (fCon (.int 1)) (fCons (fCon (.int 0)) (fNil))))) (fCons (fTup (fCons (fCon (.int 1)) (fCons (fCon (.int 0)) (fCons (fCon (.int 1)) (fNil))))) (fNil)))) (fCons (fCon (.int 3)) (fNil))))) (fCons (fCon .non) (fNil)))) (fNil)))) (fNil)))) (sSeq (sDrop (fMt "list" mExtend (fVar 2) (fCons (fLst (fCons (fTup (fCons (fTup (fCons (fCon (.int 2)) (fCons (fTup (fCons (fTup (fCons (fCon (.int 0)) (fCons (fCon (.int 1)) (fCons (fCon (.int 0)) (fNil))))) (fCons (fTup (fCons (fCon (.int 1)) (fCons (fCon (.int 0)) (fCons (fCon (.int 1)) (fNil))))) (fNil)))) (fCons (fCon (.int 2)) (fNil))))) (fCons (fTup (fCons (fCon (.str "BadNet")) (fCons (fCon (.int 2)) (fNil)))) (fNil)))) (fCons (fTup (fCons (fTup (fCons (fCon (.int 1)) (fCons (fTup (fCons (fTup (fCons (fCon (.int 0)) (fCons (fCon (.int 0)) (fCons (fCon (.int 0)) (fNil))))) (fNil))) (fCons (fCon (.int 0)) (fNil))))) (fCons (fTup (fCons (fCon (.str "BadNet")) (fCons (fTup (fCons (fCon (.int 1)) (fCons (fCon (.int 0)) (fNil)))) (fNil)))) (fNil)))) (fNil)))) (fNil)))) (sSeq (sDrop (fMt "list" mExtend (fVar 2) (fCons (fLst (fCons (fTup (fCons (fTup (fCons (fCon (.int 1)) (fCons (fTup (fCons (fTup (fCons (fCon (.int 0)) (fCons (fCon (.int 0)) (fCons (fCon (.int 20)) (fNil))))) (fNil))) (fCons (fCon (.int 41)) (fNil))))) (fCons (fCon .non) (fNil)))) (fCons (fTup (fCons (fTup (fCons (fCon (.int 1)) (fCons (fTup (fCons (fTup (fCons (fCon (.int 0)) (fCons (fCon (.int 0)) (fCons (fCon (.int 20)) (fNil))))) (fNil))) (fCons (fCon (.int 40)) (fNil))))) (fCons (fTup (fCons (fCon (.str "BadNet")) (fCons (fCon (.int 2)) (fNil)))) (fNil)))) (fCons (fTup (fCons (fTup (fCons (fCon (.int 0)) (fCons (fTup (fNil)) (fCons (fCon (.int 1)) (fNil))))) (fCons (fCon .non) (fNil)))) (fNil))))) (fNil)))) (sSeq (sDrop (fMt "list" mExtend (fVar 2) (fCons (fLst (fCons (fTup (fCons (fTup (fCons (fCon (.int 1)) (fCons (fTup (fCons (fTup (fCons (fCon (.int 0)) (fCons (fCon (.int 0)) (fCons (fCon (.int 21)) (fNil))))) (fNil))) (fCons (fCon (.int 0)) (fNil))))) (fCons (fTup (fCons (fCon (.str "BadNet")) (fCons (fTup (fCons (fCon (.int 1)) (fCons (fCon (.int 0)) (fNil)))) (fNil)))) (fNil)))) (fCons (fTup (fCons (fTup (fCons (fCon (.int 0)) (fCons (fTup (fNil)) (fCons (fCon (.int 49)) (fNil))))) (fCons (fTup (fCons (fCon (.str "BadNet")) (fCons (fCon (.int 2)) (fNil)))) (fNil)))) (fCons (fTup (fCons (fTup (fCons (fCon (.int 0)) (fCons (fTup (fNil)) (fCons (fCon (.int 48)) (fNil))))) (fCons (fCon .non) (fNil)))) (fNil))))) (fNil)))) (sSeq (sDrop (fMt "list" mAppend (fVar 2) (fCons (fTup (fCons (fTup (fCons (fCon (.int 3)) (fCons (fTup (fCons (fTup (fCons (fCon (.int 0)) (fCons (fCon (.int 1)) (fCons (fCon (.int 0)) (fNil))))) (fCons (fTup (fCons (fCon (.int 1)) (fCons (fCon (.int 2)) (fCons (fCon (.int 0)) (fNil))))) (fCons (fTup (fCons (fCon (.int 2)) (fCons (fCon (.int 0)) (fCons (fCon (.int 0)) (fNil))))) (fNil))))) (fCons (fCon (.int 1)) (fNil))))) (fCons (fCon .non) (fNil)))) (fNil)))) (sSeq (sDrop (fMt "list" mAppend (fVar 2) (fCons (fTup (fCons (fTup (fCons (fCon (.int 2)) (fCons (fTup (fCons (fTup (fCons (fCon (.int 1)) (fCons (fCon (.int 0)) (fCons (fCon (.int 0)) (fNil))))) (fCons (fTup (fCons (fCon (.int 0)) (fCons (fCon (.int 1)) (fCons (fCon (.int 0)) (fNil))))) (fNil)))) (fCons (fCon (.int 9)) (fNil))))) (fCons (fTup (fCons (fCon (.str "BadNet")) (fCons (fTup (fCons (fCon (.int 1)) (fCons (fCon (.int 1)) (fNil)))) (fNil)))) (fNil)))) (fNil)))) (sSeq (sRet (fVar 2)) (sNil)))))))))))
def R__law_n1_hand : G.Run := runOf 3 f__law_n1_hand
theorem ok__law_n1_hand (B : Facts K mg fa fn) (B2 : Exs K mg cls) (B3 : ∀ p ∈ tf.map (He.cT K), LamX.TabB base mg p.1 p.2) (B4 : tbsOk K = true) : Ok P w K mg base (TT K) (caOf K cls) "_law_n1_hand" 1 [] R__law_n1_hand := by
  have eb : d__law_n1_hand.body = d__law_n1_hand.body := rfl
  conv at eb => rhs; whnf
  have es : d__law_n1_hand.scope = d__law_n1_hand.scope := rfl
  conv at es => rhs; whnf
  refine ok_def (N := ["great", "at", "some"]) (k := 0) B d__law_n1_hand 22 22 rfl rfl rfl rfl rfl rfl es eb sc__law_n1_hand rfl (fun _ _ _ _ _ _ us hl => match us, hl with | [], _ => rfl) fun cdv A outer s H E hr tk => ?_
  have hu1 := room_u hr
  have hu := room_u64 hr
  have hu5 := room_u65 hr
  have hu1' := room_u1 hr
  exact (vs_cons (sset 0 (fr0 rfl 0) sc__law_n1_hand.nd (vty call_dTuple (B.free 38 rfl) (ac (vbl (call_dSorted rfl hu) (B.free 36 rfl) (ac (ve_lc (own := [("at", 1)]) rfl sc__law_n1_hand.nd (vi_range1 rfl (B.free 35 rfl) (ac vi_ a0) rfl) (blkOk_by (by rfl)) (by decide) (fun i _ => fr0 rfl i) (fun _ _ _ _ _ => (gn 1 sc__law_n1_hand.nd)) (fun _ _ _ _ _ => by exact vts_nil) (fun _ _ _ _ _ => by exact (ve_tup (ac (vop op_dDiv (vv 1) vi_) (ac (vop op_dMod (vty call_dInt (B.free 30 rfl) (ac (vop op_dAdd (vop op_dDiv (vv 1) vi_) vi_) a0)) vi_) (ac (vop op_dAdd vi_ (vop op_dMod (vty call_dInt (B.free 30 rfl) (ac (vv 1) a0)) vi_)) a0))))) (fun _ => rfl)) a0)) a0)))
    (vs_cons (sset 2 (fr0 rfl 2) sc__law_n1_hand.nd (ve_lst (ac (ve_tup (ac (ve_tup (ac vi_ (ac (vv 0) (ac vi_ a0)))) (ac vn_ a0))) (ac (ve_tup (ac (ve_tup (ac vi_ (ac (vv 0) (ac vi_ a0)))) (ac vn_ a0))) (ac (ve_tup (ac (ve_tup (ac vi_ (ac (vv 0) (ac vi_ a0)))) (ac (ve_tup (ac vs_ (ac vi_ a0))) a0))) a0)))))
    (vs_cons (sexp (vmt PySem.F.plainAttrs_list PySem.F.slot_list_append PySem.F.type_list_append mt_dAppend (vv 2) (ac (ve_tup (ac (ve_tup (ac vi_ (ac (vv 0) (ac vi_ a0)))) (ac (ve_tup (ac vs_ (ac vi_ a0))) a0))) a0)))
    (vs_cons (sexp (vmt PySem.F.plainAttrs_list PySem.F.slot_list_extend PySem.F.type_list_extend mt_dExtend (vv 2) (ac (ve_lst (ac (ve_tup (ac (ve_tup (ac vi_ (ac (vop op_dAdd (vv 0) (ve_sl (vv 0) vo_no (vo_so vi_))) (ac vi_ a0)))) (ac (ve_tup (ac vs_ (ac vi_ a0))) a0))) (ac (ve_tup (ac (ve_tup (ac vi_ (ac (vop op_dMul (ve_tup (ac vn_ a0)) vi_) (ac vn_ a0)))) (ac (ve_tup (ac vs_ (ac vi_ a0))) a0))) a0))) a0)))
    (vs_cons (sexp (vmt PySem.F.plainAttrs_list PySem.F.slot_list_extend PySem.F.type_list_extend mt_dExtend (vv 2) (ac (ve_lst (ac (ve_tup (ac (ve_tup (ac vi_ (ac (ve_tup (ac (ve_tup (ac vi_ (ac vi_ (ac vi_ a0)))) (ac (ve_tup (ac vi_ (ac vi_ (ac vi_ a0)))) a0))) (ac vi_ a0)))) (ac (ve_tup (ac vs_ (ac (ve_tup (ac vi_ (ac vi_ a0))) a0))) a0))) (ac (ve_tup (ac (ve_tup (ac vi_ (ac (ve_tup (ac (ve_tup (ac vi_ (ac vi_ (ac vi_ a0)))) (ac (ve_tup (ac vi_ (ac vi_ (ac vi_ a0)))) a0))) (ac vi_ a0)))) (ac vn_ a0))) a0))) a0)))
    (vs_cons (sexp (vmt PySem.F.plainAttrs_list PySem.F.slot_list_extend PySem.F.type_list_extend mt_dExtend (vv 2) (ac (ve_lst (ac (ve_tup (ac (ve_tup (ac vi_ (ac (ve_tup (ac (ve_tup (ac vi_ (ac vi_ (ac vi_ a0)))) (ac (ve_tup (ac vi_ (ac vi_ (ac vi_ a0)))) a0))) (ac vi_ a0)))) (ac (ve_tup (ac vs_ (ac vi_ a0))) a0))) (ac (ve_tup (ac (ve_tup (ac vi_ (ac (ve_tup (ac (ve_tup (ac vi_ (ac vi_ (ac vi_ a0)))) a0)) (ac vi_ a0)))) (ac (ve_tup (ac vs_ (ac (ve_tup (ac vi_ (ac vi_ a0))) a0))) a0))) a0))) a0)))
    (vs_cons (sexp (vmt PySem.F.plainAttrs_list PySem.F.slot_list_extend PySem.F.type_list_extend mt_dExtend (vv 2) (ac (ve_lst (ac (ve_tup (ac (ve_tup (ac vi_ (ac (ve_tup (ac (ve_tup (ac vi_ (ac vi_ (ac vi_ a0)))) a0)) (ac vi_ a0)))) (ac vn_ a0))) (ac (ve_tup (ac (ve_tup (ac vi_ (ac (ve_tup (ac (ve_tup (ac vi_ (ac vi_ (ac vi_ a0)))) a0)) (ac vi_ a0)))) (ac (ve_tup (ac vs_ (ac vi_ a0))) a0))) (ac (ve_tup (ac (ve_tup (ac vi_ (ac (ve_tup a0) (ac vi_ a0)))) (ac vn_ a0))) a0)))) a0)))
    (vs_cons (sexp (vmt PySem.F.plainAttrs_list PySem.F.slot_list_extend PySem.F.type_list_extend mt_dExtend (vv 2) (ac (ve_lst (ac (ve_tup (ac (ve_tup (ac vi_ (ac (ve_tup (ac (ve_tup (ac vi_ (ac vi_ (ac vi_ a0)))) a0)) (ac vi_ a0)))) (ac (ve_tup (ac vs_ (ac (ve_tup (ac vi_ (ac vi_ a0))) a0))) a0))) (ac (ve_tup (ac (ve_tup (ac vi_ (ac (ve_tup a0) (ac vi_ a0)))) (ac (ve_tup (ac vs_ (ac vi_ a0))) a0))) (ac (ve_tup (ac (ve_tup (ac vi_ (ac (ve_tup a0) (ac vi_ a0)))) (ac vn_ a0))) a0)))) a0)))
    (vs_cons (sexp (vmt PySem.F.plainAttrs_list PySem.F.slot_list_append PySem.F.type_list_append mt_dAppend (vv 2) (ac (ve_tup (ac (ve_tup (ac vi_ (ac (ve_tup (ac (ve_tup (ac vi_ (ac vi_ (ac vi_ a0)))) (ac (ve_tup (ac vi_ (ac vi_ (ac vi_ a0)))) (ac (ve_tup (ac vi_ (ac vi_ (ac vi_ a0)))) a0)))) (ac vi_ a0)))) (ac vn_ a0))) a0)))
    (vs_cons (sexp (vmt PySem.F.plainAttrs_list PySem.F.slot_list_append PySem.F.type_list_append mt_dAppend (vv 2) (ac (ve_tup (ac (ve_tup (ac vi_ (ac (ve_tup (ac (ve_tup (ac vi_ (ac vi_ (ac vi_ a0)))) (ac (ve_tup (ac vi_ (ac vi_ (ac vi_ a0)))) a0))) (ac vi_ a0)))) (ac (ve_tup (ac vs_ (ac (ve_tup (ac vi_ (ac vi_ a0))) a0))) a0))) a0)))
    (vs_cons (vs_ret (vv 2))
    vs_nil)))))))))))
theorem sc_law : FnScope ["script", "jar", "go", "thing", "fault"] ["script"] (defScope s_law) := ⟨rfl, rfl, rfl, by decide +kernel, rfl, by decide +kernel, by decide +kernel⟩
def f_law : FS := sSeq (sAsg (fRun 1 R__law_pool (fCons (fVar 0) (fNil))) (gNm 1)) (sSeq (sFor (wR1 (fCons (fCon (.int 5)) (fNil))) (gT (.nm 2)) (sSeq (sFor (wSeq (fRun 2 R__law_n1_things (fCons (fVar 1) (fCons (fRun 1 R__law_xp_net (fCons (fVar 1) (fNil))) (fNil))))) (gT (.nm 3)) (sSeq (sIf (fNotB (fTru (fRun 1 R__law_n1_right (fCons (fVar 3) (fNil))))) (sSeq (sRet (fCon (.bl false))) (sNil)) (sNil)) (sNil))) (sNil))) (sSeq (sFor (wSeq (fRun 0 R__law_n1_hand fNil)) (gT (.tp ((.nm 3) :: (.nm 4) :: []))) (sSeq (sIf (fOrB (fAsB (fB2 dNe (fRun 1 R__law_xp_net_fault (fCons (fVar 3) (fNil))) (fVar 4))) (fNotB (fTru (fRun 1 R__law_n1_right (fCons (fVar 3) (fNil)))))) (sSeq (sRet (fCon (.bl false))) (sNil)) (sNil)) (sNil))) (sSeq (sRet (fCon (.bl true))) (sNil))))
def R_law : G.Run := runOf 5 f_law
theorem ok_law (B : Facts K mg fa fn) (B2 : Exs K mg cls) (B3 : ∀ p ∈ tf.map (He.cT K), LamX.TabB base mg p.1 p.2) (B4 : tbsOk K = true) : Ok P w K mg base (TT K) (caOf K cls) "law" 12 ["script"] R_law := by
  have eb : d_law.body = d_law.body := rfl
  conv at eb => rhs; whnf
  have es : d_law.scope = d_law.scope := rfl
  conv at es => rhs; whnf
  refine ok_def (N := ["script", "jar", "go", "thing", "fault"]) (k := 11) B d_law 23 23 rfl rfl rfl rfl rfl rfl es eb sc_law rfl (fun _ _ _ _ _ _ us hl => match us, hl with | [_], _ => rfl) fun cdv A outer s H E hr tk => ?_
  have k__law_n1_hand : Ok P w K mg base (TT K) (caOf K cls) "_law_n1_hand" 1 [] R__law_n1_hand := ok__law_n1_hand B B2 B3 B4
  have k__law_n1_right : Ok P w K mg base (TT K) (caOf K cls) "_law_n1_right" 8 ["thing"] R__law_n1_right := ok__law_n1_right B B2 B3 B4
  have k__law_n1_things : Ok P w K mg base (TT K) (caOf K cls) "_law_n1_things" 11 ["jar", "net"] R__law_n1_things := ok__law_n1_things B B2 B3 B4
  have k__law_pool : Ok P w K mg base (TT K) (caOf K cls) "_law_pool" 1 ["script"] R__law_pool := ok__law_pool B B2 B3 B4
  have k__law_xp_net : Ok P w K mg base (TT K) (caOf K cls) "_law_xp_net" 3 ["jar"] R__law_xp_net := ok__law_xp_net B B2 B3 B4
  have k__law_xp_net_fault : Ok P w K mg base (TT K) (caOf K cls) "_law_xp_net_fault" 4 ["thing"] R__law_xp_net_fault := ok__law_xp_net_fault B B2 B3 B4
  have hu1 := room_u hr
  have hu := room_u64 hr
  have hu5 := room_u65 hr
  have hu1' := room_u1 hr
  exact (vs_cons (sset 1 (fr0 rfl 1) sc_law.nd (vc (X := _) (k := 1) (ps := ["script"]) k__law_pool (hr.mono (by omega)) tk (ac (vv 0) a0)))
    (vs_cons (sfor (fun i _ => fr0 rfl i) (vi_range1 rfl (B.free 35 rfl) (ac vi_ a0) rfl) (gn 2 sc_law.nd) (vs_cons (sfor (fun i _ => fr0 rfl i) (vi_seq (vc (X := _) (k := 11) (ps := ["jar", "net"]) k__law_n1_things (hr.mono (by omega)) tk (ac (vv 1) (ac (vc (X := _) (k := 3) (ps := ["jar"]) k__law_xp_net (hr.mono (by omega)) tk (ac (vv 1) a0)) a0)))) (gn 3 sc_law.nd) (vs_cons (vs_if (vt_not (ttr (vc (X := _) (k := 8) (ps := ["thing"]) k__law_n1_right (hr.mono (by omega)) tk (ac (vv 3) a0)))) (vs_cons (vs_ret vb_)
    vs_nil) vs_nil)
    vs_nil) (hp := (L2.passes_of rfl)))
    vs_nil) (hp := (L2.passes_of rfl)))
    (vs_cons (sfor (fun i _ => fr0 rfl i) (vi_seq (vc0 k__law_n1_hand (hr.mono (by omega)) tk)) (gt (gc (gn 3 sc_law.nd) (gc (gn 4 sc_law.nd) g0))) (vs_cons (vs_if (PW.pt (vw_or (tcm (op_dNe hu) (vc (X := _) (k := 4) (ps := ["thing"]) k__law_xp_net_fault (hr.mono (by omega)) tk (ac (vv 3) a0)) (vv 4)) (vw_or1 (vt_not (ttr (vc (X := _) (k := 8) (ps := ["thing"]) k__law_n1_right (hr.mono (by omega)) tk (ac (vv 3) a0))))))) (vs_cons (vs_ret vb_)
    vs_nil) vs_nil)
    vs_nil) (hp := (L2.passes_of rfl)))
    (vs_cons (vs_ret vb_)
    vs_nil))))
end
end K01

set_option maxRecDepth 100000
set_option maxHeartbeats 1000000
namespace K01
open G P
def p_whole : PS := tSeq (tRet (qAnd (qIsT "int" (qPk 0)) (qAnd (qNot (qIsT "bool" (qPk 0))) (qChain pLe pLe (qVar 1) (qVar 0) (qPk 2))))) (tNil)
def P_whole : PFn := pRunOf [.v, .v, .v] false 3 p_whole
theorem pok_whole : SR [.v, .v, .v] false R_whole P_whole := sr_of (f := f_whole) (p := p_whole) [.v, .v, .v] 3 (by
    unfold f_whole p_whole
    exact (s_seq (s_ret (e_and (e_isT "int" (e_pk 0)) (e_and (e_not (E.toK (e_isT "bool" (e_pk 0)))) (e_chain op_pLe op_pLe (e_var 1) (e_var 0) (e_pk 2)))))
    s_nil))
def p_is_move : PS := tSeq (tIf (qOrB (qNotB (qTru (qIsT "tuple" (qPk 1)))) (qAsB (qB2 pNe (qU pLen (qPk 1)) (qCon (.int 3))))) (tSeq (tRet (qCon (.bl false))) (tNil)) (tNil)) (tSeq (tAsgT (qVar 1) (.tp ((.nm 2) :: (.nm 3) :: (.nm 4) :: []))) (tSeq (tIf (qOrB (qNotB (qTru (qRun (.v (qVar 2) :: .v (qCon (.int 0)) :: .v (qB2 pSub (qVar 0) (qCon (.int 1))) :: []) P_whole))) (qOrB (qNotB (qTru (qRun (.v (qVar 3) :: .v (qCon (.int 0)) :: .v (qB2 pSub (qVar 0) (qCon (.int 1))) :: []) P_whole))) (qNotB (qTru (qRun (.v (qVar 4) :: .v (qCon (.int 0)) :: .v (qCon (.int (20))) :: []) P_whole))))) (tSeq (tRet (qCon (.bl false))) (tNil)) (tNil)) (tSeq (tRet (qOr (qB2 pNe (qVar 2) (qPk 3)) (qB2 pNe (qVar 4) (qCon (.int 0))))) (tNil))))
def P_is_move : PFn := pRunOf [.v, .v] false 5 p_is_move
theorem pok_is_move : SR [.v, .v] false R_is_move P_is_move := sr_of (f := f_is_move) (p := p_is_move) [.v, .v] 5 (by
    unfold f_is_move p_is_move
    exact (s_seq (s_if (t_or (t_not (t_tru (E.toK (e_isT "tuple" (e_pk 1))))) (t_asB (e_b2 op_pNe (e_c1 c_len (e_pk 1)) (E.toK (e_con fun _ _ => Den.int))))) (s_seq (s_ret (e_con fun _ _ => Den.bl))
    s_nil) s_nil)
    (s_seq (s_asgT (.tp ((.nm 2) :: (.nm 3) :: (.nm 4) :: [])) (e_var 1))
    (s_seq (s_if (t_or (t_not (t_tru (E.toK (e_runV pok_whole (ea_v (e_var 2) (ea_v (e_con fun _ _ => Den.int) (ea_v (e_b2 op_pSub (e_var 0) (E.toK (e_con fun _ _ => Den.int))) ea_nil))) rfl rfl rfl)))) (t_or (t_not (t_tru (E.toK (e_runV pok_whole (ea_v (e_var 3) (ea_v (e_con fun _ _ => Den.int) (ea_v (e_b2 op_pSub (e_var 0) (E.toK (e_con fun _ _ => Den.int))) ea_nil))) rfl rfl rfl)))) (t_not (t_tru (E.toK (e_runV pok_whole (ea_v (e_var 4) (ea_v (e_con fun _ _ => Den.int) (ea_v (e_con fun _ _ => Den.int) ea_nil))) rfl rfl rfl)))))) (s_seq (s_ret (e_con fun _ _ => Den.bl))
    s_nil) s_nil)
    (s_seq (s_ret (e_or (e_b2 op_pNe (e_var 2) (e_pk 3)) (e_b2 op_pNe (e_var 4) (E.toK (e_con fun _ _ => Den.int)))))
    s_nil)))))
def p_first_bad_move : PS := tSeq (tPar [2, 3] [true, false] (qCons (qNewT) (qCons (qCon .non) (qNil)))) (tSeq (tFor (qEnum (qVar 1)) (.tp ((.nm 4) :: (.nm 5) :: [])) (tSeq (tIf (qOrB (qNotB (qTru (qRun (.v (qVar 0) :: .v (qVar 5) :: []) P_is_move))) (qAndB (qAsB (qB2 pNotN (qVar 3) (qCon .non))) (qAsB (qB2 pLe (qVar 5) (qPk 3))))) (tSeq (tRet (qVar 4)) (tNil)) (tNil)) (tSeq (tIf (qAndB (qAsB (qB2 pEq (qB2 pIx (qVar 5) (qCon (.int 2))) (qCon (.int 0)))) (qAsB (qB2 pIn (qTup (qCons (qB2 pIx (qVar 5) (qCon (.int 1))) (qCons (qB2 pIx (qVar 5) (qCon (.int 0))) (qCons (qCon (.int 0)) (qNil))))) (qPk 2)))) (tSeq (tRet (qVar 4)) (tNil)) (tNil)) (tSeq (tSt 2 pSet (qVar 5) (qCon (.bl true))) (tSeq (tAsg (qVar 5) 3) (tNil)))))) (tSeq (tRet (qCon .non)) (tNil)))
def P_first_bad_move : PFn := pRunOf [.v, .v] false 6 p_first_bad_move
theorem pok_first_bad_move : SR [.v, .v] false R_first_bad_move P_first_bad_move := sr_of (f := f_first_bad_move) (p := p_first_bad_move) [.v, .v] 6 (by
    unfold f_first_bad_move p_first_bad_move
    exact (s_seq (s_par2 2 3 (em_f e_newT (em_v (e_con fun _ _ => Den.non) em_nil)))
    (s_seq (s_for (w_enum (e_var 1)) (s_seq (s_if (t_or (t_not (t_tru (E.toK (e_runV pok_is_move (ea_v (e_var 0) (ea_v (e_var 5) ea_nil)) rfl rfl rfl)))) (t_and (t_asB (e_b2 op_pNotN (e_var 3) (E.toK (e_con fun _ _ => Den.non)))) (t_asB (e_b2 op_pLe (e_var 5) (e_pk 3))))) (s_seq (s_ret (e_var 4))
    s_nil) s_nil)
    (s_seq (s_if (t_and (t_asB (e_b2 op_pEq (e_b2 op_pIx (e_var 5) (E.toK (e_con fun _ _ => Den.int))) (E.toK (e_con fun _ _ => Den.int)))) (t_asB (e_b2 op_pIn (e_tup (el_cons (e_b2 op_pIx (e_var 5) (E.toK (e_con fun _ _ => Den.int))) (el_cons (e_b2 op_pIx (e_var 5) (E.toK (e_con fun _ _ => Den.int))) (el_cons (e_con fun _ _ => Den.int) el_nil)))) (e_pk 2)))) (s_seq (s_ret (e_var 4))
    s_nil) s_nil)
    (s_seq (s_st 2 st_set (e_var 5) (e_con fun _ _ => Den.bl))
    (s_seq (s_asg 3 (e_var 5))
    s_nil)))))
    (s_seq (s_ret (e_con fun _ _ => Den.non))
    s_nil))))
def p_longest_time : PS := tSeq (tRet (qU pMaxD (qLc (qSeq (qVar 0)) (.tp ((.nm 1) :: (.nm 2) :: (.nm 3) :: [])) (qYes) (qVar 3) [1, 2, 3]))) (tNil)
def P_longest_time : PFn := pRunOf [.v] false 4 p_longest_time
theorem pok_longest_time : SR [.v] false R_longest_time P_longest_time := sr_of (f := f_longest_time) (p := p_longest_time) [.v] 4 (by
    unfold f_longest_time p_longest_time
    exact (s_seq (s_ret (e_maxD (E.toK (e_lc (by decide) (w_seq (e_var 0)) t_yes (e_var 3)))))
    s_nil))
def p_is_period : PS := tSeq (tRet (qAnd (qRun (.v (qVar 1) :: .v (qCon (.int 0)) :: .v (qCon (.int (48))) :: []) P_whole) (qOr (qB2 pEq (qVar 1) (qCon (.int 0))) (qB2 pGt (qVar 1) (qB2 pMul (qCon (.int 2)) (qRun (.v (qVar 0) :: []) P_longest_time)))))) (tNil)
def P_is_period : PFn := pRunOf [.v, .v] false 2 p_is_period
theorem pok_is_period : SR [.v, .v] false R_is_period P_is_period := sr_of (f := f_is_period) (p := p_is_period) [.v, .v] 2 (by
    unfold f_is_period p_is_period
    exact (s_seq (s_ret (e_and (e_runV pok_whole (ea_v (e_var 1) (ea_v (e_con fun _ _ => Den.int) (ea_v (e_con fun _ _ => Den.int) ea_nil))) rfl rfl rfl) (e_or (e_b2 op_pEq (e_var 1) (E.toK (e_con fun _ _ => Den.int))) (e_b2 op_pGt (e_var 1) (E.toK (e_b2 op_pMul (e_con fun _ _ => Den.int) (E.toK (e_runV pok_longest_time (ea_v (e_var 0) ea_nil) rfl rfl rfl))))))))
    s_nil))
def p_form_of : PS := tSeq (tIf (qOrB (qNotB (qTru (qIsT "tuple" (qPk 0)))) (qAsB (qB2 pNe (qU pLen (qPk 0)) (qCon (.int 3))))) (tSeq (tRet (qTup (qCons (qCon (.str "BadNet")) (qCons (qU pNeg (qCon (.int 1))) (qNil))))) (tNil)) (tNil)) (tSeq (tAsgT (qVar 0) (.tp ((.nm 1) :: (.nm 2) :: (.nm 3) :: []))) (tSeq (tIf (qNotB (qTru (qRun (.v (qVar 1) :: .v (qCon (.int 0)) :: .v (qCon (.int (30))) :: []) P_whole))) (tSeq (tRet (qTup (qCons (qCon (.str "BadNet")) (qCons (qCon (.int 0)) (qNil))))) (tNil)) (tNil)) (tSeq (tIf (qNotB (qTru (qIsT "tuple" (qPk 2)))) (tSeq (tRet (qTup (qCons (qCon (.str "BadNet")) (qCons (qCon (.int 1)) (qNil))))) (tNil)) (tNil)) (tSeq (tIf (qAsB (qB2 pGt (qU pLen (qPk 2)) (qCon (.int (60))))) (tSeq (tRet (qTup (qCons (qCon (.str "TooMany")) (qCons (qU pLen (qPk 2)) (qNil))))) (tNil)) (tNil)) (tSeq (tAsg (qRun (.v (qVar 1) :: .v (qVar 2) :: []) P_first_bad_move) 4) (tSeq (tIf (qAsB (qB2 pNotN (qVar 4) (qCon .non))) (tSeq (tRet (qTup (qCons (qCon (.str "BadNet")) (qCons (qTup (qCons (qCon (.int 1)) (qCons (qVar 4) (qNil)))) (qNil))))) (tNil)) (tNil)) (tSeq (tRet (qIf (qTru (qRun (.v (qVar 2) :: .v (qVar 3) :: []) P_is_period)) (qCon .non) (qTup (qCons (qCon (.str "BadNet")) (qCons (qCon (.int 2)) (qNil)))))) (tNil))))))))
def P_form_of : PFn := pRunOf [.v] false 5 p_form_of
theorem pok_form_of : SR [.v] false R_form_of P_form_of := sr_of (f := f_form_of) (p := p_form_of) [.v] 5 (by
    unfold f_form_of p_form_of
    exact (s_seq (s_if (t_or (t_not (t_tru (E.toK (e_isT "tuple" (e_pk 0))))) (t_asB (e_b2 op_pNe (e_c1 c_len (e_pk 0)) (E.toK (e_con fun _ _ => Den.int))))) (s_seq (s_ret (e_tup (el_cons (e_con fun _ _ => Den.str) (el_cons (e_u op_pNeg (E.toK (e_con fun _ _ => Den.int))) el_nil))))
    s_nil) s_nil)
    (s_seq (s_asgT (.tp ((.nm 1) :: (.nm 2) :: (.nm 3) :: [])) (e_var 0))
    (s_seq (s_if (t_not (t_tru (E.toK (e_runV pok_whole (ea_v (e_var 1) (ea_v (e_con fun _ _ => Den.int) (ea_v (e_con fun _ _ => Den.int) ea_nil))) rfl rfl rfl)))) (s_seq (s_ret (e_tup (el_cons (e_con fun _ _ => Den.str) (el_cons (e_con fun _ _ => Den.int) el_nil))))
    s_nil) s_nil)
    (s_seq (s_if (t_not (t_tru (E.toK (e_isT "tuple" (e_pk 2))))) (s_seq (s_ret (e_tup (el_cons (e_con fun _ _ => Den.str) (el_cons (e_con fun _ _ => Den.int) el_nil))))
    s_nil) s_nil)
    (s_seq (s_if (t_asB (e_b2 op_pGt (e_c1 c_len (e_pk 2)) (E.toK (e_con fun _ _ => Den.int)))) (s_seq (s_ret (e_tup (el_cons (e_con fun _ _ => Den.str) (el_cons (e_c1 c_len (e_pk 2)) el_nil))))
    s_nil) s_nil)
    (s_seq (s_asg 4 (e_runV pok_first_bad_move (ea_v (e_var 1) (ea_v (e_var 2) ea_nil)) rfl rfl rfl))
    (s_seq (s_if (t_asB (e_b2 op_pNotN (e_var 4) (E.toK (e_con fun _ _ => Den.non)))) (s_seq (s_ret (e_tup (el_cons (e_con fun _ _ => Den.str) (el_cons (e_tup (el_cons (e_con fun _ _ => Den.int) (el_cons (e_var 4) el_nil))) el_nil))))
    s_nil) s_nil)
    (s_seq (s_ret (e_if (t_tru (E.toK (e_runV pok_is_period (ea_v (e_var 2) (ea_v (e_var 3) ea_nil)) rfl rfl rfl))) (e_con fun _ _ => Den.non) (e_tup (el_cons (e_con fun _ _ => Den.str) (el_cons (e_con fun _ _ => Den.int) el_nil)))))
    s_nil)))))))))
def p_made_net : PS := tSeq (tAsg (qRun (.v (qVar 0) :: []) P_form_of) 1) (tSeq (tIf (qAsB (qB2 pNotN (qVar 1) (qCon .non))) (tSeq (tIf (qAsB (qB2 pEq (qB2 pIx (qVar 1) (qCon (.int 0))) (qCon (.str "TooMany")))) (tSeq (tRaise 2 (qB2 pIx (qVar 1) (qCon (.int 1)))) (tNil)) (tNil)) (tSeq (tRaise 1 (qB2 pIx (qVar 1) (qCon (.int 1)))) (tNil))) (tNil)) (tSeq (tRet (qVar 0)) (tNil)))
def P_made_net : PFn := pRunOf [.v] false 2 p_made_net
theorem pok_made_net : SR [.v] false R_made_net P_made_net := sr_of (f := f_made_net) (p := p_made_net) [.v] 2 (by
    unfold f_made_net p_made_net
    exact (s_seq (s_asg 1 (e_runV pok_form_of (ea_v (e_var 0) ea_nil) rfl rfl rfl))
    (s_seq (s_if (t_asB (e_b2 op_pNotN (e_var 1) (E.toK (e_con fun _ _ => Den.non)))) (s_seq (s_if (t_asB (e_b2 op_pEq (e_b2 op_pIx (e_var 1) (E.toK (e_con fun _ _ => Den.int))) (E.toK (e_con fun _ _ => Den.str)))) (s_seq (s_raise 2 (e_b2 op_pIx (e_var 1) (E.toK (e_con fun _ _ => Den.int))))
    s_nil) s_nil)
    (s_seq (s_raise 1 (e_b2 op_pIx (e_var 1) (E.toK (e_con fun _ _ => Den.int))))
    s_nil)) s_nil)
    (s_seq (s_ret (e_var 0))
    s_nil))))
def p_is_net : PS := tSeq (tRet (qB2 pIsN (qRun (.v (qVar 0) :: []) P_form_of) (qCon .non))) (tNil)
def P_is_net : PFn := pRunOf [.v] false 1 p_is_net
theorem pok_is_net : SR [.v] false R_is_net P_is_net := sr_of (f := f_is_net) (p := p_is_net) [.v] 1 (by
    unfold f_is_net p_is_net
    exact (s_seq (s_ret (e_b2 op_pIsN (e_runV pok_form_of (ea_v (e_var 0) ea_nil) rfl rfl rfl) (E.toK (e_con fun _ _ => Den.non))))
    s_nil))
def p__law_take : PS := tSeq (tIf (qAsB (qB2 pGt (qB2s 0 pIx (qCon (.int 0))) (qCon (.int 0)))) (tSeq (tAsg (qB2 pMod (qU pInt (qB2s 0 pIx (qCon (.int 0)))) (qPk 1)) 2) (tSeq (tSt 0 pSet (qCon (.int 0)) (qB2 pDiv (qB2s 0 pIx (qCon (.int 0))) (qPk 1))) (tSeq (tRet (qVar 2)) (tNil)))) (tNil)) (tSeq (tSt 0 pSet (qCon (.int 2)) (qB2 pAdd (qB2s 0 pIx (qCon (.int 2))) (qCon (.int 1)))) (tSeq (tSt 0 pSet (qCon (.int 1)) (qB2 pMod (qU pInt (qB2 pAdd (qB2 pAdd (qB2 pMul (qB2s 0 pIx (qCon (.int 1))) (qCon (.int 39373))) (qB2 pMul (qCon (.int 7919)) (qB2s 0 pIx (qCon (.int 2))))) (qCon (.int 7)))) (qCon (.int 2147483647)))) (tSeq (tRet (qB2 pMod (qU pInt (qB2 pDiv (qB2 pMod (qU pInt (qB2 pMul (qB2s 0 pIx (qCon (.int 1))) (qB2s 0 pIx (qCon (.int 1))))) (qCon (.int 2147483629))) (qCon (.int 32)))) (qPk 1))) (tNil))))
def P__law_take : PFn := pRunOf [.m, .v] false 3 p__law_take
theorem pok__law_take : SR [.m, .v] false R__law_take P__law_take := sr_of (f := f__law_take) (p := p__law_take) [.m, .v] 3 (by
    unfold f__law_take p__law_take
    exact (s_seq (s_if (t_asB (e_b2 op_pGt (e_b2s 0 op_pIx (E.toK (e_con fun _ _ => Den.int))) (E.toK (e_con fun _ _ => Den.int)))) (s_seq (s_asg 2 (e_b2 op_pMod (e_c1 c_int (E.toK (e_b2s 0 op_pIx (E.toK (e_con fun _ _ => Den.int))))) (e_pk 1)))
    (s_seq (s_st 0 st_set (e_con fun _ _ => Den.int) (e_b2 op_pDiv (e_b2s 0 op_pIx (E.toK (e_con fun _ _ => Den.int))) (e_pk 1)))
    (s_seq (s_ret (e_var 2))
    s_nil))) s_nil)
    (s_seq (s_st 0 st_set (e_con fun _ _ => Den.int) (e_b2 op_pAdd (e_b2s 0 op_pIx (E.toK (e_con fun _ _ => Den.int))) (E.toK (e_con fun _ _ => Den.int))))
    (s_seq (s_st 0 st_set (e_con fun _ _ => Den.int) (e_b2 op_pMod (e_c1 c_int (E.toK (e_b2 op_pAdd (e_b2 op_pAdd (e_b2 op_pMul (e_b2s 0 op_pIx (E.toK (e_con fun _ _ => Den.int))) (E.toK (e_con fun _ _ => Den.int))) (E.toK (e_b2 op_pMul (e_con fun _ _ => Den.int) (E.toK (e_b2s 0 op_pIx (E.toK (e_con fun _ _ => Den.int))))))) (E.toK (e_con fun _ _ => Den.int))))) (E.toK (e_con fun _ _ => Den.int))))
    (s_seq (s_ret (e_b2 op_pMod (e_c1 c_int (E.toK (e_b2 op_pDiv (e_b2 op_pMod (e_c1 c_int (E.toK (e_b2 op_pMul (e_b2s 0 op_pIx (E.toK (e_con fun _ _ => Den.int))) (E.toK (e_b2s 0 op_pIx (E.toK (e_con fun _ _ => Den.int))))))) (E.toK (e_con fun _ _ => Den.int))) (E.toK (e_con fun _ _ => Den.int))))) (e_pk 1)))
    s_nil)))))
def p__law_one : PS := tSeq (tRet (qB2 pIx (qVar 1) (qRun (.m 0 :: .v (qU pLen (qPk 1)) :: []) P__law_take))) (tNil)
def P__law_one : PFn := pRunOf [.m, .v] false 2 p__law_one
theorem pok__law_one : SR [.m, .v] false R__law_one P__law_one := sr_of (f := f__law_one) (p := p__law_one) [.m, .v] 2 (by
    unfold f__law_one p__law_one
    exact (s_seq (s_ret (e_b2 op_pIx (e_var 1) (E.toK (e_runV pok__law_take (ea_m 0 (ea_v (e_c1 c_len (e_pk 1)) ea_nil)) rfl rfl rfl))))
    s_nil))
def p__law_xp_is_whole : PS := tSeq (tRet (qAnd (qIsT "int" (qPk 0)) (qNot (qIsT "bool" (qPk 0))))) (tNil)
def P__law_xp_is_whole : PFn := pRunOf [.v] false 1 p__law_xp_is_whole
theorem pok__law_xp_is_whole : SR [.v] false R__law_xp_is_whole P__law_xp_is_whole := sr_of (f := f__law_xp_is_whole) (p := p__law_xp_is_whole) [.v] 1 (by
    unfold f__law_xp_is_whole p__law_xp_is_whole
    exact (s_seq (s_ret (e_and (e_isT "int" (e_pk 0)) (e_not (E.toK (e_isT "bool" (e_pk 0))))))
    s_nil))
def p__law_xp_is_in : PS := tSeq (tRet (qAnd (qRun (.v (qVar 0) :: []) P__law_xp_is_whole) (qChain pLe pLe (qVar 1) (qVar 0) (qPk 2)))) (tNil)
def P__law_xp_is_in : PFn := pRunOf [.v, .v, .v] false 3 p__law_xp_is_in
theorem pok__law_xp_is_in : SR [.v, .v, .v] false R__law_xp_is_in P__law_xp_is_in := sr_of (f := f__law_xp_is_in) (p := p__law_xp_is_in) [.v, .v, .v] 3 (by
    unfold f__law_xp_is_in p__law_xp_is_in
    exact (s_seq (s_ret (e_and (e_runV pok__law_xp_is_whole (ea_v (e_var 0) ea_nil) rfl rfl rfl) (e_chain op_pLe op_pLe (e_var 1) (e_var 0) (e_pk 2))))
    s_nil))
def p__law_xp_same : PS := tSeq (tAsgF (qLst (qCons (qTup (qCons (qVar 0) (qCons (qVar 1) (qNil)))) (qNil))) 2) (tSeq (tWhile FUEL (qAsB (qB2s 2 pNe (qLst (qNil)))) (tSeq (tAsgT (qMut0 2 "list" pPop) (.tp ((.nm 3) :: (.nm 4) :: []))) (tSeq (tIf (qAsB (qB2 pIsN (qVar 4) (qCon .non))) (tSeq (tAsg (qB2 pIsN (qVar 3) (qCon .non)) 5) (tNil)) (tSeq (tIf (qTru (qIsT "bool" (qPk 4))) (tSeq (tAsg (qAnd (qIsT "bool" (qPk 3)) (qB2 pEq (qVar 3) (qPk 4))) 5) (tNil)) (tSeq (tIf (qTru (qIsT "int" (qPk 4))) (tSeq (tAsg (qAnd (qRun (.v (qVar 3) :: []) P__law_xp_is_whole) (qB2 pEq (qVar 3) (qPk 4))) 5) (tNil)) (tSeq (tIf (qTru (qIsT "str" (qPk 4))) (tSeq (tAsg (qAnd (qIsT "str" (qPk 3)) (qB2 pEq (qVar 3) (qPk 4))) 5) (tNil)) (tSeq (tAsg (qIf (qTru (qIsT "tuple" (qPk 4))) (qIsT "tuple" (qPk 3)) (qIsT "list" (qPk 3))) 5) (tSeq (tAsg (qAnd (qVar 5) (qB2 pEq (qU pLen (qPk 3)) (qU pLen (qPk 4)))) 5) (tSeq (tDrop (qMut 2 "list" pExtend (qIf (qTru (qPk 5)) (qLc (qR1 (qU pLen (qPk 4))) (.nm 6) (qYes) (qTup (qCons (qB2 pIx (qVar 3) (qPk 6)) (qCons (qB2 pIx (qVar 4) (qPk 6)) (qNil)))) [6]) (qLst (qNil))))) (tNil))))) (tNil))) (tNil))) (tNil))) (tSeq (tIf (qNotB (qTru (qPk 5))) (tSeq (tRet (qCon (.bl false))) (tNil)) (tNil)) (tNil))))) (tSeq (tRet (qCon (.bl true))) (tNil)))
def P__law_xp_same : PFn := pRunOf [.v, .v] false 7 p__law_xp_same
theorem pok__law_xp_same : SR [.v, .v] false R__law_xp_same P__law_xp_same := sr_of (f := f__law_xp_same) (p := p__law_xp_same) [.v, .v] 7 (by
    unfold f__law_xp_same p__law_xp_same
    exact (s_seq (s_asgF 2 (e_lst (el_cons (e_tup (el_cons (e_var 0) (el_cons (e_var 1) el_nil))) el_nil)))
    (s_seq (s_while FUEL (t_asB (e_b2s 2 op_pNe (E.toK (e_lst el_nil)))) (s_seq (s_asgT (.tp ((.nm 3) :: (.nm 4) :: [])) (e_mut0 2 m_pop))
    (s_seq (s_if (t_asB (e_b2 op_pIsN (e_var 4) (E.toK (e_con fun _ _ => Den.non)))) (s_seq (s_asg 5 (e_b2 op_pIsN (e_var 3) (E.toK (e_con fun _ _ => Den.non))))
    s_nil) (s_seq (s_if (t_tru (E.toK (e_isT "bool" (e_pk 4)))) (s_seq (s_asg 5 (e_and (e_isT "bool" (e_pk 3)) (e_b2 op_pEq (e_var 3) (e_pk 4))))
    s_nil) (s_seq (s_if (t_tru (E.toK (e_isT "int" (e_pk 4)))) (s_seq (s_asg 5 (e_and (e_runV pok__law_xp_is_whole (ea_v (e_var 3) ea_nil) rfl rfl rfl) (e_b2 op_pEq (e_var 3) (e_pk 4))))
    s_nil) (s_seq (s_if (t_tru (E.toK (e_isT "str" (e_pk 4)))) (s_seq (s_asg 5 (e_and (e_isT "str" (e_pk 3)) (e_b2 op_pEq (e_var 3) (e_pk 4))))
    s_nil) (s_seq (s_asg 5 (e_if (t_tru (E.toK (e_isT "tuple" (e_pk 4)))) (e_isT "tuple" (e_pk 3)) (e_isT "list" (e_pk 3))))
    (s_seq (s_asg 5 (e_and (e_var 5) (e_b2 op_pEq (e_c1 c_len (e_pk 3)) (E.toK (e_c1 c_len (e_pk 4))))))
    (s_seq (s_drop (E.toK (e_mut (md := .k) nofun 2 m_extend (E.toK (e_if (t_tru (e_pk 5)) (e_lc (by decide) (w_r1 (e_c1 c_len (e_pk 4))) t_yes (e_tup (el_cons (e_b2 op_pIx (e_var 3) (e_pk 6)) (el_cons (e_b2 op_pIx (e_var 4) (e_pk 6)) el_nil)))) (e_lst el_nil))))))
    s_nil))))
    s_nil))
    s_nil))
    s_nil))
    (s_seq (s_if (t_not (t_tru (e_pk 5))) (s_seq (s_ret (e_con fun _ _ => Den.bl))
    s_nil) s_nil)
    s_nil))))
    (s_seq (s_ret (e_con fun _ _ => Den.bl))
    s_nil))))
def p__law_xp_is_move : PS := tSeq (tIf (qOrB (qNotB (qTru (qIsT "tuple" (qPk 1)))) (qAsB (qB2 pNe (qU pLen (qPk 1)) (qCon (.int 3))))) (tSeq (tRet (qCon (.bl false))) (tNil)) (tNil)) (tSeq (tIf (qOrB (qNotB (qTru (qRun (.v (qB2 pIx (qVar 1) (qCon (.int 0))) :: .v (qCon (.int 0)) :: .v (qB2 pSub (qVar 0) (qCon (.int 1))) :: []) P__law_xp_is_in))) (qNotB (qTru (qRun (.v (qB2 pIx (qVar 1) (qCon (.int 1))) :: .v (qCon (.int 0)) :: .v (qB2 pSub (qVar 0) (qCon (.int 1))) :: []) P__law_xp_is_in)))) (tSeq (tRet (qCon (.bl false))) (tNil)) (tNil)) (tSeq (tRet (qAnd (qRun (.v (qB2 pIx (qVar 1) (qCon (.int 2))) :: .v (qCon (.int 0)) :: .v (qCon (.int 20)) :: []) P__law_xp_is_in) (qOr (qB2 pNe (qB2 pIx (qVar 1) (qCon (.int 0))) (qB2 pIx (qVar 1) (qCon (.int 1)))) (qB2 pGt (qB2 pIx (qVar 1) (qCon (.int 2))) (qCon (.int 0)))))) (tNil)))
def P__law_xp_is_move : PFn := pRunOf [.v, .v] false 2 p__law_xp_is_move
theorem pok__law_xp_is_move : SR [.v, .v] false R__law_xp_is_move P__law_xp_is_move := sr_of (f := f__law_xp_is_move) (p := p__law_xp_is_move) [.v, .v] 2 (by
    unfold f__law_xp_is_move p__law_xp_is_move
    exact (s_seq (s_if (t_or (t_not (t_tru (E.toK (e_isT "tuple" (e_pk 1))))) (t_asB (e_b2 op_pNe (e_c1 c_len (e_pk 1)) (E.toK (e_con fun _ _ => Den.int))))) (s_seq (s_ret (e_con fun _ _ => Den.bl))
    s_nil) s_nil)
    (s_seq (s_if (t_or (t_not (t_tru (E.toK (e_runV pok__law_xp_is_in (ea_v (e_b2 op_pIx (e_var 1) (E.toK (e_con fun _ _ => Den.int))) (ea_v (e_con fun _ _ => Den.int) (ea_v (e_b2 op_pSub (e_var 0) (E.toK (e_con fun _ _ => Den.int))) ea_nil))) rfl rfl rfl)))) (t_not (t_tru (E.toK (e_runV pok__law_xp_is_in (ea_v (e_b2 op_pIx (e_var 1) (E.toK (e_con fun _ _ => Den.int))) (ea_v (e_con fun _ _ => Den.int) (ea_v (e_b2 op_pSub (e_var 0) (E.toK (e_con fun _ _ => Den.int))) ea_nil))) rfl rfl rfl))))) (s_seq (s_ret (e_con fun _ _ => Den.bl))
    s_nil) s_nil)
    (s_seq (s_ret (e_and (e_runV pok__law_xp_is_in (ea_v (e_b2 op_pIx (e_var 1) (E.toK (e_con fun _ _ => Den.int))) (ea_v (e_con fun _ _ => Den.int) (ea_v (e_con fun _ _ => Den.int) ea_nil))) rfl rfl rfl) (e_or (e_b2 op_pNe (e_b2 op_pIx (e_var 1) (E.toK (e_con fun _ _ => Den.int))) (E.toK (e_b2 op_pIx (e_var 1) (E.toK (e_con fun _ _ => Den.int))))) (e_b2 op_pGt (e_b2 op_pIx (e_var 1) (E.toK (e_con fun _ _ => Den.int))) (E.toK (e_con fun _ _ => Den.int))))))
    s_nil))))
def p__law_xp_net_fault : PS := tSeq (tIf (qOrB (qNotB (qTru (qIsT "tuple" (qPk 0)))) (qAsB (qB2 pNe (qU pLen (qPk 0)) (qCon (.int 3))))) (tSeq (tRet (qTup (qCons (qCon (.str "BadNet")) (qCons (qU pNeg (qCon (.int 1))) (qNil))))) (tNil)) (tNil)) (tSeq (tAsgT (qVar 0) (.tp ((.nm 1) :: (.nm 2) :: (.nm 3) :: []))) (tSeq (tIf (qNotB (qTru (qRun (.v (qVar 1) :: .v (qCon (.int 0)) :: .v (qCon (.int 30)) :: []) P__law_xp_is_in))) (tSeq (tRet (qTup (qCons (qCon (.str "BadNet")) (qCons (qCon (.int 0)) (qNil))))) (tNil)) (tNil)) (tSeq (tIf (qNotB (qTru (qIsT "tuple" (qPk 2)))) (tSeq (tRet (qTup (qCons (qCon (.str "BadNet")) (qCons (qCon (.int 1)) (qNil))))) (tNil)) (tNil)) (tSeq (tIf (qAsB (qB2 pGt (qU pLen (qPk 2)) (qCon (.int 60)))) (tSeq (tRet (qTup (qCons (qCon (.str "TooMany")) (qCons (qU pLen (qPk 2)) (qNil))))) (tNil)) (tNil)) (tSeq (tFor (qR1 (qU pLen (qPk 2))) (.nm 4) (tSeq (tAsg (qB2 pIx (qVar 2) (qPk 4)) 5) (tSeq (tIf (qOrB (qNotB (qTru (qRun (.v (qVar 1) :: .v (qVar 5) :: []) P__law_xp_is_move))) (qAndB (qAsB (qB2 pGt (qVar 4) (qCon (.int 0)))) (qAsB (qB2 pLe (qVar 5) (qB2 pIx (qVar 2) (qB2 pSub (qVar 4) (qCon (.int 1)))))))) (tSeq (tRet (qTup (qCons (qCon (.str "BadNet")) (qCons (qTup (qCons (qCon (.int 1)) (qCons (qVar 4) (qNil)))) (qNil))))) (tNil)) (tNil)) (tSeq (tIf (qAndB (qAsB (qB2 pEq (qB2 pIx (qVar 5) (qCon (.int 2))) (qCon (.int 0)))) (qAsB (qB2 pIn (qTup (qCons (qB2 pIx (qVar 5) (qCon (.int 1))) (qCons (qB2 pIx (qVar 5) (qCon (.int 0))) (qCons (qCon (.int 0)) (qNil))))) (qSl pSlT (qVar 2) (qNo) (qSo (qVar 4)))))) (tSeq (tRet (qTup (qCons (qCon (.str "BadNet")) (qCons (qTup (qCons (qCon (.int 1)) (qCons (qVar 4) (qNil)))) (qNil))))) (tNil)) (tNil)) (tNil))))) (tSeq (tAsg (qU pMax1 (qB2 pAddL (qLst (qCons (qCon (.int 0)) (qNil))) (qLc (qSeq (qVar 2)) (.nm 5) (qYes) (qB2 pIx (qVar 5) (qCon (.int 2))) [5]))) 6) (tSeq (tIf (qOrB (qNotB (qTru (qRun (.v (qVar 3) :: .v (qCon (.int 0)) :: .v (qCon (.int 48)) :: []) P__law_xp_is_in))) (qAsB (qChain pLt pLe (qCon (.int 0)) (qVar 3) (qB2 pMul (qCon (.int 2)) (qPk 6))))) (tSeq (tRet (qTup (qCons (qCon (.str "BadNet")) (qCons (qCon (.int 2)) (qNil))))) (tNil)) (tNil)) (tSeq (tRet (qCon .non)) (tNil)))))))))
def P__law_xp_net_fault : PFn := pRunOf [.v] false 7 p__law_xp_net_fault
theorem pok__law_xp_net_fault : SR [.v] false R__law_xp_net_fault P__law_xp_net_fault := sr_of (f := f__law_xp_net_fault) (p := p__law_xp_net_fault) [.v] 7 (by
    unfold f__law_xp_net_fault p__law_xp_net_fault
    exact (s_seq (s_if (t_or (t_not (t_tru (E.toK (e_isT "tuple" (e_pk 0))))) (t_asB (e_b2 op_pNe (e_c1 c_len (e_pk 0)) (E.toK (e_con fun _ _ => Den.int))))) (s_seq (s_ret (e_tup (el_cons (e_con fun _ _ => Den.str) (el_cons (e_u op_pNeg (E.toK (e_con fun _ _ => Den.int))) el_nil))))
    s_nil) s_nil)
    (s_seq (s_asgT (.tp ((.nm 1) :: (.nm 2) :: (.nm 3) :: [])) (e_var 0))
    (s_seq (s_if (t_not (t_tru (E.toK (e_runV pok__law_xp_is_in (ea_v (e_var 1) (ea_v (e_con fun _ _ => Den.int) (ea_v (e_con fun _ _ => Den.int) ea_nil))) rfl rfl rfl)))) (s_seq (s_ret (e_tup (el_cons (e_con fun _ _ => Den.str) (el_cons (e_con fun _ _ => Den.int) el_nil))))
    s_nil) s_nil)
    (s_seq (s_if (t_not (t_tru (E.toK (e_isT "tuple" (e_pk 2))))) (s_seq (s_ret (e_tup (el_cons (e_con fun _ _ => Den.str) (el_cons (e_con fun _ _ => Den.int) el_nil))))
    s_nil) s_nil)
    (s_seq (s_if (t_asB (e_b2 op_pGt (e_c1 c_len (e_pk 2)) (E.toK (e_con fun _ _ => Den.int)))) (s_seq (s_ret (e_tup (el_cons (e_con fun _ _ => Den.str) (el_cons (e_c1 c_len (e_pk 2)) el_nil))))
    s_nil) s_nil)
    (s_seq (s_for (w_r1 (e_c1 c_len (e_pk 2))) (s_seq (s_asg 5 (e_b2 op_pIx (e_var 2) (e_pk 4)))
    (s_seq (s_if (t_or (t_not (t_tru (E.toK (e_runV pok__law_xp_is_move (ea_v (e_var 1) (ea_v (e_var 5) ea_nil)) rfl rfl rfl)))) (t_and (t_asB (e_b2 op_pGt (e_var 4) (E.toK (e_con fun _ _ => Den.int)))) (t_asB (e_b2 op_pLe (e_var 5) (E.toK (e_b2 op_pIx (e_var 2) (E.toK (e_b2 op_pSub (e_var 4) (E.toK (e_con fun _ _ => Den.int)))))))))) (s_seq (s_ret (e_tup (el_cons (e_con fun _ _ => Den.str) (el_cons (e_tup (el_cons (e_con fun _ _ => Den.int) (el_cons (e_var 4) el_nil))) el_nil))))
    s_nil) s_nil)
    (s_seq (s_if (t_and (t_asB (e_b2 op_pEq (e_b2 op_pIx (e_var 5) (E.toK (e_con fun _ _ => Den.int))) (E.toK (e_con fun _ _ => Den.int)))) (t_asB (e_b2 op_pIn (e_tup (el_cons (e_b2 op_pIx (e_var 5) (E.toK (e_con fun _ _ => Den.int))) (el_cons (e_b2 op_pIx (e_var 5) (E.toK (e_con fun _ _ => Den.int))) (el_cons (e_con fun _ _ => Den.int) el_nil)))) (E.toK (e_slT (e_var 2) o_no (o_so (e_var 4))))))) (s_seq (s_ret (e_tup (el_cons (e_con fun _ _ => Den.str) (el_cons (e_tup (el_cons (e_con fun _ _ => Den.int) (el_cons (e_var 4) el_nil))) el_nil))))
    s_nil) s_nil)
    s_nil))))
    (s_seq (s_asg 6 (e_c1 c_max1 (E.toK (e_b2F op_pAddL (E.toV (e_lst (el_cons (e_con fun _ _ => Den.int) el_nil))) (E.toK (e_lc (by decide) (w_seq (e_var 2)) t_yes (e_b2 op_pIx (e_var 5) (E.toK (e_con fun _ _ => Den.int)))))))))
    (s_seq (s_if (t_or (t_not (t_tru (E.toK (e_runV pok__law_xp_is_in (ea_v (e_var 3) (ea_v (e_con fun _ _ => Den.int) (ea_v (e_con fun _ _ => Den.int) ea_nil))) rfl rfl rfl)))) (t_asB (e_chain op_pLt op_pLe (e_con fun _ _ => Den.int) (e_var 3) (E.toK (e_b2 op_pMul (e_con fun _ _ => Den.int) (e_pk 6)))))) (s_seq (s_ret (e_tup (el_cons (e_con fun _ _ => Den.str) (el_cons (e_con fun _ _ => Den.int) el_nil))))
    s_nil) s_nil)
    (s_seq (s_ret (e_con fun _ _ => Den.non))
    s_nil))))))))))
def p__law_xp_net : PS := tSeq (tPar [1, 2] [false, true] (qCons (qRun (.m 0 :: .v (qLst (qCons (qCon (.int 0)) (qCons (qCon (.int 1)) (qCons (qCon (.int 1)) (qCons (qCon (.int 2)) (qCons (qCon (.int 2)) (qCons (qCon (.int 3)) (qCons (qCon (.int 3)) (qCons (qCon (.int 4)) (qCons (qCon (.int 4)) (qCons (qCon (.int 5)) (qCons (qCon (.int 6)) (qCons (qCon (.int 30)) (qNil)))))))))))))) :: []) P__law_one) (qCons (qNewT) (qNil)))) (tSeq (tFor (qR1 (qIf (qAsB (qB2 pGt (qVar 1) (qCon (.int 0)))) (qRun (.m 0 :: .v (qLst (qCons (qCon (.int 0)) (qCons (qCon (.int 1)) (qCons (qCon (.int 2)) (qCons (qCon (.int 3)) (qCons (qCon (.int 4)) (qCons (qCon (.int 5)) (qCons (qCon (.int 6)) (qCons (qCon (.int 8)) (qCons (qCon (.int 60)) (qNil))))))))))) :: []) P__law_one) (qCon (.int 0)))) (.nm 3) (tSeq (tPar [4, 5, 6] [false, false, false] (qCons (qRun (.m 0 :: .v (qVar 1) :: []) P__law_take) (qCons (qRun (.m 0 :: .v (qVar 1) :: []) P__law_take) (qCons (qRun (.m 0 :: .v (qLst (qCons (qCon (.int 0)) (qCons (qCon (.int 0)) (qCons (qCon (.int 1)) (qCons (qCon (.int 1)) (qCons (qCon (.int 2)) (qCons (qCon (.int 3)) (qCons (qRun (.m 0 :: .v (qCon (.int 21)) :: []) P__law_take) (qNil))))))))) :: []) P__law_one) (qNil))))) (tSeq (tIf (qAndB (qOrB (qAsB (qB2 pNe (qVar 4) (qPk 5))) (qAsB (qB2 pGt (qVar 6) (qCon (.int 0))))) (qOrB (qAsB (qB2 pGt (qVar 6) (qCon (.int 0)))) (qAsB (qB2 pNotIn (qTup (qCons (qVar 5) (qCons (qVar 4) (qCons (qCon (.int 0)) (qNil))))) (qPk 2))))) (tSeq (tSt 2 pSet (qTup (qCons (qVar 4) (qCons (qVar 5) (qCons (qVar 6) (qNil))))) (qCon (.bl true))) (tNil)) (tNil)) (tNil)))) (tSeq (tAsg (qU pTup (qU pSorted (qPk 2))) 7) (tSeq (tAsg (qB2 pAdd (qB2 pMul (qCon (.int 2)) (qU pMax1 (qB2 pAddL (qLst (qCons (qCon (.int 0)) (qNil))) (qLc (qSeq (qVar 7)) (.tp ((.nm 4) :: (.nm 5) :: (.nm 6) :: [])) (qYes) (qVar 6) [4, 5, 6])))) (qCon (.int 1))) 8) (tSeq (tRet (qTup (qCons (qVar 1) (qCons (qVar 7) (qCons (qRun (.m 0 :: .v (qLst (qCons (qCon (.int 0)) (qCons (qCon (.int 0)) (qCons (qVar 8) (qCons (qB2 pAdd (qVar 8) (qRun (.m 0 :: .v (qB2 pSub (qCon (.int 49)) (qPk 8)) :: []) P__law_take)) (qCons (qCon (.int 48)) (qNil))))))) :: []) P__law_one) (qNil)))))) (tNil)))))
def P__law_xp_net : PFn := pRunOf [.m] false 9 p__law_xp_net
theorem pok__law_xp_net : SR [.m] false R__law_xp_net P__law_xp_net := sr_of (f := f__law_xp_net) (p := p__law_xp_net) [.m] 9 (by
    unfold f__law_xp_net p__law_xp_net
    exact (s_seq (s_par2 1 2 (em_v (e_runV pok__law_one (ea_m 0 (ea_v (E.toV (e_lst (el_cons (e_con fun _ _ => Den.int) (el_cons (e_con fun _ _ => Den.int) (el_cons (e_con fun _ _ => Den.int) (el_cons (e_con fun _ _ => Den.int) (el_cons (e_con fun _ _ => Den.int) (el_cons (e_con fun _ _ => Den.int) (el_cons (e_con fun _ _ => Den.int) (el_cons (e_con fun _ _ => Den.int) (el_cons (e_con fun _ _ => Den.int) (el_cons (e_con fun _ _ => Den.int) (el_cons (e_con fun _ _ => Den.int) (el_cons (e_con fun _ _ => Den.int) el_nil)))))))))))))) ea_nil)) rfl rfl rfl) (em_f e_newT em_nil)))
    (s_seq (s_for (w_r1 (e_if (t_asB (e_b2 op_pGt (e_var 1) (E.toK (e_con fun _ _ => Den.int)))) (e_runV pok__law_one (ea_m 0 (ea_v (E.toV (e_lst (el_cons (e_con fun _ _ => Den.int) (el_cons (e_con fun _ _ => Den.int) (el_cons (e_con fun _ _ => Den.int) (el_cons (e_con fun _ _ => Den.int) (el_cons (e_con fun _ _ => Den.int) (el_cons (e_con fun _ _ => Den.int) (el_cons (e_con fun _ _ => Den.int) (el_cons (e_con fun _ _ => Den.int) (el_cons (e_con fun _ _ => Den.int) el_nil))))))))))) ea_nil)) rfl rfl rfl) (e_con fun _ _ => Den.int))) (s_seq (s_par3 4 5 6 (em_v (e_runV pok__law_take (ea_m 0 (ea_v (e_var 1) ea_nil)) rfl rfl rfl) (em_v (e_runV pok__law_take (ea_m 0 (ea_v (e_var 1) ea_nil)) rfl rfl rfl) (em_v (e_runV pok__law_one (ea_m 0 (ea_v (E.toV (e_lst (el_cons (e_con fun _ _ => Den.int) (el_cons (e_con fun _ _ => Den.int) (el_cons (e_con fun _ _ => Den.int) (el_cons (e_con fun _ _ => Den.int) (el_cons (e_con fun _ _ => Den.int) (el_cons (e_con fun _ _ => Den.int) (el_cons (e_runV pok__law_take (ea_m 0 (ea_v (e_con fun _ _ => Den.int) ea_nil)) rfl rfl rfl) el_nil))))))))) ea_nil)) rfl rfl rfl) em_nil))))
    (s_seq (s_if (t_and (t_or (t_asB (e_b2 op_pNe (e_var 4) (e_pk 5))) (t_asB (e_b2 op_pGt (e_var 6) (E.toK (e_con fun _ _ => Den.int))))) (t_or (t_asB (e_b2 op_pGt (e_var 6) (E.toK (e_con fun _ _ => Den.int)))) (t_asB (e_b2 op_pNotIn (e_tup (el_cons (e_var 5) (el_cons (e_var 4) (el_cons (e_con fun _ _ => Den.int) el_nil)))) (e_pk 2))))) (s_seq (s_st 2 st_set (e_tup (el_cons (e_var 4) (el_cons (e_var 5) (el_cons (e_var 6) el_nil)))) (e_con fun _ _ => Den.bl))
    s_nil) s_nil)
    s_nil)))
    (s_seq (s_asg 7 (e_c1 c_tup (E.toK (e_c1F c_sorted (e_pk 2)))))
    (s_seq (s_asg 8 (e_b2 op_pAdd (e_b2 op_pMul (e_con fun _ _ => Den.int) (E.toK (e_c1 c_max1 (E.toK (e_b2F op_pAddL (E.toV (e_lst (el_cons (e_con fun _ _ => Den.int) el_nil))) (E.toK (e_lc (by decide) (w_seq (e_var 7)) t_yes (e_var 6)))))))) (E.toK (e_con fun _ _ => Den.int))))
    (s_seq (s_ret (e_tup (el_cons (e_var 1) (el_cons (e_var 7) (el_cons (e_runV pok__law_one (ea_m 0 (ea_v (E.toV (e_lst (el_cons (e_con fun _ _ => Den.int) (el_cons (e_con fun _ _ => Den.int) (el_cons (e_var 8) (el_cons (e_b2 op_pAdd (e_var 8) (E.toK (e_runV pok__law_take (ea_m 0 (ea_v (e_b2 op_pSub (e_con fun _ _ => Den.int) (e_pk 8)) ea_nil)) rfl rfl rfl))) (el_cons (e_con fun _ _ => Den.int) el_nil))))))) ea_nil)) rfl rfl rfl) el_nil)))))
    s_nil))))))
def p__law_xp_bent (self_ : PFn) : PS := tSeq (tAsg (qRun (.m 0 :: .v (qLst (qCons (qCon .non) (qCons (qCon (.str "0")) (qCons (qCon (.bl true)) (qCons (qCon (.bl false)) (qCons (qU pNeg (qCon (.int 1))) (qCons (qCon (.int 0)) (qCons (qB2 pPow (qCon (.int 10)) (qCon (.int 25))) (qCons (qTup (qNil)) (qCons (qTup (qCons (qCon (.int 0)) (qNil))) (qCons (qLst (qCons (qCon (.int 0)) (qNil))) (qCons (qCon (.str "net")) (qNil))))))))))))) :: []) P__law_one) 2) (tSeq (tIf (qOrB (qNotB (qTru (qIsT "tuple" (qPk 1)))) (qAsB (qB2 pEq (qVar 1) (qTup (qNil))))) (tSeq (tRet (qVar 2)) (tNil)) (tNil)) (tSeq (tPar [3, 4] [false, false] (qCons (qRun (.m 0 :: .v (qU pLen (qPk 1)) :: []) P__law_take) (qCons (qRun (.m 0 :: .v (qCon (.int 9)) :: []) P__law_take) (qNil)))) (tSeq (tIf (qAsB (qB2 pLt (qVar 4) (qCon (.int 3)))) (tSeq (tRet (qB2 pAdd (qB2 pAdd (qSl pSlT (qVar 1) (qNo) (qSo (qVar 3))) (qTup (qCons (qRun (.m 0 :: .v (qB2 pIx (qVar 1) (qPk 3)) :: []) self_) (qNil)))) (qSl pSlT (qVar 1) (qSo (qB2 pAdd (qVar 3) (qCon (.int 1)))) (qNo)))) (tNil)) (tNil)) (tSeq (tAsgF (qLst (qCons (qB2 pAdd (qB2 pAdd (qSl pSlT (qVar 1) (qNo) (qSo (qVar 3))) (qTup (qCons (qVar 2) (qNil)))) (qSl pSlT (qVar 1) (qSo (qB2 pAdd (qVar 3) (qCon (.int 1)))) (qNo))) (qCons (qB2 pAdd (qSl pSlT (qVar 1) (qNo) (qSo (qVar 3))) (qSl pSlT (qVar 1) (qSo (qB2 pAdd (qVar 3) (qCon (.int 1)))) (qNo))) (qCons (qB2 pAdd (qSl pSlT (qVar 1) (qNo) (qSo (qB2 pAdd (qVar 3) (qCon (.int 1))))) (qSl pSlT (qVar 1) (qSo (qVar 3)) (qNo))) (qNil))))) 5) (tSeq (tDrop (qMut 5 "list" pExtend (qLst (qCons (qB2 pAdd (qSl pSlT (qVar 1) (qNo) (qSo (qVar 3))) (qU pRevT (qSl pSlT (qVar 1) (qSo (qVar 3)) (qNo)))) (qCons (qU pLst (qPk 1)) (qCons (qB2 pAdd (qVar 1) (qTup (qCons (qVar 2) (qNil)))) (qNil))))))) (tSeq (tRet (qB2s 5 pIx (qB2 pSub (qVar 4) (qCon (.int 3))))) (tNil)))))))
def P__law_xp_bent : Nat → PFn
  | 0 => fun _ => .bad
  | n + 1 => pRunOf [.m, .v] false 6 (p__law_xp_bent (P__law_xp_bent n))
theorem pok__law_xp_bent : ∀ n : Nat, SR [.m, .v] false (R__law_xp_bent n) (P__law_xp_bent n)
  | 0 => sr_bad _
  | n + 1 => by
    have self := pok__law_xp_bent n
    refine sr_of (f := f__law_xp_bent (R__law_xp_bent n)) (p := p__law_xp_bent (P__law_xp_bent n)) [.m, .v] 6 ?_
    generalize R__law_xp_bent n = r at self
    generalize P__law_xp_bent n = q at self
    unfold f__law_xp_bent p__law_xp_bent
    exact (s_seq (s_asg 2 (e_runV pok__law_one (ea_m 0 (ea_v (E.toV (e_lst (el_cons (e_con fun _ _ => Den.non) (el_cons (e_con fun _ _ => Den.str) (el_cons (e_con fun _ _ => Den.bl) (el_cons (e_con fun _ _ => Den.bl) (el_cons (e_u op_pNeg (E.toK (e_con fun _ _ => Den.int))) (el_cons (e_con fun _ _ => Den.int) (el_cons (e_b2 op_pPow (e_con fun _ _ => Den.int) (E.toK (e_con fun _ _ => Den.int))) (el_cons (e_tup el_nil) (el_cons (e_tup (el_cons (e_con fun _ _ => Den.int) el_nil)) (el_cons (E.toV (e_lst (el_cons (e_con fun _ _ => Den.int) el_nil))) (el_cons (e_con fun _ _ => Den.str) el_nil))))))))))))) ea_nil)) rfl rfl rfl))
    (s_seq (s_if (t_or (t_not (t_tru (E.toK (e_isT "tuple" (e_pk 1))))) (t_asB (e_b2 op_pEq (e_var 1) (E.toK (e_tup el_nil))))) (s_seq (s_ret (e_var 2))
    s_nil) s_nil)
    (s_seq (s_par2 3 4 (em_v (e_runV pok__law_take (ea_m 0 (ea_v (e_c1 c_len (e_pk 1)) ea_nil)) rfl rfl rfl) (em_v (e_runV pok__law_take (ea_m 0 (ea_v (e_con fun _ _ => Den.int) ea_nil)) rfl rfl rfl) em_nil)))
    (s_seq (s_if (t_asB (e_b2 op_pLt (e_var 4) (E.toK (e_con fun _ _ => Den.int)))) (s_seq (s_ret (e_b2 op_pAdd (e_b2 op_pAdd (e_slT (e_var 1) o_no (o_so (e_var 3))) (E.toK (e_tup (el_cons (e_runV self (ea_m 0 (ea_v (e_b2 op_pIx (e_var 1) (e_pk 3)) ea_nil)) rfl rfl rfl) el_nil)))) (E.toK (e_slT (e_var 1) (o_so (e_b2 op_pAdd (e_var 3) (E.toK (e_con fun _ _ => Den.int)))) o_no))))
    s_nil) s_nil)
    (s_seq (s_asgF 5 (e_lst (el_cons (e_b2 op_pAdd (e_b2 op_pAdd (e_slT (e_var 1) o_no (o_so (e_var 3))) (E.toK (e_tup (el_cons (e_var 2) el_nil)))) (E.toK (e_slT (e_var 1) (o_so (e_b2 op_pAdd (e_var 3) (E.toK (e_con fun _ _ => Den.int)))) o_no))) (el_cons (e_b2 op_pAdd (e_slT (e_var 1) o_no (o_so (e_var 3))) (E.toK (e_slT (e_var 1) (o_so (e_b2 op_pAdd (e_var 3) (E.toK (e_con fun _ _ => Den.int)))) o_no))) (el_cons (e_b2 op_pAdd (e_slT (e_var 1) o_no (o_so (e_b2 op_pAdd (e_var 3) (E.toK (e_con fun _ _ => Den.int))))) (E.toK (e_slT (e_var 1) (o_so (e_var 3)) o_no))) el_nil)))))
    (s_seq (s_drop (E.toK (e_mut (md := .k) nofun 5 m_extend (E.toK (e_lst (el_cons (e_b2 op_pAdd (e_slT (e_var 1) o_no (o_so (e_var 3))) (E.toK (e_revT (E.toK (e_slT (e_var 1) (o_so (e_var 3)) o_no))))) (el_cons (E.toV (e_c1F c_lst (e_pk 1))) (el_cons (e_b2 op_pAdd (e_var 1) (E.toK (e_tup (el_cons (e_var 2) el_nil)))) el_nil))))))))
    (s_seq (s_ret (e_b2s 5 op_pIx (E.toK (e_b2 op_pSub (e_var 4) (E.toK (e_con fun _ _ => Den.int))))))
    s_nil)))))))
def nm__law_n1_heard (c : Nat) : PySem.Str := PySem.Txt.join " " (([(("BadNet" : PySem.Str), kitT 3 c 1), (("TooMany" : PySem.Str), kitT 3 c 2)].filter (·.2)).map (·.1))
theorem heard__law_n1_heard : HeardOk (runL 5 f__law_n1_heard) "told" nm__law_n1_heard := heard_ok (i := 1) (by intro c; rfl) (by decide) fun c w ρ S hl => by
  have e1 := ((s_asg 2 (E.toV (e_lst (el_cons (e_tup (el_cons (e_con fun _ _ => Den.str) (el_cons (e_con fun _ _ => Den.bl) el_nil))) (el_cons (e_tup (el_cons (e_con fun _ _ => Den.str) (el_cons (e_con fun _ _ => Den.bl) el_nil))) el_nil))))) : SS false _ (tAsg (qLst (qCons (qTup (qCons (qCon (.str "BadNet")) (qCons (qCon (.bl (kitT 3 c 1))) (qNil)))) (qCons (qTup (qCons (qCon (.str "TooMany")) (qCons (qCon (.bl (kitT 3 c 2))) (qNil)))) (qNil)))) 2))
  have e2 := ((e_join (e_con fun _ _ => Den.str) (E.toK (e_lcH (by decide) (e_var 2) (t_tru (e_pk 4)) (e_var 3)))) : E .v _ (qJoin (qCon (.str " ")) (qLc (qSeqL (qVar 2)) (.tp ((.nm 3) :: (.nm 4) :: [])) (qTru (qPk 4)) (qVar 3) [3, 4])))
  unfold nm__law_n1_heard
  generalize kitT 3 c 1 = b0 at e1 e2 ⊢
  generalize kitT 3 c 2 = b1 at e1 e2 ⊢
  cases b0 <;> cases b1 <;> exact heard_suite e1 e2 (by rw [hl]; rfl) (by rfl) w
def p__law_n1_put : PS := tSeq (tIf (qOrB (qNotB (qTru (qIsT "tuple" (qPk 1)))) (qOrB (qAsB (qB2 pNe (qU pLen (qPk 1)) (qCon (.int 3)))) (qAsB (qB2 pNe (qLc (qSeq (qVar 1)) (.nm 2) (qNotB (qTru (qRun (.v (qVar 2) :: []) P__law_xp_is_whole))) (qVar 2) [2]) (qLst (qNil)))))) (tSeq (tRet (qB2 pAdd (qVar 0) (qTup (qCons (qVar 1) (qNil))))) (tNil)) (tNil)) (tSeq (tRet (qU pTup (qU pSorted (qB2 pAdd (qVar 0) (qTup (qCons (qVar 1) (qNil))))))) (tNil))
def P__law_n1_put : PFn := pRunOf [.v, .v] false 3 p__law_n1_put
theorem pok__law_n1_put : SR [.v, .v] false R__law_n1_put P__law_n1_put := sr_of (f := f__law_n1_put) (p := p__law_n1_put) [.v, .v] 3 (by
    unfold f__law_n1_put p__law_n1_put
    exact (s_seq (s_if (t_or (t_not (t_tru (E.toK (e_isT "tuple" (e_pk 1))))) (t_or (t_asB (e_b2 op_pNe (e_c1 c_len (e_pk 1)) (E.toK (e_con fun _ _ => Den.int)))) (t_asB (e_b2 op_pNe (E.toV (e_lc (by decide) (w_seq (e_var 1)) (t_not (t_tru (E.toK (e_runV pok__law_xp_is_whole (ea_v (e_var 2) ea_nil) rfl rfl rfl)))) (e_var 2))) (E.toK (e_lst el_nil)))))) (s_seq (s_ret (e_b2 op_pAdd (e_var 0) (E.toK (e_tup (el_cons (e_var 1) el_nil)))))
    s_nil) s_nil)
    (s_seq (s_ret (e_c1 c_tup (E.toK (e_c1F c_sorted (E.toK (e_b2 op_pAdd (e_var 0) (E.toK (e_tup (el_cons (e_var 1) el_nil)))))))))
    s_nil)))
def p__law_n1_things : PS := tSeq (tAsgT (qVar 1) (.tp ((.nm 2) :: (.nm 3) :: (.nm 4) :: []))) (tSeq (tAsg (qU pMax1 (qB2 pAddL (qLst (qCons (qCon (.int 0)) (qNil))) (qLc (qSeq (qVar 3)) (.tp ((.nm 6) :: (.nm 7) :: (.nm 8) :: [])) (qYes) (qVar 8) [6, 7, 8]))) 5) (tSeq (tAsgF (qLst (qCons (qVar 1) (qCons (qTup (qCons (qVar 2) (qCons (qVar 3) (qNil)))) (qCons (qB2 pAdd (qVar 1) (qTup (qCons (qCon (.int 0)) (qNil)))) (qCons (qU pLst (qPk 1)) (qCons (qCon .non) (qCons (qVar 2) (qCons (qTup (qNil)) (qCons (qTup (qCons (qCon (.int 31)) (qCons (qVar 3) (qCons (qCon (.int 0)) (qNil))))) (qCons (qTup (qCons (qU pNeg (qCon (.int 1))) (qCons (qTup (qNil)) (qCons (qCon (.int 0)) (qNil))))) (qCons (qTup (qCons (qCon (.bl true)) (qCons (qTup (qNil)) (qCons (qCon (.int 0)) (qNil))))) (qNil)))))))))))) 9) (tSeq (tDrop (qMut 9 "list" pExtend (qLst (qCons (qTup (qCons (qCon .non) (qCons (qVar 3) (qCons (qVar 4) (qNil))))) (qCons (qTup (qCons (qVar 2) (qCons (qU pLst (qPk 3)) (qCons (qVar 4) (qNil))))) (qCons (qTup (qCons (qVar 2) (qCons (qCon .non) (qCons (qVar 4) (qNil))))) (qCons (qTup (qCons (qVar 2) (qCons (qCon (.int 0)) (qCons (qCon .non) (qNil))))) (qNil)))))))) (tSeq (tDrop (qMut 9 "list" pAppend (qTup (qCons (qCon (.int 31)) (qCons (qCon .non) (qCons (qCon (.int 49)) (qNil))))))) (tSeq (tDrop (qMut 9 "list" pExtend (qLst (qCons (qTup (qCons (qVar 2) (qCons (qU pRevT (qPk 3)) (qCons (qVar 4) (qNil))))) (qCons (qTup (qCons (qVar 2) (qCons (qB2 pMul (qVar 3) (qCon (.int 2))) (qCons (qVar 4) (qNil))))) (qCons (qTup (qCons (qVar 2) (qCons (qB2 pMul (qVar 3) (qCon (.int 61))) (qCons (qCon .non) (qNil))))) (qNil))))))) (tSeq (tDrop (qMut 9 "list" pAppend (qTup (qCons (qCon (.int 30)) (qCons (qVar 3) (qCons (qVar 4) (qNil))))))) (tSeq (tDrop (qMut 9 "list" pExtend (qLst (qCons (qTup (qCons (qVar 2) (qCons (qB2 pMul (qTup (qCons (qCon .non) (qNil))) (qCon (.int 61))) (qCons (qCon (.int 49)) (qNil))))) (qCons (qTup (qCons (qVar 2) (qCons (qB2 pMul (qTup (qCons (qCon .non) (qNil))) (qCon (.int 60))) (qCons (qCon (.int 49)) (qNil))))) (qCons (qTup (qCons (qVar 2) (qCons (qTup (qNil)) (qCons (qVar 4) (qNil))))) (qCons (qTup (qCons (qCon (.int 0)) (qCons (qTup (qNil)) (qCons (qCon (.int 0)) (qNil))))) (qCons (qTup (qCons (qCon (.str "1")) (qCons (qTup (qNil)) (qCons (qCon (.int 0)) (qNil))))) (qNil))))))))) (tSeq (tFor (qSeq (qLst (qCons (qB2 pMul (qCon (.int 2)) (qPk 5)) (qCons (qB2 pAdd (qB2 pMul (qCon (.int 2)) (qPk 5)) (qCon (.int 1))) (qCons (qB2 pSub (qB2 pMul (qCon (.int 2)) (qPk 5)) (qCon (.int 1))) (qCons (qCon (.int 48)) (qCons (qCon (.int 49)) (qCons (qU pNeg (qCon (.int 1))) (qCons (qCon (.int 0)) (qCons (qCon (.int 1)) (qCons (qCon .non) (qCons (qCon (.bl true)) (qCons (qCon (.str "0")) (qCons (qTup (qCons (qCon (.int 0)) (qNil))) (qCons (qB2 pPow (qCon (.int 10)) (qCon (.int 20))) (qNil)))))))))))))))) (.nm 10) (tSeq (tDrop (qMut 9 "list" pAppend (qTup (qCons (qVar 2) (qCons (qVar 3) (qCons (qVar 10) (qNil))))))) (tNil))) (tSeq (tAsgF (qLst (qCons (qTup (qCons (qCon (.int 0)) (qCons (qCon (.int 0)) (qCons (qCon (.int 0)) (qNil))))) (qCons (qTup (qCons (qCon (.int 0)) (qCons (qVar 2) (qCons (qCon (.int 1)) (qNil))))) (qCons (qTup (qCons (qVar 2) (qCons (qCon (.int 0)) (qCons (qCon (.int 1)) (qNil))))) (qCons (qTup (qCons (qU pNeg (qCon (.int 1))) (qCons (qCon (.int 0)) (qCons (qCon (.int 1)) (qNil))))) (qCons (qTup (qCons (qCon (.int 0)) (qCons (qCon (.int 0)) (qCons (qCon (.int 21)) (qNil))))) (qCons (qTup (qCons (qCon (.int 0)) (qCons (qCon (.int 0)) (qCons (qU pNeg (qCon (.int 1))) (qNil))))) (qCons (qTup (qCons (qCon (.int 0)) (qCons (qCon (.int 0)) (qNil)))) (qCons (qTup (qCons (qCon (.int 0)) (qCons (qCon (.int 0)) (qCons (qCon (.int 1)) (qCons (qCon (.int 0)) (qNil)))))) (qCons (qLst (qCons (qCon (.int 0)) (qCons (qCon (.int 0)) (qCons (qCon (.int 1)) (qNil))))) (qNil))))))))))) 11) (tSeq (tDrop (qMut 11 "list" pExtend (qLst (qCons (qCon .non) (qCons (qCon (.int 5)) (qCons (qTup (qNil)) (qNil))))))) (tSeq (tDrop (qMut 11 "list" pExtend (qLst (qCons (qTup (qCons (qCon (.bl false)) (qCons (qCon (.int 0)) (qCons (qCon (.int 1)) (qNil))))) (qCons (qTup (qCons (qCon (.int 0)) (qCons (qCon (.int 0)) (qCons (qCon (.bl true)) (qNil))))) (qCons (qTup (qCons (qCon (.int 0)) (qCons (qCon (.int 0)) (qCons (qCon .non) (qNil))))) (qCons (qTup (qCons (qCon (.str "0")) (qCons (qCon (.int 0)) (qCons (qCon (.int 1)) (qNil))))) (qCons (qTup (qCons (qCon (.int 0)) (qCons (qTup (qCons (qCon (.int 0)) (qNil))) (qCons (qCon (.int 1)) (qNil))))) (qCons (qTup (qCons (qCon (.int 0)) (qCons (qCon (.int 1)) (qCons (qCon (.int 0)) (qNil))))) (qCons (qTup (qCons (qCon (.int 1)) (qCons (qCon (.int 0)) (qCons (qCon (.int 0)) (qNil))))) (qNil))))))))))) (tSeq (tDrop (qMut 11 "list" pAppend (qTup (qCons (qCon (.int 0)) (qCons (qCon (.int 0)) (qCons (qCon (.int 20)) (qNil))))))) (tSeq (tDrop (qMut 11 "list" pExtend (qB2 pAddL (qLc (qSeq (qSl pSlT (qVar 3) (qNo) (qSo (qCon (.int 2))))) (.tp ((.nm 6) :: (.nm 7) :: (.nm 8) :: [])) (qYes) (qTup (qCons (qVar 7) (qCons (qVar 6) (qCons (qCon (.int 0)) (qNil))))) [6, 7, 8]) (qU pLst (qSl pSlT (qVar 3) (qNo) (qSo (qCon (.int 1)))))))) (tSeq (tFor (qSeq (qFrz 11)) (.nm 12) (tSeq (tAsg (qRun (.m 0 :: .v (qB2 pAdd (qU pLen (qPk 3)) (qCon (.int 1))) :: []) P__law_take) 13) (tSeq (tDrop (qMut 9 "list" pAppend (qTup (qCons (qVar 2) (qCons (qB2 pAdd (qB2 pAdd (qSl pSlT (qVar 3) (qNo) (qSo (qVar 13))) (qTup (qCons (qVar 12) (qNil)))) (qSl pSlT (qVar 3) (qSo (qVar 13)) (qNo))) (qCons (qVar 4) (qNil))))))) (tSeq (tDrop (qMut 9 "list" pAppend (qTup (qCons (qVar 2) (qCons (qRun (.v (qVar 3) :: .v (qVar 12) :: []) P__law_n1_put) (qCons (qVar 4) (qNil))))))) (tNil))))) (tSeq (tDrop (qMut 9 "list" pAppend (qTup (qCons (qVar 2) (qCons (qB2 pAdd (qB2 pAdd (qTup (qCons (qCon .non) (qNil))) (qPk 3)) (qTup (qCons (qTup (qCons (qCon (.int 0)) (qCons (qCon (.int 0)) (qCons (qCon (.int 0)) (qNil))))) (qNil)))) (qCons (qCon (.int 49)) (qNil))))))) (tSeq (tRet (qB2 pAddL (qFrz 9) (qLst (qCons (qRun (.m 0 :: .v (qVar 1) :: []) (P__law_xp_bent 8)) (qCons (qRun (.m 0 :: .v (qRun (.m 0 :: .v (qVar 1) :: []) (P__law_xp_bent 8)) :: []) (P__law_xp_bent 8)) (qNil)))))) (tNil)))))))))))))))))
def P__law_n1_things : PFn := pRunOf [.m, .v] true 14 p__law_n1_things
theorem pok__law_n1_things : SR [.m, .v] true R__law_n1_things P__law_n1_things := sr_of (f := f__law_n1_things) (p := p__law_n1_things) [.m, .v] 14 (by
    unfold f__law_n1_things p__law_n1_things
    exact (s_seq (s_asgT (.tp ((.nm 2) :: (.nm 3) :: (.nm 4) :: [])) (e_var 1))
    (s_seq (s_asg 5 (e_c1 c_max1 (E.toK (e_b2F op_pAddL (E.toV (e_lst (el_cons (e_con fun _ _ => Den.int) el_nil))) (E.toK (e_lc (by decide) (w_seq (e_var 3)) t_yes (e_var 8)))))))
    (s_seq (s_asgF 9 (e_lst (el_cons (e_var 1) (el_cons (e_tup (el_cons (e_var 2) (el_cons (e_var 3) el_nil))) (el_cons (e_b2 op_pAdd (e_var 1) (E.toK (e_tup (el_cons (e_con fun _ _ => Den.int) el_nil)))) (el_cons (E.toV (e_c1F c_lst (e_pk 1))) (el_cons (e_con fun _ _ => Den.non) (el_cons (e_var 2) (el_cons (e_tup el_nil) (el_cons (e_tup (el_cons (e_con fun _ _ => Den.int) (el_cons (e_var 3) (el_cons (e_con fun _ _ => Den.int) el_nil)))) (el_cons (e_tup (el_cons (e_u op_pNeg (E.toK (e_con fun _ _ => Den.int))) (el_cons (e_tup el_nil) (el_cons (e_con fun _ _ => Den.int) el_nil)))) (el_cons (e_tup (el_cons (e_con fun _ _ => Den.bl) (el_cons (e_tup el_nil) (el_cons (e_con fun _ _ => Den.int) el_nil)))) el_nil))))))))))))
    (s_seq (s_drop (E.toK (e_mut (md := .k) nofun 9 m_extend (E.toK (e_lst (el_cons (e_tup (el_cons (e_con fun _ _ => Den.non) (el_cons (e_var 3) (el_cons (e_var 4) el_nil)))) (el_cons (e_tup (el_cons (e_var 2) (el_cons (E.toV (e_c1F c_lst (e_pk 3))) (el_cons (e_var 4) el_nil)))) (el_cons (e_tup (el_cons (e_var 2) (el_cons (e_con fun _ _ => Den.non) (el_cons (e_var 4) el_nil)))) (el_cons (e_tup (el_cons (e_var 2) (el_cons (e_con fun _ _ => Den.int) (el_cons (e_con fun _ _ => Den.non) el_nil)))) el_nil)))))))))
    (s_seq (s_drop (E.toK (e_mut (md := .v) nofun 9 m_append (e_tup (el_cons (e_con fun _ _ => Den.int) (el_cons (e_con fun _ _ => Den.non) (el_cons (e_con fun _ _ => Den.int) el_nil)))))))
    (s_seq (s_drop (E.toK (e_mut (md := .k) nofun 9 m_extend (E.toK (e_lst (el_cons (e_tup (el_cons (e_var 2) (el_cons (e_revT (e_pk 3)) (el_cons (e_var 4) el_nil)))) (el_cons (e_tup (el_cons (e_var 2) (el_cons (e_b2 op_pMul (e_var 3) (E.toK (e_con fun _ _ => Den.int))) (el_cons (e_var 4) el_nil)))) (el_cons (e_tup (el_cons (e_var 2) (el_cons (e_b2 op_pMul (e_var 3) (E.toK (e_con fun _ _ => Den.int))) (el_cons (e_con fun _ _ => Den.non) el_nil)))) el_nil))))))))
    (s_seq (s_drop (E.toK (e_mut (md := .v) nofun 9 m_append (e_tup (el_cons (e_con fun _ _ => Den.int) (el_cons (e_var 3) (el_cons (e_var 4) el_nil)))))))
    (s_seq (s_drop (E.toK (e_mut (md := .k) nofun 9 m_extend (E.toK (e_lst (el_cons (e_tup (el_cons (e_var 2) (el_cons (e_b2 op_pMul (e_tup (el_cons (e_con fun _ _ => Den.non) el_nil)) (E.toK (e_con fun _ _ => Den.int))) (el_cons (e_con fun _ _ => Den.int) el_nil)))) (el_cons (e_tup (el_cons (e_var 2) (el_cons (e_b2 op_pMul (e_tup (el_cons (e_con fun _ _ => Den.non) el_nil)) (E.toK (e_con fun _ _ => Den.int))) (el_cons (e_con fun _ _ => Den.int) el_nil)))) (el_cons (e_tup (el_cons (e_var 2) (el_cons (e_tup el_nil) (el_cons (e_var 4) el_nil)))) (el_cons (e_tup (el_cons (e_con fun _ _ => Den.int) (el_cons (e_tup el_nil) (el_cons (e_con fun _ _ => Den.int) el_nil)))) (el_cons (e_tup (el_cons (e_con fun _ _ => Den.str) (el_cons (e_tup el_nil) (el_cons (e_con fun _ _ => Den.int) el_nil)))) el_nil))))))))))
    (s_seq (s_for (w_seq (E.toV (e_lst (el_cons (e_b2 op_pMul (e_con fun _ _ => Den.int) (e_pk 5)) (el_cons (e_b2 op_pAdd (e_b2 op_pMul (e_con fun _ _ => Den.int) (e_pk 5)) (E.toK (e_con fun _ _ => Den.int))) (el_cons (e_b2 op_pSub (e_b2 op_pMul (e_con fun _ _ => Den.int) (e_pk 5)) (E.toK (e_con fun _ _ => Den.int))) (el_cons (e_con fun _ _ => Den.int) (el_cons (e_con fun _ _ => Den.int) (el_cons (e_u op_pNeg (E.toK (e_con fun _ _ => Den.int))) (el_cons (e_con fun _ _ => Den.int) (el_cons (e_con fun _ _ => Den.int) (el_cons (e_con fun _ _ => Den.non) (el_cons (e_con fun _ _ => Den.bl) (el_cons (e_con fun _ _ => Den.str) (el_cons (e_tup (el_cons (e_con fun _ _ => Den.int) el_nil)) (el_cons (e_b2 op_pPow (e_con fun _ _ => Den.int) (E.toK (e_con fun _ _ => Den.int))) el_nil)))))))))))))))) (s_seq (s_drop (E.toK (e_mut (md := .v) nofun 9 m_append (e_tup (el_cons (e_var 2) (el_cons (e_var 3) (el_cons (e_var 10) el_nil)))))))
    s_nil))
    (s_seq (s_asgF 11 (e_lst (el_cons (e_tup (el_cons (e_con fun _ _ => Den.int) (el_cons (e_con fun _ _ => Den.int) (el_cons (e_con fun _ _ => Den.int) el_nil)))) (el_cons (e_tup (el_cons (e_con fun _ _ => Den.int) (el_cons (e_var 2) (el_cons (e_con fun _ _ => Den.int) el_nil)))) (el_cons (e_tup (el_cons (e_var 2) (el_cons (e_con fun _ _ => Den.int) (el_cons (e_con fun _ _ => Den.int) el_nil)))) (el_cons (e_tup (el_cons (e_u op_pNeg (E.toK (e_con fun _ _ => Den.int))) (el_cons (e_con fun _ _ => Den.int) (el_cons (e_con fun _ _ => Den.int) el_nil)))) (el_cons (e_tup (el_cons (e_con fun _ _ => Den.int) (el_cons (e_con fun _ _ => Den.int) (el_cons (e_con fun _ _ => Den.int) el_nil)))) (el_cons (e_tup (el_cons (e_con fun _ _ => Den.int) (el_cons (e_con fun _ _ => Den.int) (el_cons (e_u op_pNeg (E.toK (e_con fun _ _ => Den.int))) el_nil)))) (el_cons (e_tup (el_cons (e_con fun _ _ => Den.int) (el_cons (e_con fun _ _ => Den.int) el_nil))) (el_cons (e_tup (el_cons (e_con fun _ _ => Den.int) (el_cons (e_con fun _ _ => Den.int) (el_cons (e_con fun _ _ => Den.int) (el_cons (e_con fun _ _ => Den.int) el_nil))))) (el_cons (E.toV (e_lst (el_cons (e_con fun _ _ => Den.int) (el_cons (e_con fun _ _ => Den.int) (el_cons (e_con fun _ _ => Den.int) el_nil))))) el_nil)))))))))))
    (s_seq (s_drop (E.toK (e_mut (md := .k) nofun 11 m_extend (E.toK (e_lst (el_cons (e_con fun _ _ => Den.non) (el_cons (e_con fun _ _ => Den.int) (el_cons (e_tup el_nil) el_nil))))))))
    (s_seq (s_drop (E.toK (e_mut (md := .k) nofun 11 m_extend (E.toK (e_lst (el_cons (e_tup (el_cons (e_con fun _ _ => Den.bl) (el_cons (e_con fun _ _ => Den.int) (el_cons (e_con fun _ _ => Den.int) el_nil)))) (el_cons (e_tup (el_cons (e_con fun _ _ => Den.int) (el_cons (e_con fun _ _ => Den.int) (el_cons (e_con fun _ _ => Den.bl) el_nil)))) (el_cons (e_tup (el_cons (e_con fun _ _ => Den.int) (el_cons (e_con fun _ _ => Den.int) (el_cons (e_con fun _ _ => Den.non) el_nil)))) (el_cons (e_tup (el_cons (e_con fun _ _ => Den.str) (el_cons (e_con fun _ _ => Den.int) (el_cons (e_con fun _ _ => Den.int) el_nil)))) (el_cons (e_tup (el_cons (e_con fun _ _ => Den.int) (el_cons (e_tup (el_cons (e_con fun _ _ => Den.int) el_nil)) (el_cons (e_con fun _ _ => Den.int) el_nil)))) (el_cons (e_tup (el_cons (e_con fun _ _ => Den.int) (el_cons (e_con fun _ _ => Den.int) (el_cons (e_con fun _ _ => Den.int) el_nil)))) (el_cons (e_tup (el_cons (e_con fun _ _ => Den.int) (el_cons (e_con fun _ _ => Den.int) (el_cons (e_con fun _ _ => Den.int) el_nil)))) el_nil))))))))))))
    (s_seq (s_drop (E.toK (e_mut (md := .v) nofun 11 m_append (e_tup (el_cons (e_con fun _ _ => Den.int) (el_cons (e_con fun _ _ => Den.int) (el_cons (e_con fun _ _ => Den.int) el_nil)))))))
    (s_seq (s_drop (E.toK (e_mut (md := .k) nofun 11 m_extend (E.toK (e_b2F op_pAddL (E.toV (e_lc (by decide) (w_seq (e_slT (e_var 3) o_no (o_so (e_con fun _ _ => Den.int)))) t_yes (e_tup (el_cons (e_var 7) (el_cons (e_var 6) (el_cons (e_con fun _ _ => Den.int) el_nil)))))) (E.toK (e_c1F c_lst (E.toK (e_slT (e_var 3) o_no (o_so (e_con fun _ _ => Den.int)))))))))))
    (s_seq (s_for (w_seq (e_frz 11)) (s_seq (s_asg 13 (e_runV pok__law_take (ea_m 0 (ea_v (e_b2 op_pAdd (e_c1 c_len (e_pk 3)) (E.toK (e_con fun _ _ => Den.int))) ea_nil)) rfl rfl rfl))
    (s_seq (s_drop (E.toK (e_mut (md := .v) nofun 9 m_append (e_tup (el_cons (e_var 2) (el_cons (e_b2 op_pAdd (e_b2 op_pAdd (e_slT (e_var 3) o_no (o_so (e_var 13))) (E.toK (e_tup (el_cons (e_var 12) el_nil)))) (E.toK (e_slT (e_var 3) (o_so (e_var 13)) o_no))) (el_cons (e_var 4) el_nil)))))))
    (s_seq (s_drop (E.toK (e_mut (md := .v) nofun 9 m_append (e_tup (el_cons (e_var 2) (el_cons (e_runV pok__law_n1_put (ea_v (e_var 3) (ea_v (e_var 12) ea_nil)) rfl rfl rfl) (el_cons (e_var 4) el_nil)))))))
    s_nil))))
    (s_seq (s_drop (E.toK (e_mut (md := .v) nofun 9 m_append (e_tup (el_cons (e_var 2) (el_cons (e_b2 op_pAdd (e_b2 op_pAdd (e_tup (el_cons (e_con fun _ _ => Den.non) el_nil)) (e_pk 3)) (E.toK (e_tup (el_cons (e_tup (el_cons (e_con fun _ _ => Den.int) (el_cons (e_con fun _ _ => Den.int) (el_cons (e_con fun _ _ => Den.int) el_nil)))) el_nil)))) (el_cons (e_con fun _ _ => Den.int) el_nil)))))))
    (s_seq (s_retF (e_b2F op_pAddL (e_frz 9) (E.toK (e_lst (el_cons (e_runV (pok__law_xp_bent 8) (ea_m 0 (ea_v (e_var 1) ea_nil)) rfl rfl rfl) (el_cons (e_runV (pok__law_xp_bent 8) (ea_m 0 (ea_v (e_runV (pok__law_xp_bent 8) (ea_m 0 (ea_v (e_var 1) ea_nil)) rfl rfl rfl) ea_nil)) rfl rfl rfl) el_nil))))))
    s_nil))))))))))))))))))
def p__law_n1_right : PS := tSeq (tAsg (qRun (.v (qVar 0) :: []) P__law_xp_net_fault) 1) (tSeq (tAsg (qHeard "told" nm__law_n1_heard (qRun (.v (qVar 0) :: []) P_made_net)) 2) (tSeq (tIf (qNotB (qTru (qRun (.v (qVar 2) :: .v (qIf (qAsB (qB2 pIsN (qVar 1) (qCon .non))) (qTup (qCons (qCon (.str "told")) (qCons (qVar 0) (qNil)))) (qVar 1)) :: []) P__law_xp_same))) (tSeq (tRet (qCon (.bl false))) (tNil)) (tNil)) (tSeq (tRet (qRun (.v (qHeard "told" nm__law_n1_heard (qRun (.v (qVar 0) :: []) P_is_net)) :: .v (qTup (qCons (qCon (.str "told")) (qCons (qB2 pIsN (qVar 1) (qCon .non)) (qNil)))) :: []) P__law_xp_same)) (tNil))))
def P__law_n1_right : PFn := pRunOf [.v] false 3 p__law_n1_right
theorem pok__law_n1_right : SR [.v] false R__law_n1_right P__law_n1_right := sr_of (f := f__law_n1_right) (p := p__law_n1_right) [.v] 3 (by
    unfold f__law_n1_right p__law_n1_right
    exact (s_seq (s_asg 1 (e_runV pok__law_xp_net_fault (ea_v (e_var 0) ea_nil) rfl rfl rfl))
    (s_seq (s_asg 2 (e_heard heard__law_n1_heard (e_runV pok_made_net (ea_v (e_var 0) ea_nil) rfl rfl rfl)))
    (s_seq (s_if (t_not (t_tru (E.toK (e_runV pok__law_xp_same (ea_v (e_var 2) (ea_v (e_if (t_asB (e_b2 op_pIsN (e_var 1) (E.toK (e_con fun _ _ => Den.non)))) (e_tup (el_cons (e_con fun _ _ => Den.str) (el_cons (e_var 0) el_nil))) (e_var 1)) ea_nil)) rfl rfl rfl)))) (s_seq (s_ret (e_con fun _ _ => Den.bl))
    s_nil) s_nil)
    (s_seq (s_ret (e_runV pok__law_xp_same (ea_v (e_heard heard__law_n1_heard (e_runV pok_is_net (ea_v (e_var 0) ea_nil) rfl rfl rfl)) (ea_v (e_tup (el_cons (e_con fun _ _ => Den.str) (el_cons (e_b2 op_pIsN (e_var 1) (E.toK (e_con fun _ _ => Den.non))) el_nil))) ea_nil)) rfl rfl rfl))
    s_nil)))))
def p__law_n1_hand : PS := tSeq (tAsg (qU pTup (qU pSorted (qLc (qR1 (qCon (.int 60))) (.nm 1) (qYes) (qTup (qCons (qB2 pDiv (qVar 1) (qCon (.int 2))) (qCons (qB2 pMod (qU pInt (qB2 pAdd (qB2 pDiv (qVar 1) (qCon (.int 2))) (qCon (.int 1)))) (qCon (.int 30))) (qCons (qB2 pAdd (qCon (.int 1)) (qB2 pMod (qU pInt (qPk 1)) (qCon (.int 2)))) (qNil))))) [1]))) 0) (tSeq (tAsgF (qLst (qCons (qTup (qCons (qTup (qCons (qCon (.int 30)) (qCons (qVar 0) (qCons (qCon (.int 0)) (qNil))))) (qCons (qCon .non) (qNil)))) (qCons (qTup (qCons (qTup (qCons (qCon (.int 30)) (qCons (qVar 0) (qCons (qCon (.int 5)) (qNil))))) (qCons (qCon .non) (qNil)))) (qCons (qTup (qCons (qTup (qCons (qCon (.int 30)) (qCons (qVar 0) (qCons (qCon (.int 4)) (qNil))))) (qCons (qTup (qCons (qCon (.str "BadNet")) (qCons (qCon (.int 2)) (qNil)))) (qNil)))) (qNil))))) 2) (tSeq (tDrop (qMut 2 "list" pAppend (qTup (qCons (qTup (qCons (qCon (.int 30)) (qCons (qVar 0) (qCons (qCon (.int 49)) (qNil))))) (qCons (qTup (qCons (qCon (.str "BadNet")) (qCons (qCon (.int 2)) (qNil)))) (qNil)))))) (tSeq (tDrop (qMut 2 "list" pExtend (qLst (qCons (qTup (qCons (qTup (qCons (qCon (.int 30)) (qCons (qB2 pAdd (qVar 0) (qSl pSlT (qVar 0) (qNo) (qSo (qCon (.int 1))))) (qCons (qCon (.int 0)) (qNil))))) (qCons (qTup (qCons (qCon (.str "TooMany")) (qCons (qCon (.int 61)) (qNil)))) (qNil)))) (qCons (qTup (qCons (qTup (qCons (qCon (.int 30)) (qCons (qB2 pMul (qTup (qCons (qCon .non) (qNil))) (qCon (.int 61))) (qCons (qCon .non) (qNil))))) (qCons (qTup (qCons (qCon (.str "TooMany")) (qCons (qCon (.int 61)) (qNil)))) (qNil)))) (qNil)))))) (tSeq (tDrop (qMut 2 "list" pExtend (qLst (qCons (qTup (qCons (qTup (qCons (qCon (.int 2)) (qCons (qTup (qCons (qTup (qCons (qCon (.int 0)) (qCons (qCon (.int 1)) (qCons (qCon (.int 0)) (qNil))))) (qCons (qTup (qCons (qCon (.int 1)) (qCons (qCon (.int 0)) (qCons (qCon (.int 0)) (qNil))))) (qNil)))) (qCons (qCon (.int 0)) (qNil))))) (qCons (qTup (qCons (qCon (.str "BadNet")) (qCons (qTup (qCons (qCon (.int 1)) (qCons (qCon (.int 1)) (qNil)))) (qNil)))) (qNil)))) (qCons (qTup (qCons (qTup (qCons (qCon (.int 2)) (qCons (qTup (qCons (qTup (qCons (qCon (.int 0)) (qCons (qCon (.int 1)) (qCons (qCon (.int 0)) (qNil))))) (qCons (qTup (qCons (qCon (.int 1)) (qCons (qCon (.int 0)) (qCons (qCon (.int 1)) (qNil))))) (qNil)))) (qCons (qCon (.int 3)) (qNil))))) (qCons (qCon .non) (qNil)))) (qNil)))))) (tSeq (tDrop (qMut 2 "list" pExtend (qLst (qCons (qTup (qCons (qTup (qCons (qCon (.int 2)) (qCons (qTup (qCons (qTup (qCons (qCon (.int 0)) (qCons (qCon (.int 1)) (qCons (qCon (.int 0)) (qNil))))) (qCons (qTup (qCons (qCon (.int 1)) (qCons (qCon (.int 0)) (qCons (qCon (.int 1)) (qNil))))) (qNil)))) (qCons (qCon (.int 2)) (qNil))))) (qCons (qTup (qCons (qCon (.str "BadNet")) (qCons (qCon (.int 2)) (qNil)))) (qNil)))) (qCons (qTup (qCons (qTup (qCons (qCon (.int 1)) (qCons (qTup (qCons (qTup (qCons (qCon (.int 0)) (qCons (qCon (.int 0)) (qCons (qCon (.int 0)) (qNil))))) (qNil))) (qCons (qCon (.int 0)) (qNil))))) (qCons (qTup (qCons (qCon (.str "BadNet")) (qCons (qTup (qCons (qCon (.int 1)) (qCons (qCon (.int 0)) (qNil)))) (qNil)))) (qNil)))) (qNil)))))) (tSeq (tDrop (qMut 2 "list" pExtend (qLst (qCons (qTup (qCons (qTup (qCons (qCon (.int 1)) (qCons (qTup (qCons (qTup (qCons (qCon (.int 0)) (qCons (qCon (.int 0)) (qCons (qCon (.int 20)) (qNil))))) (qNil))) (qCons (qCon (.int 41)) (qNil))))) (qCons (qCon .non) (qNil)))) (qCons (qTup (qCons (qTup (qCons (qCon (.int 1)) (qCons (qTup (qCons (qTup (qCons (qCon (.int 0)) (qCons (qCon (.int 0)) (qCons (qCon (.int 20)) (qNil))))) (qNil))) (qCons (qCon (.int 40)) (qNil))))) (qCons (qTup (qCons (qCon (.str "BadNet")) (qCons (qCon (.int 2)) (qNil)))) (qNil)))) (qCons (qTup (qCons (qTup (qCons (qCon (.int 0)) (qCons (qTup (qNil)) (qCons (qCon (.int 1)) (qNil))))) (qCons (qCon .non) (qNil)))) (qNil))))))) (tSeq (tDrop (qMut 2 "list" pExtend (qLst (qCons (qTup (qCons (qTup (qCons (qCon (.int 1)) (qCons (qTup (qCons (qTup (qCons (qCon (.int 0)) (qCons (qCon (.int 0)) (qCons (qCon (.int 21)) (qNil))))) (qNil))) (qCons (qCon (.int 0)) (qNil))))) (qCons (qTup (qCons (qCon (.str "BadNet")) (qCons (qTup (qCons (qCon (.int 1)) (qCons (qCon (.int 0)) (qNil)))) (qNil)))) (qNil)))) (qCons (qTup (qCons (qTup (qCons (qCon (.int 0)) (qCons (qTup (qNil)) (qCons (qCon (.int 49)) (qNil))))) (qCons (qTup (qCons (qCon (.str "BadNet")) (qCons (qCon (.int 2)) (qNil)))) (qNil)))) (qCons (qTup (qCons (qTup (qCons (qCon (.int 0)) (qCons (qTup (qNil)) (qCons (qCon (.int 48)) (qNil))))) (qCons (qCon .non) (qNil)))) (qNil))))))) (tSeq (tDrop (qMut 2 "list" pAppend (qTup (qCons (qTup (qCons (qCon (.int 3)) (qCons (qTup (qCons (qTup (qCons (qCon (.int 0)) (qCons (qCon (.int 1)) (qCons (qCon (.int 0)) (qNil))))) (qCons (qTup (qCons (qCon (.int 1)) (qCons (qCon (.int 2)) (qCons (qCon (.int 0)) (qNil))))) (qCons (qTup (qCons (qCon (.int 2)) (qCons (qCon (.int 0)) (qCons (qCon (.int 0)) (qNil))))) (qNil))))) (qCons (qCon (.int 1)) (qNil))))) (qCons (qCon .non) (qNil)))))) (tSeq (tDrop (qMut 2 "list" pAppend (qTup (qCons (qTup (qCons (qCon (.int 2)) (qCons (qTup (qCons (qTup (qCons (qCon (.int 1)) (qCons (qCon (.int 0)) (qCons (qCon (.int 0)) (qNil))))) (qCons (qTup (qCons (qCon (.int 0)) (qCons (qCon (.int 1)) (qCons (qCon (.int 0)) (qNil))))) (qNil)))) (qCons (qCon (.int 9)) (qNil))))) (qCons (qTup (qCons (qCon (.str "BadNet")) (qCons (qTup (qCons (qCon (.int 1)) (qCons (qCon (.int 1)) (qNil)))) (qNil)))) (qNil)))))) (tSeq (tRetO 2) (tNil)))))))))))
def P__law_n1_hand : PFn := pRunOf [] true 3 p__law_n1_hand
theorem pok__law_n1_hand : SR [] true R__law_n1_hand P__law_n1_hand := sr_of (f := f__law_n1_hand) (p := p__law_n1_hand) [] 3 (by
    unfold f__law_n1_hand p__law_n1_hand
    exact (s_seq (s_asg 0 (e_c1 c_tup (E.toK (e_c1F c_sorted (E.toK (e_lc (by decide) (w_r1 (e_con fun _ _ => Den.int)) t_yes (e_tup (el_cons (e_b2 op_pDiv (e_var 1) (E.toK (e_con fun _ _ => Den.int))) (el_cons (e_b2 op_pMod (e_c1 c_int (E.toK (e_b2 op_pAdd (e_b2 op_pDiv (e_var 1) (E.toK (e_con fun _ _ => Den.int))) (E.toK (e_con fun _ _ => Den.int))))) (E.toK (e_con fun _ _ => Den.int))) (el_cons (e_b2 op_pAdd (e_con fun _ _ => Den.int) (E.toK (e_b2 op_pMod (e_c1 c_int (e_pk 1)) (E.toK (e_con fun _ _ => Den.int))))) el_nil))))))))))
    (s_seq (s_asgF 2 (e_lst (el_cons (e_tup (el_cons (e_tup (el_cons (e_con fun _ _ => Den.int) (el_cons (e_var 0) (el_cons (e_con fun _ _ => Den.int) el_nil)))) (el_cons (e_con fun _ _ => Den.non) el_nil))) (el_cons (e_tup (el_cons (e_tup (el_cons (e_con fun _ _ => Den.int) (el_cons (e_var 0) (el_cons (e_con fun _ _ => Den.int) el_nil)))) (el_cons (e_con fun _ _ => Den.non) el_nil))) (el_cons (e_tup (el_cons (e_tup (el_cons (e_con fun _ _ => Den.int) (el_cons (e_var 0) (el_cons (e_con fun _ _ => Den.int) el_nil)))) (el_cons (e_tup (el_cons (e_con fun _ _ => Den.str) (el_cons (e_con fun _ _ => Den.int) el_nil))) el_nil))) el_nil)))))
    (s_seq (s_drop (E.toK (e_mut (md := .v) nofun 2 m_append (e_tup (el_cons (e_tup (el_cons (e_con fun _ _ => Den.int) (el_cons (e_var 0) (el_cons (e_con fun _ _ => Den.int) el_nil)))) (el_cons (e_tup (el_cons (e_con fun _ _ => Den.str) (el_cons (e_con fun _ _ => Den.int) el_nil))) el_nil))))))
    (s_seq (s_drop (E.toK (e_mut (md := .k) nofun 2 m_extend (E.toK (e_lst (el_cons (e_tup (el_cons (e_tup (el_cons (e_con fun _ _ => Den.int) (el_cons (e_b2 op_pAdd (e_var 0) (E.toK (e_slT (e_var 0) o_no (o_so (e_con fun _ _ => Den.int))))) (el_cons (e_con fun _ _ => Den.int) el_nil)))) (el_cons (e_tup (el_cons (e_con fun _ _ => Den.str) (el_cons (e_con fun _ _ => Den.int) el_nil))) el_nil))) (el_cons (e_tup (el_cons (e_tup (el_cons (e_con fun _ _ => Den.int) (el_cons (e_b2 op_pMul (e_tup (el_cons (e_con fun _ _ => Den.non) el_nil)) (E.toK (e_con fun _ _ => Den.int))) (el_cons (e_con fun _ _ => Den.non) el_nil)))) (el_cons (e_tup (el_cons (e_con fun _ _ => Den.str) (el_cons (e_con fun _ _ => Den.int) el_nil))) el_nil))) el_nil)))))))
    (s_seq (s_drop (E.toK (e_mut (md := .k) nofun 2 m_extend (E.toK (e_lst (el_cons (e_tup (el_cons (e_tup (el_cons (e_con fun _ _ => Den.int) (el_cons (e_tup (el_cons (e_tup (el_cons (e_con fun _ _ => Den.int) (el_cons (e_con fun _ _ => Den.int) (el_cons (e_con fun _ _ => Den.int) el_nil)))) (el_cons (e_tup (el_cons (e_con fun _ _ => Den.int) (el_cons (e_con fun _ _ => Den.int) (el_cons (e_con fun _ _ => Den.int) el_nil)))) el_nil))) (el_cons (e_con fun _ _ => Den.int) el_nil)))) (el_cons (e_tup (el_cons (e_con fun _ _ => Den.str) (el_cons (e_tup (el_cons (e_con fun _ _ => Den.int) (el_cons (e_con fun _ _ => Den.int) el_nil))) el_nil))) el_nil))) (el_cons (e_tup (el_cons (e_tup (el_cons (e_con fun _ _ => Den.int) (el_cons (e_tup (el_cons (e_tup (el_cons (e_con fun _ _ => Den.int) (el_cons (e_con fun _ _ => Den.int) (el_cons (e_con fun _ _ => Den.int) el_nil)))) (el_cons (e_tup (el_cons (e_con fun _ _ => Den.int) (el_cons (e_con fun _ _ => Den.int) (el_cons (e_con fun _ _ => Den.int) el_nil)))) el_nil))) (el_cons (e_con fun _ _ => Den.int) el_nil)))) (el_cons (e_con fun _ _ => Den.non) el_nil))) el_nil)))))))
    (s_seq (s_drop (E.toK (e_mut (md := .k) nofun 2 m_extend (E.toK (e_lst (el_cons (e_tup (el_cons (e_tup (el_cons (e_con fun _ _ => Den.int) (el_cons (e_tup (el_cons (e_tup (el_cons (e_con fun _ _ => Den.int) (el_cons (e_con fun _ _ => Den.int) (el_cons (e_con fun _ _ => Den.int) el_nil)))) (el_cons (e_tup (el_cons (e_con fun _ _ => Den.int) (el_cons (e_con fun _ _ => Den.int) (el_cons (e_con fun _ _ => Den.int) el_nil)))) el_nil))) (el_cons (e_con fun _ _ => Den.int) el_nil)))) (el_cons (e_tup (el_cons (e_con fun _ _ => Den.str) (el_cons (e_con fun _ _ => Den.int) el_nil))) el_nil))) (el_cons (e_tup (el_cons (e_tup (el_cons (e_con fun _ _ => Den.int) (el_cons (e_tup (el_cons (e_tup (el_cons (e_con fun _ _ => Den.int) (el_cons (e_con fun _ _ => Den.int) (el_cons (e_con fun _ _ => Den.int) el_nil)))) el_nil)) (el_cons (e_con fun _ _ => Den.int) el_nil)))) (el_cons (e_tup (el_cons (e_con fun _ _ => Den.str) (el_cons (e_tup (el_cons (e_con fun _ _ => Den.int) (el_cons (e_con fun _ _ => Den.int) el_nil))) el_nil))) el_nil))) el_nil)))))))
    (s_seq (s_drop (E.toK (e_mut (md := .k) nofun 2 m_extend (E.toK (e_lst (el_cons (e_tup (el_cons (e_tup (el_cons (e_con fun _ _ => Den.int) (el_cons (e_tup (el_cons (e_tup (el_cons (e_con fun _ _ => Den.int) (el_cons (e_con fun _ _ => Den.int) (el_cons (e_con fun _ _ => Den.int) el_nil)))) el_nil)) (el_cons (e_con fun _ _ => Den.int) el_nil)))) (el_cons (e_con fun _ _ => Den.non) el_nil))) (el_cons (e_tup (el_cons (e_tup (el_cons (e_con fun _ _ => Den.int) (el_cons (e_tup (el_cons (e_tup (el_cons (e_con fun _ _ => Den.int) (el_cons (e_con fun _ _ => Den.int) (el_cons (e_con fun _ _ => Den.int) el_nil)))) el_nil)) (el_cons (e_con fun _ _ => Den.int) el_nil)))) (el_cons (e_tup (el_cons (e_con fun _ _ => Den.str) (el_cons (e_con fun _ _ => Den.int) el_nil))) el_nil))) (el_cons (e_tup (el_cons (e_tup (el_cons (e_con fun _ _ => Den.int) (el_cons (e_tup el_nil) (el_cons (e_con fun _ _ => Den.int) el_nil)))) (el_cons (e_con fun _ _ => Den.non) el_nil))) el_nil))))))))
    (s_seq (s_drop (E.toK (e_mut (md := .k) nofun 2 m_extend (E.toK (e_lst (el_cons (e_tup (el_cons (e_tup (el_cons (e_con fun _ _ => Den.int) (el_cons (e_tup (el_cons (e_tup (el_cons (e_con fun _ _ => Den.int) (el_cons (e_con fun _ _ => Den.int) (el_cons (e_con fun _ _ => Den.int) el_nil)))) el_nil)) (el_cons (e_con fun _ _ => Den.int) el_nil)))) (el_cons (e_tup (el_cons (e_con fun _ _ => Den.str) (el_cons (e_tup (el_cons (e_con fun _ _ => Den.int) (el_cons (e_con fun _ _ => Den.int) el_nil))) el_nil))) el_nil))) (el_cons (e_tup (el_cons (e_tup (el_cons (e_con fun _ _ => Den.int) (el_cons (e_tup el_nil) (el_cons (e_con fun _ _ => Den.int) el_nil)))) (el_cons (e_tup (el_cons (e_con fun _ _ => Den.str) (el_cons (e_con fun _ _ => Den.int) el_nil))) el_nil))) (el_cons (e_tup (el_cons (e_tup (el_cons (e_con fun _ _ => Den.int) (el_cons (e_tup el_nil) (el_cons (e_con fun _ _ => Den.int) el_nil)))) (el_cons (e_con fun _ _ => Den.non) el_nil))) el_nil))))))))
    (s_seq (s_drop (E.toK (e_mut (md := .v) nofun 2 m_append (e_tup (el_cons (e_tup (el_cons (e_con fun _ _ => Den.int) (el_cons (e_tup (el_cons (e_tup (el_cons (e_con fun _ _ => Den.int) (el_cons (e_con fun _ _ => Den.int) (el_cons (e_con fun _ _ => Den.int) el_nil)))) (el_cons (e_tup (el_cons (e_con fun _ _ => Den.int) (el_cons (e_con fun _ _ => Den.int) (el_cons (e_con fun _ _ => Den.int) el_nil)))) (el_cons (e_tup (el_cons (e_con fun _ _ => Den.int) (el_cons (e_con fun _ _ => Den.int) (el_cons (e_con fun _ _ => Den.int) el_nil)))) el_nil)))) (el_cons (e_con fun _ _ => Den.int) el_nil)))) (el_cons (e_con fun _ _ => Den.non) el_nil))))))
    (s_seq (s_drop (E.toK (e_mut (md := .v) nofun 2 m_append (e_tup (el_cons (e_tup (el_cons (e_con fun _ _ => Den.int) (el_cons (e_tup (el_cons (e_tup (el_cons (e_con fun _ _ => Den.int) (el_cons (e_con fun _ _ => Den.int) (el_cons (e_con fun _ _ => Den.int) el_nil)))) (el_cons (e_tup (el_cons (e_con fun _ _ => Den.int) (el_cons (e_con fun _ _ => Den.int) (el_cons (e_con fun _ _ => Den.int) el_nil)))) el_nil))) (el_cons (e_con fun _ _ => Den.int) el_nil)))) (el_cons (e_tup (el_cons (e_con fun _ _ => Den.str) (el_cons (e_tup (el_cons (e_con fun _ _ => Den.int) (el_cons (e_con fun _ _ => Den.int) el_nil))) el_nil))) el_nil))))))
    (s_seq (s_retO 2)
    s_nil))))))))))))
def p_law : PS := tSeq (tFor (qR1 (qCon (.int 5))) (.nm 2) (tSeq (tFor (qSeq (qRun (.m 1 :: .v (qRun (.m 1 :: []) P__law_xp_net) :: []) P__law_n1_things)) (.nm 3) (tSeq (tIf (qNotB (qTru (qRun (.v (qVar 3) :: []) P__law_n1_right))) (tSeq (tRet (qCon (.bl false))) (tNil)) (tNil)) (tNil))) (tNil))) (tSeq (tFor (qSeq (qRun ([]) P__law_n1_hand)) (.tp ((.nm 3) :: (.nm 4) :: [])) (tSeq (tIf (qOrB (qAsB (qB2 pNe (qRun (.v (qVar 3) :: []) P__law_xp_net_fault) (qPk 4))) (qNotB (qTru (qRun (.v (qVar 3) :: []) P__law_n1_right)))) (tSeq (tRet (qCon (.bl false))) (tNil)) (tNil)) (tNil))) (tSeq (tRet (qCon (.bl true))) (tNil)))
theorem pok_law : ∃ g, f_law = sSeq (sAsg (fRun 1 R__law_pool (fCons (fVar 0) fNil)) (gNm 1)) g ∧ SS false g p_law := ⟨_, rfl, by unfold p_law; exact (s_seq (s_for (w_r1 (e_con fun _ _ => Den.int)) (s_seq (s_for (w_seq (E.toV (e_runF pok__law_n1_things (ea_m 1 (ea_v (e_runV pok__law_xp_net (ea_m 1 ea_nil) rfl rfl rfl) ea_nil)) rfl rfl rfl))) (s_seq (s_if (t_not (t_tru (E.toK (e_runV pok__law_n1_right (ea_v (e_var 3) ea_nil) rfl rfl rfl)))) (s_seq (s_ret (e_con fun _ _ => Den.bl))
    s_nil) s_nil)
    s_nil))
    s_nil))
    (s_seq (s_for (w_seq (E.toV (e_runF pok__law_n1_hand ea_nil rfl rfl rfl))) (s_seq (s_if (t_or (t_asB (e_b2 op_pNe (e_runV pok__law_xp_net_fault (ea_v (e_var 3) ea_nil) rfl rfl rfl) (e_pk 4))) (t_not (t_tru (E.toK (e_runV pok__law_n1_right (ea_v (e_var 3) ea_nil) rfl rfl rfl))))) (s_seq (s_ret (e_con fun _ _ => Den.bl))
    s_nil) s_nil)
    s_nil))
    (s_seq (s_ret (e_con fun _ _ => Den.bl))
    s_nil)))⟩
def lawN : Nat := 5
end K01

set_option maxRecDepth 100000
set_option maxHeartbeats 1000000
namespace K01
open G P
open L2 (atI ixN)
abbrev J (d s c : Int) : PV := .lst [.int d, .int s, .int c]
theorem take_big {d s c m : Int} (hd : 0 < d) (hm : 0 < m) (hl : m.natAbs.log2 < 9000) : P__law_take [J d s c, .int m] = .ok (.int (d % m)) [J (d / m) s c] := by
  simp [P__law_take, p__law_take, J, hd, hm, hl, pRunOf, entP, mkSl, outsP, slv, PSl.val, tSeq, tNil, tRet, tRetN, tRetO, tIf, tAsg, tAsgF, tDrop, tAsgT, tgP, tgPs, noMu, tPar, inst, tSt, setM, stv, qVar, qFrz, qPk, qCon, qB2, qB2s, qU, qNil, qCons, qTup, qLst, qCall, qIf, qTru, qNotB, qAndB, qOrB, qAnd, qOr, qNot, qAsB, qChain, qIsT, qSl, qNo, qSo, pOI, qRun, qArgs, mOk, isMs, isM, setOuts, outS, qMut, qMut0, tyP, ptru, ptoB, pTy, isTy, pLen, pInt, pIx, atI, ixN, pAdd, pSub, pI, pDiv, pMod, pNeg, pGt, pGe, pLe, pLt, pIsN, pNotN, pTup, pLst, pSet, pAppend, pExtend, qNewT, qNewK, qYes, ofP, PR.bind, PR.toFl, PFl.seq, PR.ne, tRaise]
def nextS (s c : Int) : Int := (s * 39373 + 7919 * (c + 1) + 7) % 2147483647
theorem take_small {d s c m : Int} (hd : ¬ 0 < d) (hm : 0 < m)
    (h1 : s.natAbs.log2 + Nat.log2 39373 < 1000000) (h2 : Nat.log2 7919 + (c + 1).natAbs.log2 < 1000000) (h3 : (nextS s c).natAbs.log2 + (nextS s c).natAbs.log2 < 1000000) (h4 : Nat.log2 32 < 9000) :
    P__law_take [J d s c, .int m] = .ok (.int (nextS s c * nextS s c % 2147483629 / 32 % m)) [J d (nextS s c) (c + 1)] := by
  unfold nextS at *
  simp [P__law_take, p__law_take, J, hd, hm, h1, h2, h3, h4, pMul, pRunOf, entP, mkSl, outsP, slv, PSl.val, tSeq, tNil, tRet, tRetN, tRetO, tIf, tAsg, tAsgF, tDrop, tAsgT, tgP, tgPs, noMu, tPar, inst, tSt, setM, stv, qVar, qFrz, qPk, qCon, qB2, qB2s, qU, qNil, qCons, qTup, qLst, qCall, qIf, qTru, qNotB, qAndB, qOrB, qAnd, qOr, qNot, qAsB, qChain, qIsT, qSl, qNo, qSo, pOI, qRun, qArgs, mOk, isMs, isM, setOuts, outS, qMut, qMut0, tyP, ptru, ptoB, pTy, isTy, pLen, pInt, pIx, atI, ixN, pAdd, pSub, pI, pDiv, pMod, pNeg, pGt, pGe, pLe, pLt, pIsN, pNotN, pTup, pLst, pSet, pAppend, pExtend, qNewT, qNewK, qYes, ofP, PR.bind, PR.toFl, PFl.seq, PR.ne, tRaise]
def wholeV (v : PV) (lo hi : Int) : Bool := match v with
  | .int i => decide (lo ≤ i) && decide (i ≤ hi)
  | _ => false
def isW : PV → Bool
  | .int _ => true
  | _ => false
theorem whole_p (v : PV) (lo hi : Int) : P_whole [v, .int lo, .int hi] = .ok (.bl (wholeV v lo hi)) [] := by
  cases v <;> simp [P_whole, p_whole, wholeV, pRunOf, entP, mkSl, outsP, slv, PSl.val, tSeq, tNil, tRet, tRetN, tRetO, tIf, tAsg, tAsgF, tDrop, tAsgT, tgP, tgPs, noMu, tPar, inst, tSt, setM, stv, qVar, qFrz, qPk, qCon, qB2, qB2s, qU, qNil, qCons, qTup, qLst, qCall, qIf, qTru, qNotB, qAndB, qOrB, qAnd, qOr, qNot, qAsB, qChain, qIsT, qSl, qNo, qSo, pOI, qRun, qArgs, mOk, isMs, isM, setOuts, outS, qMut, qMut0, tyP, ptru, ptoB, pTy, isTy, pLen, pInt, pIx, atI, ixN, pAdd, pSub, pI, pDiv, pMod, pNeg, pGt, pGe, pLe, pLt, pIsN, pNotN, pTup, pLst, pSet, pAppend, pExtend, qNewT, qNewK, qYes, ofP, PR.bind, PR.toFl, PFl.seq, PR.ne, tRaise]
  rename_i i
  by_cases h : lo ≤ i <;> simp [h]
theorem isw_p (v : PV) : P__law_xp_is_whole [v] = .ok (.bl (isW v)) [] := by
  cases v <;> simp [P__law_xp_is_whole, p__law_xp_is_whole, isW, pRunOf, entP, mkSl, outsP, slv, PSl.val, tSeq, tNil, tRet, tRetN, tRetO, tIf, tAsg, tAsgF, tDrop, tAsgT, tgP, tgPs, noMu, tPar, inst, tSt, setM, stv, qVar, qFrz, qPk, qCon, qB2, qB2s, qU, qNil, qCons, qTup, qLst, qCall, qIf, qTru, qNotB, qAndB, qOrB, qAnd, qOr, qNot, qAsB, qChain, qIsT, qSl, qNo, qSo, pOI, qRun, qArgs, mOk, isMs, isM, setOuts, outS, qMut, qMut0, tyP, ptru, ptoB, pTy, isTy, pLen, pInt, pIx, atI, ixN, pAdd, pSub, pI, pDiv, pMod, pNeg, pGt, pGe, pLe, pLt, pIsN, pNotN, pTup, pLst, pSet, pAppend, pExtend, qNewT, qNewK, qYes, ofP, PR.bind, PR.toFl, PFl.seq, PR.ne, tRaise]
theorem in_p (v : PV) (lo hi : Int) : P__law_xp_is_in [v, .int lo, .int hi] = .ok (.bl (wholeV v lo hi)) [] := by
  cases v <;> simp [P__law_xp_is_in, p__law_xp_is_in, isw_p, isW, wholeV, pRunOf, entP, mkSl, outsP, slv, PSl.val, tSeq, tNil, tRet, tRetN, tRetO, tIf, tAsg, tAsgF, tDrop, tAsgT, tgP, tgPs, noMu, tPar, inst, tSt, setM, stv, qVar, qFrz, qPk, qCon, qB2, qB2s, qU, qNil, qCons, qTup, qLst, qCall, qIf, qTru, qNotB, qAndB, qOrB, qAnd, qOr, qNot, qAsB, qChain, qIsT, qSl, qNo, qSo, pOI, qRun, qArgs, mOk, isMs, isM, setOuts, outS, qMut, qMut0, tyP, ptru, ptoB, pTy, isTy, pLen, pInt, pIx, atI, ixN, pAdd, pSub, pI, pDiv, pMod, pNeg, pGt, pGe, pLe, pLt, pIsN, pNotN, pTup, pLst, pSet, pAppend, pExtend, qNewT, qNewK, qYes, ofP, PR.bind, PR.toFl, PFl.seq, PR.ne, tRaise]
  rename_i i
  by_cases h : lo ≤ i <;> simp [h]
/-! ## same -/
def pairs (xs : List PV) : List PV := xs.map fun x => .tup [x, x]
theorem wtL_len : ∀ xs : List PV, xs.length ≤ wtL xs
  | [] => Nat.le_refl _
  | x :: xs => by have := wt_pos x; have := wtL_len xs; simp [wtL]; omega
theorem wtL_append : ∀ xs ys : List PV, wtL (xs ++ ys) = wtL xs + wtL ys
  | [], ys => by simp [wtL]
  | x :: xs, ys => by simp [wtL, wtL_append xs ys, Nat.add_assoc]
theorem same_inv {h o : PV} {xs : List PV} : True := trivial
def SI (h o : PV) (n : Nat) (π : PEnv) : Prop := ∃ (xs : List PV) (s3 s4 s5 s6 : Option PSl), π = [some (.sh h), some (.sh o), some (.ow (.lst (pairs xs))), s3, s4, s5, s6] ∧ okS s3 = true ∧ okS s4 = true ∧ okS s5 = true ∧ okS s6 = true ∧ (∀ x ∈ xs, Gd 14 x) ∧ wtL xs = n ∧ n ≤ 10000000
theorem gd_pairs {xs : List PV} (h : ∀ x ∈ xs, Gd 14 x) : Gd 16 (.lst (pairs xs)) := by
  intro y hy
  obtain ⟨x, hx, rfl⟩ := List.mem_map.mp hy
  intro z hz
  simp at hz
  subst hz
  exact h z hx
theorem pne_todo {xs : List PV} (h : ∀ x ∈ xs, Gd 14 x) : pNe (.lst (pairs xs)) (.lst []) = some (.bl (!(pairs xs).isEmpty)) := by
  unfold pNe; rw [eqB_nilL (gd_pairs h) (by decide)]; rfl
theorem peq_self {x : PV} (h : Gd 14 x) : pEq x x = some (.bl true) := by unfold pEq; rw [eqB_self h (by decide)]; rfl
theorem pairs_pop {xs : List PV} {x : PV} : pPop (.lst (pairs (xs ++ [x]))) = some (.tup [x, x], .lst (pairs xs)) := by
  simp [pPop, pairs, List.dropLast_append]
theorem atI_nat {xs : List PV} {i : Nat} (h : i < xs.length) : atI xs (i : Int) = some (xs.getD i .non) := by
  unfold atI ixN
  rw [if_pos (by omega), if_pos (by omega)]
  simp [h]
def isSeq (w : PV) (us : List PV) : Prop := w = .tup us ∨ w = .lst us
theorem pIx_nat {w : PV} {us : List PV} {i : Nat} (h : isSeq w us) (hi : i < us.length) : pIx w (.int i) = some (us.getD i .non) := by
  rcases h with rfl | rfl <;> simp only [pIx, atI_nat hi]
theorem lc_pairs {w : PV} {us : List PV} (h : isSeq w us) {a0 a1 a2 a5 : Option PSl} : lcP (.nm 6) qYes (qTup (qCons (qB2 pIx (qVar 3) (qPk 6)) (qCons (qB2 pIx (qVar 4) (qPk 6)) (qNil)))) [6] (rng 0 us.length) [a0, a1, a2, some (.sh w), some (.sh w), a5, none] = .ok (pairs us) [a0, a1, a2, some (.sh w), some (.sh w), a5, none] := by
  have := lcP_map (t := .nm 6) (pt := qYes) (pe := qTup (qCons (qB2 pIx (qVar 3) (qPk 6)) (qCons (qB2 pIx (qVar 4) (qPk 6)) (qNil)))) (own := [6]) (π := [a0, a1, a2, some (.sh w), some (.sh w), a5, none])
    (onInt fun i => .tup [us.getD i.toNat .non, us.getD i.toNat .non]) (rng 0 us.length) (by
      intro x hx
      obtain ⟨i, hi, rfl⟩ := mem_rng hx
      have e := pIx_nat h hi
      exact ⟨[a0, a1, a2, some (.sh w), some (.sh w), a5, some (.sh (.int i))], by simp [pRunOf, entP, mkSl, outsP, slv, PSl.val, tSeq, tNil, tRet, tRetN, tRetO, tIf, tAsg, tAsgF, tDrop, tAsgT, tgP, tgPs, noMu, tPar, inst, tSt, setM, stv, qVar, qFrz, qPk, qCon, qB2, qB2s, qU, qNil, qCons, qTup, qLst, qCall, qIf, qTru, qNotB, qAndB, qOrB, qAnd, qOr, qNot, qAsB, qChain, qIsT, qSl, qNo, qSo, pOI, qRun, qArgs, mOk, isMs, isM, setOuts, outS, qMut, qMut0, tyP, ptru, ptoB, pTy, isTy, pLen, pInt, pIx, atI, ixN, pAdd, pSub, pI, pDiv, pMod, pNeg, pGt, pGe, pLe, pLt, pIsN, pNotN, pTup, pLst, pSet, pAppend, pExtend, qNewT, qNewK, qYes, ofP, PR.bind, PR.toFl, PFl.seq, PR.ne, tRaise], by simp [pRunOf, entP, mkSl, outsP, slv, PSl.val, tSeq, tNil, tRet, tRetN, tRetO, tIf, tAsg, tAsgF, tDrop, tAsgT, tgP, tgPs, noMu, tPar, inst, tSt, setM, stv, qVar, qFrz, qPk, qCon, qB2, qB2s, qU, qNil, qCons, qTup, qLst, qCall, qIf, qTru, qNotB, qAndB, qOrB, qAnd, qOr, qNot, qAsB, qChain, qIsT, qSl, qNo, qSo, pOI, qRun, qArgs, mOk, isMs, isM, setOuts, outS, qMut, qMut0, tyP, ptru, ptoB, pTy, isTy, pLen, pInt, pIx, atI, ixN, pAdd, pSub, pI, pDiv, pMod, pNeg, pGt, pGe, pLe, pLt, pIsN, pNotN, pTup, pLst, pSet, pAppend, pExtend, qNewT, qNewK, qYes, ofP, PR.bind, PR.toFl, PFl.seq, PR.ne, tRaise], by simp [qTup, qCons, qB2, qVar, qPk, qNil, slv, PSl.val, ofP, PR.bind, PySem.sizeLine, e, onInt], by simp [wipeP]⟩)
  rw [this]
  congr 1
  rw [rng_map (g := fun i => .tup [us.getD i .non, us.getD i .non]) (by intro i hi; simp)]
  exact range_get (f := fun x => .tup [x, x])
theorem lc_pairs2 {w : PV} {us : List PV} (h : isSeq w us) (hl : us.length ≤ 10000000) {a0 a1 a2 a5 a6 : Option PSl} (h6 : okS a6 = true) : qLc (qR1 (qU pLen (qPk 4))) (.nm 6) (qYes) (qTup (qCons (qB2 pIx (qVar 3) (qPk 6)) (qCons (qB2 pIx (qVar 4) (qPk 6)) (qNil)))) [6] [a0, a1, a2, some (.sh w), some (.sh w), a5, a6] = .ok (.lst (pairs us)) [a0, a1, a2, some (.sh w), some (.sh w), a5, a6] := by
  have e1 : qR1 (qU pLen (qPk 4)) [a0, a1, a2, some (.sh w), some (.sh w), a5, a6] = .ok (rng 0 us.length) [a0, a1, a2, some (.sh w), some (.sh w), a5, a6] := by
    have := pR1_nat (n := us.length) (by omega)
    rcases h with rfl | rfl <;> simp [qR1, this, pRunOf, entP, mkSl, outsP, slv, PSl.val, tSeq, tNil, tRet, tRetN, tRetO, tIf, tAsg, tAsgF, tDrop, tAsgT, tgP, tgPs, noMu, tPar, inst, tSt, setM, stv, qVar, qFrz, qPk, qCon, qB2, qB2s, qU, qNil, qCons, qTup, qLst, qCall, qIf, qTru, qNotB, qAndB, qOrB, qAnd, qOr, qNot, qAsB, qChain, qIsT, qSl, qNo, qSo, pOI, qRun, qArgs, mOk, isMs, isM, setOuts, outS, qMut, qMut0, tyP, ptru, ptoB, pTy, isTy, pLen, pInt, pIx, atI, ixN, pAdd, pSub, pI, pDiv, pMod, pNeg, pGt, pGe, pLe, pLt, pIsN, pNotN, pTup, pLst, pSet, pAppend, pExtend, qNewT, qNewK, qYes, ofP, PR.bind, PR.toFl, PFl.seq, PR.ne, tRaise]
  unfold qLc
  rw [e1]
  simp only [PR.bind_ok]
  rw [if_pos (by simp [okOwn, h6])]
  have e2 : wipeP [a0, a1, a2, some (.sh w), some (.sh w), a5, a6] [6] = [a0, a1, a2, some (.sh w), some (.sh w), a5, none] := by simp [wipeP]
  rw [e2, lc_pairs h]
  simp only [PR.bind_ok]
  have hz : (pairs us).length ≤ PySem.sizeLine := by simp only [pairs, List.length_map]; exact Nat.le_trans hl (by decide)
  rw [if_pos hz]
  simp [backP]
theorem same_p {v : PV} (h : Gd 12 v) (hw : wt v ≤ 5000000) : P__law_xp_same [v, v] = .ok (.bl true) [] := by
  have key : ∀ fuel π, 10000000 < fuel → SI v v (wt v) π → ∃ π', whileP (qAsB (qB2s 2 pNe (qLst (qNil)))) (tSeq (tAsgT (qMut0 2 "list" pPop) (.tp ((.nm 3) :: (.nm 4) :: []))) (tSeq (tIf (qAsB (qB2 pIsN (qVar 4) (qCon .non))) (tSeq (tAsg (qB2 pIsN (qVar 3) (qCon .non)) 5) (tNil)) (tSeq (tIf (qTru (qIsT "bool" (qPk 4))) (tSeq (tAsg (qAnd (qIsT "bool" (qPk 3)) (qB2 pEq (qVar 3) (qPk 4))) 5) (tNil)) (tSeq (tIf (qTru (qIsT "int" (qPk 4))) (tSeq (tAsg (qAnd (qRun (.v (qVar 3) :: []) P__law_xp_is_whole) (qB2 pEq (qVar 3) (qPk 4))) 5) (tNil)) (tSeq (tIf (qTru (qIsT "str" (qPk 4))) (tSeq (tAsg (qAnd (qIsT "str" (qPk 3)) (qB2 pEq (qVar 3) (qPk 4))) 5) (tNil)) (tSeq (tAsg (qIf (qTru (qIsT "tuple" (qPk 4))) (qIsT "tuple" (qPk 3)) (qIsT "list" (qPk 3))) 5) (tSeq (tAsg (qAnd (qVar 5) (qB2 pEq (qU pLen (qPk 3)) (qU pLen (qPk 4)))) 5) (tSeq (tDrop (qMut 2 "list" pExtend (qIf (qTru (qPk 5)) (qLc (qR1 (qU pLen (qPk 4))) (.nm 6) (qYes) (qTup (qCons (qB2 pIx (qVar 3) (qPk 6)) (qCons (qB2 pIx (qVar 4) (qPk 6)) (qNil)))) [6]) (qLst (qNil))))) (tNil))))) (tNil))) (tNil))) (tNil))) (tSeq (tIf (qNotB (qTru (qPk 5))) (tSeq (tRet (qCon (.bl false))) (tNil)) (tNil)) (tNil)))) fuel π = .nx π' ∧ SI v v 0 π' := by
    intro fuel π hf hi
    refine while_ok (SI v v) ?_ ?_ fuel (wt v) π (by omega) hi
    · rintro π ⟨xs, s3, s4, s5, s6, rfl, h3, h4, h5, h6, hx, hn, _⟩
      have : xs = [] := by
        cases xs with
        | nil => rfl
        | cons x xs => have := wt_pos x; simp [wtL] at hn; omega
      subst this
      have e := pne_todo hx
      simp [pairs] at e
      simp [pairs, e, PySem.sizeLine, pRunOf, entP, mkSl, outsP, slv, PSl.val, tSeq, tNil, tRet, tRetN, tRetO, tIf, tAsg, tAsgF, tDrop, tAsgT, tgP, tgPs, noMu, tPar, inst, tSt, setM, stv, qVar, qFrz, qPk, qCon, qB2, qB2s, qU, qNil, qCons, qTup, qLst, qCall, qIf, qTru, qNotB, qAndB, qOrB, qAnd, qOr, qNot, qAsB, qChain, qIsT, qSl, qNo, qSo, pOI, qRun, qArgs, mOk, isMs, isM, setOuts, outS, qMut, qMut0, tyP, ptru, ptoB, pTy, isTy, pLen, pInt, pIx, atI, ixN, pAdd, pSub, pI, pDiv, pMod, pNeg, pGt, pGe, pLe, pLt, pIsN, pNotN, pTup, pLst, pSet, pAppend, pExtend, qNewT, qNewK, qYes, ofP, PR.bind, PR.toFl, PFl.seq, PR.ne, tRaise]
    · rintro n π ⟨xs, s3, s4, s5, s6, rfl, h3, h4, h5, h6, hx, hn, hb⟩ hz
      have hne : xs ≠ [] := by rintro rfl; exact hz (by simpa [wtL] using hn.symm)
      obtain ⟨ys, y, rfl⟩ : ∃ ys y, xs = ys ++ [y] := ⟨xs.dropLast, xs.getLast hne, (List.dropLast_concat_getLast hne).symm⟩
      have e := pne_todo hx
      have gy : Gd 14 y := hx y (by simp)
      have gys : ∀ x ∈ ys, Gd 14 x := fun x h => hx x (by simp [h])
      have wy : wtL (ys ++ [y]) = wtL ys + wt y := by rw [wtL_append]; simp [wtL]
      refine ⟨?_, ?_⟩
      · have ne : (pairs (ys ++ [y])).isEmpty = false := by simp [pairs]
        rw [ne] at e
        simp [e, PySem.sizeLine, pRunOf, entP, mkSl, outsP, slv, PSl.val, tSeq, tNil, tRet, tRetN, tRetO, tIf, tAsg, tAsgF, tDrop, tAsgT, tgP, tgPs, noMu, tPar, inst, tSt, setM, stv, qVar, qFrz, qPk, qCon, qB2, qB2s, qU, qNil, qCons, qTup, qLst, qCall, qIf, qTru, qNotB, qAndB, qOrB, qAnd, qOr, qNot, qAsB, qChain, qIsT, qSl, qNo, qSo, pOI, qRun, qArgs, mOk, isMs, isM, setOuts, outS, qMut, qMut0, tyP, ptru, ptoB, pTy, isTy, pLen, pInt, pIx, atI, ixN, pAdd, pSub, pI, pDiv, pMod, pNeg, pGt, pGe, pLe, pLt, pIsN, pNotN, pTup, pLst, pSet, pAppend, pExtend, qNewT, qNewK, qYes, ofP, PR.bind, PR.toFl, PFl.seq, PR.ne, tRaise]
      · have hp := pairs_pop (xs := ys) (x := y)
        have n3 := nm_of_ok h3
        have n4 := nm_of_ok h4
        have n5 := nm_of_ok h5
        have n6 := nm_of_ok h6
        have pe := peq_self gy
        have lw := wt_pos y
        have ly := wtL_len ys
        rw [wy] at hn
        have fin : ∀ (zs : List PV) (s6' : Option PSl) (m : Nat), okS s6' = true → (∀ x ∈ zs, Gd 14 x) → wtL zs = m → m < n → SI v v m [some (.sh v), some (.sh v), some (.ow (.lst (pairs zs))), some (.sh y), some (.sh y), some (.sh (.bl true)), s6'] := fun zs s6' m h hz hw lt => ⟨zs, _, _, _, s6', rfl, rfl, rfl, rfl, h, hz, hw, by omega⟩
        cases y with
        | dK _ _ => exact gy.elim
        | dT _ _ => exact gy.elim
        | non => exact ⟨wtL ys, _, by simp [hp, n3, n4, n5, pRunOf, entP, mkSl, outsP, slv, PSl.val, tSeq, tNil, tRet, tRetN, tRetO, tIf, tAsg, tAsgF, tDrop, tAsgT, tgP, tgPs, noMu, tPar, inst, tSt, setM, stv, qVar, qFrz, qPk, qCon, qB2, qB2s, qU, qNil, qCons, qTup, qLst, qCall, qIf, qTru, qNotB, qAndB, qOrB, qAnd, qOr, qNot, qAsB, qChain, qIsT, qSl, qNo, qSo, pOI, qRun, qArgs, mOk, isMs, isM, setOuts, outS, qMut, qMut0, tyP, ptru, ptoB, pTy, isTy, pLen, pInt, pIx, atI, ixN, pAdd, pSub, pI, pDiv, pMod, pNeg, pGt, pGe, pLe, pLt, pIsN, pNotN, pTup, pLst, pSet, pAppend, pExtend, qNewT, qNewK, qYes, ofP, PR.bind, PR.toFl, PFl.seq, PR.ne, tRaise], by omega, fin ys s6 _ h6 gys rfl (by omega)⟩
        | bl b => exact ⟨wtL ys, _, by simp [hp, n3, n4, n5, pe, pRunOf, entP, mkSl, outsP, slv, PSl.val, tSeq, tNil, tRet, tRetN, tRetO, tIf, tAsg, tAsgF, tDrop, tAsgT, tgP, tgPs, noMu, tPar, inst, tSt, setM, stv, qVar, qFrz, qPk, qCon, qB2, qB2s, qU, qNil, qCons, qTup, qLst, qCall, qIf, qTru, qNotB, qAndB, qOrB, qAnd, qOr, qNot, qAsB, qChain, qIsT, qSl, qNo, qSo, pOI, qRun, qArgs, mOk, isMs, isM, setOuts, outS, qMut, qMut0, tyP, ptru, ptoB, pTy, isTy, pLen, pInt, pIx, atI, ixN, pAdd, pSub, pI, pDiv, pMod, pNeg, pGt, pGe, pLe, pLt, pIsN, pNotN, pTup, pLst, pSet, pAppend, pExtend, qNewT, qNewK, qYes, ofP, PR.bind, PR.toFl, PFl.seq, PR.ne, tRaise], by omega, fin ys s6 _ h6 gys rfl (by omega)⟩
        | int b => exact ⟨wtL ys, _, by simp [hp, n3, n4, n5, pe, isw_p, isW, pRunOf, entP, mkSl, outsP, slv, PSl.val, tSeq, tNil, tRet, tRetN, tRetO, tIf, tAsg, tAsgF, tDrop, tAsgT, tgP, tgPs, noMu, tPar, inst, tSt, setM, stv, qVar, qFrz, qPk, qCon, qB2, qB2s, qU, qNil, qCons, qTup, qLst, qCall, qIf, qTru, qNotB, qAndB, qOrB, qAnd, qOr, qNot, qAsB, qChain, qIsT, qSl, qNo, qSo, pOI, qRun, qArgs, mOk, isMs, isM, setOuts, outS, qMut, qMut0, tyP, ptru, ptoB, pTy, isTy, pLen, pInt, pIx, atI, ixN, pAdd, pSub, pI, pDiv, pMod, pNeg, pGt, pGe, pLe, pLt, pIsN, pNotN, pTup, pLst, pSet, pAppend, pExtend, qNewT, qNewK, qYes, ofP, PR.bind, PR.toFl, PFl.seq, PR.ne, tRaise], by omega, fin ys s6 _ h6 gys rfl (by omega)⟩
        | str b => exact ⟨wtL ys, _, by simp [hp, n3, n4, n5, pe, pRunOf, entP, mkSl, outsP, slv, PSl.val, tSeq, tNil, tRet, tRetN, tRetO, tIf, tAsg, tAsgF, tDrop, tAsgT, tgP, tgPs, noMu, tPar, inst, tSt, setM, stv, qVar, qFrz, qPk, qCon, qB2, qB2s, qU, qNil, qCons, qTup, qLst, qCall, qIf, qTru, qNotB, qAndB, qOrB, qAnd, qOr, qNot, qAsB, qChain, qIsT, qSl, qNo, qSo, pOI, qRun, qArgs, mOk, isMs, isM, setOuts, outS, qMut, qMut0, tyP, ptru, ptoB, pTy, isTy, pLen, pInt, pIx, atI, ixN, pAdd, pSub, pI, pDiv, pMod, pNeg, pGt, pGe, pLe, pLt, pIsN, pNotN, pTup, pLst, pSet, pAppend, pExtend, qNewT, qNewK, qYes, ofP, PR.bind, PR.toFl, PFl.seq, PR.ne, tRaise], by omega, fin ys s6 _ h6 gys rfl (by omega)⟩
        | tup us => 
          have gu : ∀ x ∈ us, Gd 13 x := gy
          have hl := wtL_len us
          simp only [wt] at hn
          refine ⟨wtL (ys ++ us), _, ?_, by rw [wtL_append]; omega, fin (ys ++ us) s6 _ h6 (fun x hx => (List.mem_append.mp hx).elim (gys x) fun h => (gu x h).succ) rfl (by rw [wtL_append]; omega)⟩
          have lc := lc_pairs2 (w := .tup us) (us := us) (.inl rfl) (by omega) (a0 := some (.sh v)) (a1 := some (.sh v)) (a2 := some (.ow (.lst (pairs ys)))) (a5 := some (.sh (.bl true))) h6
          have b2 : pExtend (.lst (pairs ys)) (.lst (pairs us)) = some (.non, .lst (pairs (ys ++ us))) := by
            have : (pairs ys).length + (pairs us).length ≤ PySem.sizeLine := by simp only [pairs, List.length_map]; exact Nat.le_trans (show _ ≤ 10000000 by omega) (by decide)
            simp only [pExtend]
            rw [if_pos this]
            simp [pairs]
          simp [hp, n3, n4, n5, pe, pEq_int, lc, b2, pRunOf, entP, mkSl, outsP, slv, PSl.val, tSeq, tNil, tRet, tRetN, tRetO, tIf, tAsg, tAsgF, tDrop, tAsgT, tgP, tgPs, noMu, tPar, inst, tSt, setM, stv, qVar, qFrz, qPk, qCon, qB2, qB2s, qU, qNil, qCons, qTup, qLst, qCall, qIf, qTru, qNotB, qAndB, qOrB, qAnd, qOr, qNot, qAsB, qChain, qIsT, qSl, qNo, qSo, pOI, qRun, qArgs, mOk, isMs, isM, setOuts, outS, qMut, qMut0, tyP, ptru, ptoB, pTy, isTy, pLen, pInt, pIx, atI, ixN, pAdd, pSub, pI, pDiv, pMod, pNeg, pGt, pGe, pLe, pLt, pIsN, pNotN, pTup, pLst, pSet, pAppend, qNewT, qNewK, qYes, ofP, PR.bind, PR.toFl, PFl.seq, PR.ne, tRaise]
        | lst us => 
          have gu : ∀ x ∈ us, Gd 13 x := gy
          have hl := wtL_len us
          simp only [wt] at hn
          refine ⟨wtL (ys ++ us), _, ?_, by rw [wtL_append]; omega, fin (ys ++ us) s6 _ h6 (fun x hx => (List.mem_append.mp hx).elim (gys x) fun h => (gu x h).succ) rfl (by rw [wtL_append]; omega)⟩
          have lc := lc_pairs2 (w := .lst us) (us := us) (.inr rfl) (by omega) (a0 := some (.sh v)) (a1 := some (.sh v)) (a2 := some (.ow (.lst (pairs ys)))) (a5 := some (.sh (.bl true))) h6
          have b2 : pExtend (.lst (pairs ys)) (.lst (pairs us)) = some (.non, .lst (pairs (ys ++ us))) := by
            have : (pairs ys).length + (pairs us).length ≤ PySem.sizeLine := by simp only [pairs, List.length_map]; exact Nat.le_trans (show _ ≤ 10000000 by omega) (by decide)
            simp only [pExtend]
            rw [if_pos this]
            simp [pairs]
          simp [hp, n3, n4, n5, pe, pEq_int, lc, b2, pRunOf, entP, mkSl, outsP, slv, PSl.val, tSeq, tNil, tRet, tRetN, tRetO, tIf, tAsg, tAsgF, tDrop, tAsgT, tgP, tgPs, noMu, tPar, inst, tSt, setM, stv, qVar, qFrz, qPk, qCon, qB2, qB2s, qU, qNil, qCons, qTup, qLst, qCall, qIf, qTru, qNotB, qAndB, qOrB, qAnd, qOr, qNot, qAsB, qChain, qIsT, qSl, qNo, qSo, pOI, qRun, qArgs, mOk, isMs, isM, setOuts, outS, qMut, qMut0, tyP, ptru, ptoB, pTy, isTy, pLen, pInt, pIx, atI, ixN, pAdd, pSub, pI, pDiv, pMod, pNeg, pGt, pGe, pLe, pLt, pIsN, pNotN, pTup, pLst, pSet, pAppend, qNewT, qNewK, qYes, ofP, PR.bind, PR.toFl, PFl.seq, PR.ne, tRaise]
  obtain ⟨π', e, xs, s3, s4, s5, s6, e2, _, _, _, _, _, hn, _⟩ := key FUEL [some (.sh v), some (.sh v), some (.ow (.lst (pairs [v]))), none, none, none, none] (by unfold FUEL; decide) ⟨[v], _, _, _, _, rfl, rfl, rfl, rfl, rfl, by intro x hx; simp at hx; subst hx; exact h.mono (by decide), by simp [wtL], by omega⟩
  subst e2
  unfold P__law_xp_same p__law_xp_same
  generalize FUEL = fu at *
  simp [pairs] at e
  simp [e, tWhile, PySem.sizeLine, pRunOf, entP, mkSl, outsP, slv, PSl.val, tSeq, tNil, tRet, tRetN, tRetO, tIf, tAsg, tAsgF, tDrop, tAsgT, tgP, tgPs, noMu, tPar, inst, tSt, setM, stv, qVar, qFrz, qPk, qCon, qB2, qB2s, qU, qNil, qCons, qTup, qLst, qCall, qIf, qTru, qNotB, qAndB, qOrB, qAnd, qOr, qNot, qAsB, qChain, qIsT, qSl, qNo, qSo, pOI, qRun, qArgs, mOk, isMs, isM, setOuts, outS, qMut, qMut0, tyP, ptru, ptoB, pTy, isTy, pLen, pInt, pIx, atI, ixN, pAdd, pSub, pI, pDiv, pMod, pNeg, pGt, pGe, pLe, pLt, pIsN, pNotN, pTup, pLst, pSet, pAppend, pExtend, qNewT, qNewK, qYes, ofP, PR.bind, PR.toFl, PFl.seq, PR.ne, tRaise]
end K01

set_option maxRecDepth 100000
set_option maxHeartbeats 2000000
namespace K01
open G P
open L2 (atI ixN)
theorem whole_int {v : PV} {lo hi : Int} (h : wholeV v lo hi = true) : ∃ i, v = .int i ∧ lo ≤ i ∧ i ≤ hi := by
  cases v <;> simp [wholeV] at h
  exact ⟨_, rfl, h.1, h.2⟩
def neI : PV → PV → Bool
  | .int i, .int j => !decide (i = j)
  | _, _ => true
def isMoveV (n : Int) (v : PV) : Bool := match v with
  | .tup [a, b, c] => wholeV a 0 (n - 1) && (wholeV b 0 (n - 1) && (wholeV c 0 20 && (neI a b || neI c (.int 0))))
  | _ => false
theorem is_move_p (n : Int) (v : PV) : P_is_move [.int n, v] = .ok (.bl (isMoveV n v)) [] := by
  cases v <;> try (simp [P_is_move, p_is_move, isMoveV, pRunOf, entP, mkSl, outsP, slv, PSl.val, tSeq, tNil, tRet, tRetN, tRetO, tIf, tAsg, tAsgF, tDrop, tAsgT, tgP, tgPs, noMu, tPar, inst, tSt, setM, stv, qVar, qFrz, qPk, qCon, qB2, qB2s, qU, qNil, qCons, qTup, qLst, qCall, qIf, qTru, qNotB, qAndB, qOrB, qAnd, qOr, qNot, qAsB, qChain, qIsT, qSl, qNo, qSo, pOI, qRun, qArgs, mOk, isMs, isM, setOuts, outS, qMut, qMut0, tyP, ptru, ptoB, pTy, isTy, pLen, pInt, pIx, atI, ixN, pAdd, pSub, pI, pDiv, pMod, pNeg, pGt, pGe, pLe, pLt, pIsN, pNotN, pTup, pLst, pSet, pAppend, pExtend, qNewT, qNewK, qYes, ofP, PR.bind, PR.toFl, PFl.seq, PR.ne, tRaise]; done)
  rename_i xs
  match xs with
  | [] => simp [P_is_move, p_is_move, isMoveV, pNe_int, pRunOf, entP, mkSl, outsP, slv, PSl.val, tSeq, tNil, tRet, tRetN, tRetO, tIf, tAsg, tAsgF, tDrop, tAsgT, tgP, tgPs, noMu, tPar, inst, tSt, setM, stv, qVar, qFrz, qPk, qCon, qB2, qB2s, qU, qNil, qCons, qTup, qLst, qCall, qIf, qTru, qNotB, qAndB, qOrB, qAnd, qOr, qNot, qAsB, qChain, qIsT, qSl, qNo, qSo, pOI, qRun, qArgs, mOk, isMs, isM, setOuts, outS, qMut, qMut0, tyP, ptru, ptoB, pTy, isTy, pLen, pInt, pIx, atI, ixN, pAdd, pSub, pI, pDiv, pMod, pNeg, pGt, pGe, pLe, pLt, pIsN, pNotN, pTup, pLst, pSet, pAppend, pExtend, qNewT, qNewK, qYes, ofP, PR.bind, PR.toFl, PFl.seq, PR.ne, tRaise]
  | [_] => simp [P_is_move, p_is_move, isMoveV, pNe_int, pRunOf, entP, mkSl, outsP, slv, PSl.val, tSeq, tNil, tRet, tRetN, tRetO, tIf, tAsg, tAsgF, tDrop, tAsgT, tgP, tgPs, noMu, tPar, inst, tSt, setM, stv, qVar, qFrz, qPk, qCon, qB2, qB2s, qU, qNil, qCons, qTup, qLst, qCall, qIf, qTru, qNotB, qAndB, qOrB, qAnd, qOr, qNot, qAsB, qChain, qIsT, qSl, qNo, qSo, pOI, qRun, qArgs, mOk, isMs, isM, setOuts, outS, qMut, qMut0, tyP, ptru, ptoB, pTy, isTy, pLen, pInt, pIx, atI, ixN, pAdd, pSub, pI, pDiv, pMod, pNeg, pGt, pGe, pLe, pLt, pIsN, pNotN, pTup, pLst, pSet, pAppend, pExtend, qNewT, qNewK, qYes, ofP, PR.bind, PR.toFl, PFl.seq, PR.ne, tRaise]
  | [_, _] => simp [P_is_move, p_is_move, isMoveV, pNe_int, pRunOf, entP, mkSl, outsP, slv, PSl.val, tSeq, tNil, tRet, tRetN, tRetO, tIf, tAsg, tAsgF, tDrop, tAsgT, tgP, tgPs, noMu, tPar, inst, tSt, setM, stv, qVar, qFrz, qPk, qCon, qB2, qB2s, qU, qNil, qCons, qTup, qLst, qCall, qIf, qTru, qNotB, qAndB, qOrB, qAnd, qOr, qNot, qAsB, qChain, qIsT, qSl, qNo, qSo, pOI, qRun, qArgs, mOk, isMs, isM, setOuts, outS, qMut, qMut0, tyP, ptru, ptoB, pTy, isTy, pLen, pInt, pIx, atI, ixN, pAdd, pSub, pI, pDiv, pMod, pNeg, pGt, pGe, pLe, pLt, pIsN, pNotN, pTup, pLst, pSet, pAppend, pExtend, qNewT, qNewK, qYes, ofP, PR.bind, PR.toFl, PFl.seq, PR.ne, tRaise]
  | a :: b :: c :: d :: r =>
    have : ¬ ((r.length : Int) + 1 + 1 + 1 + 1 = 3) := by omega
    simp [P_is_move, p_is_move, isMoveV, pNe_int, this, pRunOf, entP, mkSl, outsP, slv, PSl.val, tSeq, tNil, tRet, tRetN, tRetO, tIf, tAsg, tAsgF, tDrop, tAsgT, tgP, tgPs, noMu, tPar, inst, tSt, setM, stv, qVar, qFrz, qPk, qCon, qB2, qB2s, qU, qNil, qCons, qTup, qLst, qCall, qIf, qTru, qNotB, qAndB, qOrB, qAnd, qOr, qNot, qAsB, qChain, qIsT, qSl, qNo, qSo, pOI, qRun, qArgs, mOk, isMs, isM, setOuts, outS, qMut, qMut0, tyP, ptru, ptoB, pTy, isTy, pLen, pInt, pIx, atI, ixN, pAdd, pSub, pI, pDiv, pMod, pNeg, pGt, pGe, pLe, pLt, pIsN, pNotN, pTup, pLst, pSet, pAppend, pExtend, qNewT, qNewK, qYes, ofP, PR.bind, PR.toFl, PFl.seq, PR.ne, tRaise]
  | [a, b, c] =>
    simp [P_is_move, p_is_move, isMoveV, pNe_int, whole_p, pRunOf, entP, mkSl, outsP, slv, PSl.val, tSeq, tNil, tRet, tRetN, tRetO, tIf, tAsg, tAsgF, tDrop, tAsgT, tgP, tgPs, noMu, tPar, inst, tSt, setM, stv, qVar, qFrz, qPk, qCon, qB2, qB2s, qU, qNil, qCons, qTup, qLst, qCall, qIf, qTru, qNotB, qAndB, qOrB, qAnd, qOr, qNot, qAsB, qChain, qIsT, qSl, qNo, qSo, pOI, qRun, qArgs, mOk, isMs, isM, setOuts, outS, qMut, qMut0, tyP, ptru, ptoB, pTy, isTy, pLen, pInt, pIx, atI, ixN, pAdd, pSub, pI, pDiv, pMod, pNeg, pGt, pGe, pLe, pLt, pIsN, pNotN, pTup, pLst, pSet, pAppend, pExtend, qNewT, qNewK, qYes, ofP, PR.bind, PR.toFl, PFl.seq, PR.ne, tRaise]
    cases ha : wholeV a 0 (n - 1) with
    | false => simp
    | true =>
      cases hb : wholeV b 0 (n - 1) with
      | false => simp
      | true =>
        cases hc : wholeV c 0 20 with
        | false => simp
        | true =>
          obtain ⟨i, rfl, _⟩ := whole_int ha
          obtain ⟨j, rfl, _⟩ := whole_int hb
          obtain ⟨k, rfl, _⟩ := whole_int hc
          simp [pNe_int, neI]
          by_cases h : i = j <;> simp [h]
theorem is_move_l (n : Int) (v : PV) : P__law_xp_is_move [.int n, v] = .ok (.bl (isMoveV n v)) [] := by
  cases v <;> try (simp [P__law_xp_is_move, p__law_xp_is_move, isMoveV, pRunOf, entP, mkSl, outsP, slv, PSl.val, tSeq, tNil, tRet, tRetN, tRetO, tIf, tAsg, tAsgF, tDrop, tAsgT, tgP, tgPs, noMu, tPar, inst, tSt, setM, stv, qVar, qFrz, qPk, qCon, qB2, qB2s, qU, qNil, qCons, qTup, qLst, qCall, qIf, qTru, qNotB, qAndB, qOrB, qAnd, qOr, qNot, qAsB, qChain, qIsT, qSl, qNo, qSo, pOI, qRun, qArgs, mOk, isMs, isM, setOuts, outS, qMut, qMut0, tyP, ptru, ptoB, pTy, isTy, pLen, pInt, pIx, atI, ixN, pAdd, pSub, pI, pDiv, pMod, pNeg, pGt, pGe, pLe, pLt, pIsN, pNotN, pTup, pLst, pSet, pAppend, pExtend, qNewT, qNewK, qYes, ofP, PR.bind, PR.toFl, PFl.seq, PR.ne, tRaise]; done)
  rename_i xs
  match xs with
  | [] => simp [P__law_xp_is_move, p__law_xp_is_move, isMoveV, pNe_int, pRunOf, entP, mkSl, outsP, slv, PSl.val, tSeq, tNil, tRet, tRetN, tRetO, tIf, tAsg, tAsgF, tDrop, tAsgT, tgP, tgPs, noMu, tPar, inst, tSt, setM, stv, qVar, qFrz, qPk, qCon, qB2, qB2s, qU, qNil, qCons, qTup, qLst, qCall, qIf, qTru, qNotB, qAndB, qOrB, qAnd, qOr, qNot, qAsB, qChain, qIsT, qSl, qNo, qSo, pOI, qRun, qArgs, mOk, isMs, isM, setOuts, outS, qMut, qMut0, tyP, ptru, ptoB, pTy, isTy, pLen, pInt, pIx, atI, ixN, pAdd, pSub, pI, pDiv, pMod, pNeg, pGt, pGe, pLe, pLt, pIsN, pNotN, pTup, pLst, pSet, pAppend, pExtend, qNewT, qNewK, qYes, ofP, PR.bind, PR.toFl, PFl.seq, PR.ne, tRaise]
  | [_] => simp [P__law_xp_is_move, p__law_xp_is_move, isMoveV, pNe_int, pRunOf, entP, mkSl, outsP, slv, PSl.val, tSeq, tNil, tRet, tRetN, tRetO, tIf, tAsg, tAsgF, tDrop, tAsgT, tgP, tgPs, noMu, tPar, inst, tSt, setM, stv, qVar, qFrz, qPk, qCon, qB2, qB2s, qU, qNil, qCons, qTup, qLst, qCall, qIf, qTru, qNotB, qAndB, qOrB, qAnd, qOr, qNot, qAsB, qChain, qIsT, qSl, qNo, qSo, pOI, qRun, qArgs, mOk, isMs, isM, setOuts, outS, qMut, qMut0, tyP, ptru, ptoB, pTy, isTy, pLen, pInt, pIx, atI, ixN, pAdd, pSub, pI, pDiv, pMod, pNeg, pGt, pGe, pLe, pLt, pIsN, pNotN, pTup, pLst, pSet, pAppend, pExtend, qNewT, qNewK, qYes, ofP, PR.bind, PR.toFl, PFl.seq, PR.ne, tRaise]
  | [_, _] => simp [P__law_xp_is_move, p__law_xp_is_move, isMoveV, pNe_int, pRunOf, entP, mkSl, outsP, slv, PSl.val, tSeq, tNil, tRet, tRetN, tRetO, tIf, tAsg, tAsgF, tDrop, tAsgT, tgP, tgPs, noMu, tPar, inst, tSt, setM, stv, qVar, qFrz, qPk, qCon, qB2, qB2s, qU, qNil, qCons, qTup, qLst, qCall, qIf, qTru, qNotB, qAndB, qOrB, qAnd, qOr, qNot, qAsB, qChain, qIsT, qSl, qNo, qSo, pOI, qRun, qArgs, mOk, isMs, isM, setOuts, outS, qMut, qMut0, tyP, ptru, ptoB, pTy, isTy, pLen, pInt, pIx, atI, ixN, pAdd, pSub, pI, pDiv, pMod, pNeg, pGt, pGe, pLe, pLt, pIsN, pNotN, pTup, pLst, pSet, pAppend, pExtend, qNewT, qNewK, qYes, ofP, PR.bind, PR.toFl, PFl.seq, PR.ne, tRaise]
  | a :: b :: c :: d :: r =>
    have : ¬ ((r.length : Int) + 1 + 1 + 1 + 1 = 3) := by omega
    simp [P__law_xp_is_move, p__law_xp_is_move, isMoveV, pNe_int, this, pRunOf, entP, mkSl, outsP, slv, PSl.val, tSeq, tNil, tRet, tRetN, tRetO, tIf, tAsg, tAsgF, tDrop, tAsgT, tgP, tgPs, noMu, tPar, inst, tSt, setM, stv, qVar, qFrz, qPk, qCon, qB2, qB2s, qU, qNil, qCons, qTup, qLst, qCall, qIf, qTru, qNotB, qAndB, qOrB, qAnd, qOr, qNot, qAsB, qChain, qIsT, qSl, qNo, qSo, pOI, qRun, qArgs, mOk, isMs, isM, setOuts, outS, qMut, qMut0, tyP, ptru, ptoB, pTy, isTy, pLen, pInt, pIx, atI, ixN, pAdd, pSub, pI, pDiv, pMod, pNeg, pGt, pGe, pLe, pLt, pIsN, pNotN, pTup, pLst, pSet, pAppend, pExtend, qNewT, qNewK, qYes, ofP, PR.bind, PR.toFl, PFl.seq, PR.ne, tRaise]
  | [a, b, c] =>
    simp [P__law_xp_is_move, p__law_xp_is_move, isMoveV, pNe_int, in_p, pRunOf, entP, mkSl, outsP, slv, PSl.val, tSeq, tNil, tRet, tRetN, tRetO, tIf, tAsg, tAsgF, tDrop, tAsgT, tgP, tgPs, noMu, tPar, inst, tSt, setM, stv, qVar, qFrz, qPk, qCon, qB2, qB2s, qU, qNil, qCons, qTup, qLst, qCall, qIf, qTru, qNotB, qAndB, qOrB, qAnd, qOr, qNot, qAsB, qChain, qIsT, qSl, qNo, qSo, pOI, qRun, qArgs, mOk, isMs, isM, setOuts, outS, qMut, qMut0, tyP, ptru, ptoB, pTy, isTy, pLen, pInt, pIx, atI, ixN, pAdd, pSub, pI, pDiv, pMod, pNeg, pGt, pGe, pLe, pLt, pIsN, pNotN, pTup, pLst, pSet, pAppend, pExtend, qNewT, qNewK, qYes, ofP, PR.bind, PR.toFl, PFl.seq, PR.ne, tRaise]
    cases ha : wholeV a 0 (n - 1) with
    | false => simp
    | true =>
      cases hb : wholeV b 0 (n - 1) with
      | false => simp
      | true =>
        cases hc : wholeV c 0 20 with
        | false => simp [in_p, hc, pRunOf, entP, mkSl, outsP, slv, PSl.val, tSeq, tNil, tRet, tRetN, tRetO, tIf, tAsg, tAsgF, tDrop, tAsgT, tgP, tgPs, noMu, tPar, inst, tSt, setM, stv, qVar, qFrz, qPk, qCon, qB2, qB2s, qU, qNil, qCons, qTup, qLst, qCall, qIf, qTru, qNotB, qAndB, qOrB, qAnd, qOr, qNot, qAsB, qChain, qIsT, qSl, qNo, qSo, pOI, qRun, qArgs, mOk, isMs, isM, setOuts, outS, qMut, qMut0, tyP, ptru, ptoB, pTy, isTy, pLen, pInt, pIx, atI, ixN, pAdd, pSub, pI, pDiv, pMod, pNeg, pGt, pGe, pLe, pLt, pIsN, pNotN, pTup, pLst, pSet, pAppend, pExtend, qNewT, qNewK, qYes, ofP, PR.bind, PR.toFl, PFl.seq, PR.ne, tRaise]
        | true =>
          obtain ⟨i, rfl, _⟩ := whole_int ha
          obtain ⟨j, rfl, _⟩ := whole_int hb
          obtain ⟨k, rfl, hk, _⟩ := whole_int hc
          simp [in_p, hc, pNe_int, neI, pRunOf, entP, mkSl, outsP, slv, PSl.val, tSeq, tNil, tRet, tRetN, tRetO, tIf, tAsg, tAsgF, tDrop, tAsgT, tgP, tgPs, noMu, tPar, inst, tSt, setM, stv, qVar, qFrz, qPk, qCon, qB2, qB2s, qU, qNil, qCons, qTup, qLst, qCall, qIf, qTru, qNotB, qAndB, qOrB, qAnd, qOr, qNot, qAsB, qChain, qIsT, qSl, qNo, qSo, pOI, qRun, qArgs, mOk, isMs, isM, setOuts, outS, qMut, qMut0, tyP, ptru, ptoB, pTy, isTy, pLen, pInt, pIx, atI, ixN, pAdd, pSub, pI, pDiv, pMod, pNeg, pGt, pGe, pLe, pLt, pIsN, pNotN, pTup, pLst, pSet, pAppend, pExtend, qNewT, qNewK, qYes, ofP, PR.bind, PR.toFl, PFl.seq, PR.ne, tRaise]
          by_cases h : i = j <;> simp [h]
          by_cases h2 : k = 0
          · simp [h2]
          · have : 0 < k := by omega
            simp [h2, this]
theorem isMove_inv {n : Int} {v : PV} (h : isMoveV n v = true) : ∃ a b d, v = .tup [.int a, .int b, .int d] ∧ 0 ≤ a ∧ a ≤ n - 1 ∧ 0 ≤ b ∧ b ≤ n - 1 ∧ 0 ≤ d ∧ d ≤ 20 := by
  unfold isMoveV at h
  split at h
  · simp only [Bool.and_eq_true] at h
    obtain ⟨ha, hb, hc, _⟩ := h
    obtain ⟨i, rfl, h1, h2⟩ := whole_int ha
    obtain ⟨j, rfl, h3, h4⟩ := whole_int hb
    obtain ⟨k, rfl, h5, h6⟩ := whole_int hc
    exact ⟨i, j, k, rfl, h1, h2, h3, h4, h5, h6⟩
  · cases h
/-! ## the first bad move -/
def leV (v w : PV) : Bool := match v, w with
  | .tup [.int a, .int b, .int d], .tup [.int x, .int y, .int z] => leInts [a, b, d] [x, y, z]
  | _, _ => false
def rvB (b a : Int) (w : PV) : Bool := match w with
  | .tup [.int x, .int y, .int z] => decide (x = b) && (decide (y = a) && decide (z = 0))
  | _ => false
def isRev (v w : PV) : Bool := match v with
  | .tup [.int a, .int b, .int _] => rvB b a w
  | _ => false
def d0 (v : PV) : Bool := match v with
  | .tup [.int _, .int _, .int d] => decide (d = 0)
  | _ => false
def badHere (n : Int) (pre : List PV) (v : PV) : Bool := !isMoveV n v || (match pre.getLast? with | some l => leV v l | none => false) || (d0 v && pre.any (isRev v))
def fb (n : Int) : List PV → List PV → Option Nat
  | _, [] => none
  | pre, v :: rest => if badHere n pre v = true then some pre.length else fb n (pre ++ [v]) rest
def fbV : Option Nat → PV
  | none => .non
  | some k => .int k
def en : Nat → List PV → List PV
  | _, [] => []
  | k, x :: xs => .tup [.int (k : Nat), x] :: en (k + 1) xs
theorem en_mapIdx : ∀ (xs : List PV) (k : Nat), (xs.mapIdx fun i x => PV.tup [.int ((k + i : Nat) : Int), x]) = en k xs
  | [], _ => rfl
  | x :: xs, k => by
    rw [List.mapIdx_cons, en, ← en_mapIdx xs (k + 1)]
    congr 1
    apply List.ext_getElem?
    intro i
    simp only [List.getElem?_mapIdx]
    congr 1
    funext x
    have : k + (i + 1) = k + 1 + i := by omega
    rw [this]
theorem en_zero (xs : List PV) : (xs.mapIdx fun i x => PV.tup [.int (i : Nat), x]) = en 0 xs := by
  rw [← en_mapIdx xs 0]; simp
/-- an int triple -/
def isT3 (v : PV) : Prop := ∃ a b d, v = .tup [.int a, .int b, .int d]
theorem gd_t3 {v : PV} (h : isT3 v) : Gd 2 v := by
  obtain ⟨a, b, d, rfl⟩ := h
  intro x hx
  simp at hx
  rcases hx with rfl | rfl | rfl <;> trivial
theorem pLe_t3 {v w : PV} (hv : isT3 v) (hw : isT3 w) : pLe v w = some (.bl (leV v w)) := by
  obtain ⟨a, b, d, rfl⟩ := hv
  obtain ⟨x, y, z, rfl⟩ := hw
  simp [pLe, pInts, leV]
theorem pIx_2 {v : PV} (hv : isT3 v) : ∃ d, pIx v (.int 2) = some (.int d) ∧ pEq (.int d) (.int 0) = some (.bl (d0 v)) := by
  obtain ⟨a, b, d, rfl⟩ := hv
  exact ⟨d, by simp [pIx, atI, ixN], by rw [pEq_int]; rfl⟩
theorem inSeq_pre {pre : List PV} {b a : Int} (h : ∀ v ∈ pre, isT3 v) : pInSeq (.tup [.int b, .int a, .int 0]) pre = some (pre.any (rvB b a)) := by
  have e1 : pyD 20 (.tup [.int b, .int a, .int 0]) = some (.tuple [.int b, .int a, .int 0]) := rfl
  have e2 : ∃ ds, pre.mapM (pyD 20) = some ds ∧ (ds.any fun z => PySem.PyData.eqv z (.tuple [.int b, .int a, .int 0])) = pre.any (rvB b a) := by
    clear e1
    induction pre with
    | nil => exact ⟨[], rfl, rfl⟩
    | cons v pre ih =>
      obtain ⟨ds, i1, i2⟩ := ih fun w hw => h w (List.mem_cons_of_mem _ hw)
      obtain ⟨x, y, z, rfl⟩ := h v List.mem_cons_self
      refine ⟨.tuple [.int x, .int y, .int z] :: ds, by rw [List.mapM_cons, i1]; rfl, ?_⟩
      rw [List.any_cons, List.any_cons, i2]
      congr 1
      simp [PySem.PyData.eqv, PySem.PyData.eqvAll, rvB]
      rfl
  obtain ⟨ds, e2, e3⟩ := e2
  obtain ⟨ps, f1, f2, f3⟩ := mapM_all (n := 2) (fun v hv m hm => Gd.py 2 v hv m hm) (m := 20) (by decide) (xs := pre) fun x hx => gd_t3 (h x hx)
  rw [e2] at f1; cases f1
  unfold pInSeq
  rw [e1, e2]
  simp only
  rw [if_pos, e3]
  refine ⟨by simp [PySem.SeqAt.shaped, PySem.PyData.canLay0, PySem.PyData.canLayAll0, PySem.PyData.depth, PySem.PyData.depthAll], ?_⟩
  unfold PySem.SeqAt.shaped
  rw [Bool.and_eq_true]
  exact ⟨by simpa [PySem.PyData.canLay0] using f2, by rw [decide_eq_true]; simp only [PySem.PyData.depth]; omega⟩
theorem inRev_pre {pre : List PV} {v : PV} (hv : isT3 v) (h : ∀ v ∈ pre, isT3 v) : ∃ a b, pIx v (.int 1) = some (.int b) ∧ pIx v (.int 0) = some (.int a) ∧ pIn (.tup [.int b, .int a, .int 0]) (.tup pre) = some (.bl (pre.any (isRev v))) := by
  obtain ⟨a, b, d, rfl⟩ := hv
  refine ⟨a, b, by simp [pIx, atI, ixN], by simp [pIx, atI, ixN], ?_⟩
  unfold pIn pInB
  simp only
  rw [inSeq_pre h]
  rfl
/-- what is known stands for the moves ahead -/
def Kn (ks : List (List Key)) (pre : List PV) : Prop := ks.length ≤ pre.length ∧ ∀ b a : Int, (ks.any fun k' => decide (k' = [.inl b, .inl a, .inl 0])) = pre.any (rvB b a)
theorem inRev_kn {pre : List PV} {ks : List (List Key)} {vs : List PV} {v : PV} (hv : isT3 v) (h : Kn ks pre) : ∃ a b, pIx v (.int 1) = some (.int b) ∧ pIx v (.int 0) = some (.int a) ∧ pIn (.tup [.int b, .int a, .int 0]) (.dT ks vs) = some (.bl (pre.any (isRev v))) := by
  obtain ⟨a, b, d, rfl⟩ := hv
  refine ⟨a, b, by simp [pIx, atI, ixN], by simp [pIx, atI, ixN], ?_⟩
  simp only [pIn, pInB, pKeys, pKey, Option.map_some, h.2 b a]
  rfl
theorem kn_nil : Kn [] [] := ⟨Nat.le_refl _, fun b a => rfl⟩
theorem kn_put {pre : List PV} {ks : List (List Key)} {vs : List PV} {v : PV} (hv : isT3 v) (h : Kn ks pre) (hz : pre.length ≤ 1000) : ∃ ks' vs', pSet (.dT ks vs) v (.bl true) = some (.dT ks' vs') ∧ Kn ks' (pre ++ [v]) := by
  obtain ⟨a, b, d, rfl⟩ := hv
  have hl : ks.length < PySem.sizeLine := Nat.lt_of_le_of_lt (Nat.le_trans h.1 hz) (by decide)
  refine ⟨(pPutD ks vs [.inl a, .inl b, .inl d] (.bl true)).1, (pPutD ks vs [.inl a, .inl b, .inl d] (.bl true)).2, by simp only [pSet, pKeys, pKey]; rw [if_pos hl], ?_, fun y x => ?_⟩
  · unfold pPutD
    split
    · have := h.1; simp; omega
    · have := h.1; simp; omega
  · have e : rvB y x (.tup [.int a, .int b, .int d]) = decide (([.inl a, .inl b, .inl d] : List Key) = [.inl y, .inl x, .inl 0]) := by
      simp [rvB]
    rw [List.any_append, ← h.2 y x]
    unfold pPutD
    split
    · rename_i hh
      simp only [List.any_cons, List.any_nil, Bool.or_false, e]
      by_cases hk : (([.inl a, .inl b, .inl d] : List Key) = [.inl y, .inl x, .inl 0])
      · rw [hk] at hh
        rw [hh]; simp
      · simp [hk]
    · simp only [List.any_append, List.any_cons, List.any_nil, Bool.or_false, e]
theorem badHere_mv {n : Int} {pre : List PV} {v : PV} (h : badHere n pre v = false) : isMoveV n v = true ∧ (∀ l, pre.getLast? = some l → leV v l = false) ∧ (d0 v && pre.any (isRev v)) = false := by
  unfold badHere at h
  simp only [Bool.or_eq_false_iff, Bool.not_eq_false'] at h
  refine ⟨h.1.1, fun l hl => ?_, h.2⟩
  have := h.1.2
  rw [hl] at this
  exact this
theorem isT3_of {n : Int} {v : PV} (h : isMoveV n v = true) : isT3 v := by
  obtain ⟨a, b, d, e, _⟩ := isMove_inv h
  exact ⟨a, b, d, e⟩
def lastV (pre : List PV) : PV := (pre.getLast?).getD .non
theorem last_facts {n : Int} {pre : List PV} {v : PV} (hp : ∀ v ∈ pre, isMoveV n v = true) (t3 : isT3 v) : lastV pre = .non ∧ pre.getLast? = none ∨ ∃ l, pre.getLast? = some l ∧ lastV pre = l ∧ pNon l = false ∧ pLe v l = some (.bl (leV v l)) := by
  unfold lastV
  cases hg : pre.getLast? with
  | none => exact .inl ⟨rfl, rfl⟩
  | some l =>
    have tl := isT3_of (hp l (List.mem_of_getLast? hg))
    have e := pLe_t3 t3 tl
    obtain ⟨_, _, _, rfl⟩ := tl
    exact .inr ⟨_, rfl, rfl, rfl, e⟩
theorem badHere_eq {n : Int} {pre : List PV} {v : PV} : badHere n pre v = (!isMoveV n v || (match pre.getLast? with | some l => leV v l | none => false) || (d0 v && pre.any (isRev v))) := rfl
theorem prog_loop (n : Int) (ms : PV) : ∀ (rest pre : List PV) (ks : List (List Key)) (vs : List PV) (s4 s5 : Option PSl), okS s4 = true → okS s5 = true → (∀ v ∈ pre, isMoveV n v = true) → Kn ks pre → pre.length + rest.length ≤ 1000 →
    ∃ π', forP (ptgt (.tp ((.nm 4) :: (.nm 5) :: [])) (tSeq (tIf (qOrB (qNotB (qTru (qRun (.v (qVar 0) :: .v (qVar 5) :: []) P_is_move))) (qAndB (qAsB (qB2 pNotN (qVar 3) (qCon .non))) (qAsB (qB2 pLe (qVar 5) (qPk 3))))) (tSeq (tRet (qVar 4)) (tNil)) (tNil)) (tSeq (tIf (qAndB (qAsB (qB2 pEq (qB2 pIx (qVar 5) (qCon (.int 2))) (qCon (.int 0)))) (qAsB (qB2 pIn (qTup (qCons (qB2 pIx (qVar 5) (qCon (.int 1))) (qCons (qB2 pIx (qVar 5) (qCon (.int 0))) (qCons (qCon (.int 0)) (qNil))))) (qPk 2)))) (tSeq (tRet (qVar 4)) (tNil)) (tNil)) (tSeq (tSt 2 pSet (qVar 5) (qCon (.bl true))) (tSeq (tAsg (qVar 5) 3) (tNil)))))) (en pre.length rest) [some (.sh (.int n)), some (.sh ms), some (.ow (.dT ks vs)), some (.sh (lastV pre)), s4, s5] =
      (match fb n pre rest with
        | some k => .ret (.int k) π'
        | none => .nx π')
  | [], pre, ks, vs, s4, s5, h4, h5, hp, hk, hl => ⟨_, by simp [en, fb, forP]; rfl⟩
  | v :: rest, pre, ks, vs, s4, s5, h4, h5, hp, hk, hl => by
    have n4 := nm_of_ok h4
    have n5 := nm_of_ok h5
    rw [en, forP_cons]
    cases hb : badHere n pre v with
    | true =>
      have ef : fb n pre (v :: rest) = some pre.length := by simp [fb, hb]
      rw [ef]
      refine ⟨[some (.sh (.int n)), some (.sh ms), some (.ow (.dT ks vs)), some (.sh (lastV pre)), some (.sh (.int pre.length)), some (.sh v)], ?_⟩
      have hs : ptgt (.tp ((.nm 4) :: (.nm 5) :: [])) (tSeq (tIf (qOrB (qNotB (qTru (qRun (.v (qVar 0) :: .v (qVar 5) :: []) P_is_move))) (qAndB (qAsB (qB2 pNotN (qVar 3) (qCon .non))) (qAsB (qB2 pLe (qVar 5) (qPk 3))))) (tSeq (tRet (qVar 4)) (tNil)) (tNil)) (tSeq (tIf (qAndB (qAsB (qB2 pEq (qB2 pIx (qVar 5) (qCon (.int 2))) (qCon (.int 0)))) (qAsB (qB2 pIn (qTup (qCons (qB2 pIx (qVar 5) (qCon (.int 1))) (qCons (qB2 pIx (qVar 5) (qCon (.int 0))) (qCons (qCon (.int 0)) (qNil))))) (qPk 2)))) (tSeq (tRet (qVar 4)) (tNil)) (tNil)) (tSeq (tSt 2 pSet (qVar 5) (qCon (.bl true))) (tSeq (tAsg (qVar 5) 3) (tNil))))) (.tup [.int pre.length, v]) [some (.sh (.int n)), some (.sh ms), some (.ow (.dT ks vs)), some (.sh (lastV pre)), s4, s5] =
        .ret (.int pre.length) [some (.sh (.int n)), some (.sh ms), some (.ow (.dT ks vs)), some (.sh (lastV pre)), some (.sh (.int pre.length)), some (.sh v)] := by
        cases hm : isMoveV n v with
        | false => simp [ptgt, n4, n5, is_move_p, hm, pRunOf, entP, mkSl, outsP, slv, PSl.val, tSeq, tNil, tRet, tRetN, tRetO, tIf, tAsg, tAsgF, tDrop, tAsgT, tgP, tgPs, noMu, tPar, inst, tSt, setM, stv, qVar, qFrz, qPk, qCon, qB2, qB2s, qU, qNil, qCons, qTup, qLst, qCall, qIf, qTru, qNotB, qAndB, qOrB, qAnd, qOr, qNot, qAsB, qChain, qIsT, qSl, qNo, qSo, pOI, qRun, qArgs, mOk, isMs, isM, setOuts, outS, qMut, qMut0, tyP, ptru, ptoB, pTy, isTy, pLen, pInt, atI, ixN, pAdd, pSub, pI, pDiv, pMod, pNeg, pGt, pGe, pLt, pIsN, pNotN, pTup, pLst, pSet, pAppend, pExtend, qNewT, qNewK, qYes, ofP, PR.bind, PR.toFl, PFl.seq, PR.ne, tRaise]
        | true =>
          have t3 := isT3_of hm
          obtain ⟨d, i2, i3⟩ := pIx_2 t3
          obtain ⟨a, b, i4, i5, i6⟩ := inRev_kn (vs := vs) t3 hk
          rw [badHere_eq, hm] at hb
          rcases last_facts hp t3 with ⟨g1, g2⟩ | ⟨l, g1, g2, g3, g4⟩
          · rw [g2] at hb
            simp at hb
            simp [ptgt, n4, n5, is_move_p, hm, g1, i2, i3, i4, i5, i6, hb, PySem.sizeLine, pRunOf, entP, mkSl, outsP, slv, PSl.val, tSeq, tNil, tRet, tRetN, tRetO, tIf, tAsg, tAsgF, tDrop, tAsgT, tgP, tgPs, noMu, tPar, inst, tSt, setM, stv, qVar, qFrz, qPk, qCon, qB2, qB2s, qU, qNil, qCons, qTup, qLst, qCall, qIf, qTru, qNotB, qAndB, qOrB, qAnd, qOr, qNot, qAsB, qChain, qIsT, qSl, qNo, qSo, pOI, qRun, qArgs, mOk, isMs, isM, setOuts, outS, qMut, qMut0, tyP, ptru, ptoB, pTy, isTy, pLen, pInt, atI, ixN, pAdd, pSub, pI, pDiv, pMod, pNeg, pGt, pGe, pLt, pIsN, pNotN, pTup, pLst, pSet, pAppend, pExtend, qNewT, qNewK, qYes, ofP, PR.bind, PR.toFl, PFl.seq, PR.ne, tRaise]
          · rw [g1] at hb
            cases hle : leV v l with
            | true => rw [hle] at g4; simp [ptgt, n4, n5, is_move_p, hm, g2, g3, g4, pRunOf, entP, mkSl, outsP, slv, PSl.val, tSeq, tNil, tRet, tRetN, tRetO, tIf, tAsg, tAsgF, tDrop, tAsgT, tgP, tgPs, noMu, tPar, inst, tSt, setM, stv, qVar, qFrz, qPk, qCon, qB2, qB2s, qU, qNil, qCons, qTup, qLst, qCall, qIf, qTru, qNotB, qAndB, qOrB, qAnd, qOr, qNot, qAsB, qChain, qIsT, qSl, qNo, qSo, pOI, qRun, qArgs, mOk, isMs, isM, setOuts, outS, qMut, qMut0, tyP, ptru, ptoB, pTy, isTy, pLen, pInt, atI, ixN, pAdd, pSub, pI, pDiv, pMod, pNeg, pGt, pGe, pLt, pIsN, pNotN, pTup, pLst, pSet, pAppend, pExtend, qNewT, qNewK, qYes, ofP, PR.bind, PR.toFl, PFl.seq, PR.ne, tRaise]
            | false =>
              rw [hle] at g4
              simp [hle] at hb
              simp [ptgt, n4, n5, is_move_p, hm, g2, g3, g4, i2, i3, i4, i5, i6, hb, PySem.sizeLine, pRunOf, entP, mkSl, outsP, slv, PSl.val, tSeq, tNil, tRet, tRetN, tRetO, tIf, tAsg, tAsgF, tDrop, tAsgT, tgP, tgPs, noMu, tPar, inst, tSt, setM, stv, qVar, qFrz, qPk, qCon, qB2, qB2s, qU, qNil, qCons, qTup, qLst, qCall, qIf, qTru, qNotB, qAndB, qOrB, qAnd, qOr, qNot, qAsB, qChain, qIsT, qSl, qNo, qSo, pOI, qRun, qArgs, mOk, isMs, isM, setOuts, outS, qMut, qMut0, tyP, ptru, ptoB, pTy, isTy, pLen, pInt, atI, ixN, pAdd, pSub, pI, pDiv, pMod, pNeg, pGt, pGe, pLt, pIsN, pNotN, pTup, pLst, pSet, pAppend, pExtend, qNewT, qNewK, qYes, ofP, PR.bind, PR.toFl, PFl.seq, PR.ne, tRaise]
      rw [hs]; rfl
    | false =>
      obtain ⟨h1, h2, h3⟩ := badHere_mv hb
      have ef : fb n pre (v :: rest) = fb n (pre ++ [v]) rest := by simp [fb, hb]
      rw [ef]
      have t3 := isT3_of h1
      obtain ⟨ks', vs', e1, hk'⟩ := kn_put (vs := vs) t3 hk (by simp at hl; omega)
      obtain ⟨π', ih⟩ := prog_loop n ms rest (pre ++ [v]) ks' vs' (some (.sh (.int pre.length))) (some (.sh v)) rfl rfl (fun w hw => by
        rcases List.mem_append.mp hw with hw | hw
        · exact hp w hw
        · simp at hw; subst hw; exact h1) hk' (by simp at hl ⊢; omega)
      refine ⟨π', ?_⟩
      have el : lastV (pre ++ [v]) = v := by simp [lastV]
      rw [el] at ih
      obtain ⟨d, i2, i3⟩ := pIx_2 t3
      obtain ⟨a, b, i4, i5, i6⟩ := inRev_kn (vs := vs) t3 hk
      have hs : ptgt (.tp ((.nm 4) :: (.nm 5) :: [])) (tSeq (tIf (qOrB (qNotB (qTru (qRun (.v (qVar 0) :: .v (qVar 5) :: []) P_is_move))) (qAndB (qAsB (qB2 pNotN (qVar 3) (qCon .non))) (qAsB (qB2 pLe (qVar 5) (qPk 3))))) (tSeq (tRet (qVar 4)) (tNil)) (tNil)) (tSeq (tIf (qAndB (qAsB (qB2 pEq (qB2 pIx (qVar 5) (qCon (.int 2))) (qCon (.int 0)))) (qAsB (qB2 pIn (qTup (qCons (qB2 pIx (qVar 5) (qCon (.int 1))) (qCons (qB2 pIx (qVar 5) (qCon (.int 0))) (qCons (qCon (.int 0)) (qNil))))) (qPk 2)))) (tSeq (tRet (qVar 4)) (tNil)) (tNil)) (tSeq (tSt 2 pSet (qVar 5) (qCon (.bl true))) (tSeq (tAsg (qVar 5) 3) (tNil))))) (.tup [.int pre.length, v]) [some (.sh (.int n)), some (.sh ms), some (.ow (.dT ks vs)), some (.sh (lastV pre)), s4, s5] =
        .nx [some (.sh (.int n)), some (.sh ms), some (.ow (.dT ks' vs')), some (.sh v), some (.sh (.int pre.length)), some (.sh v)] := by
        rcases last_facts hp t3 with ⟨g1, g2⟩ | ⟨l, g1, g2, g3, g4⟩
        · cases hd : d0 v with
          | false => rw [hd] at i3; simp [ptgt, n4, n5, is_move_p, h1, g1, i2, i3, e1, pRunOf, entP, mkSl, outsP, slv, PSl.val, tSeq, tNil, tRet, tRetN, tRetO, tIf, tAsg, tAsgF, tDrop, tAsgT, tgP, tgPs, noMu, tPar, inst, tSt, setM, stv, qVar, qFrz, qPk, qCon, qB2, qB2s, qU, qNil, qCons, qTup, qLst, qCall, qIf, qTru, qNotB, qAndB, qOrB, qAnd, qOr, qNot, qAsB, qChain, qIsT, qSl, qNo, qSo, pOI, qRun, qArgs, mOk, isMs, isM, setOuts, outS, qMut, qMut0, tyP, ptru, ptoB, pTy, isTy, pLen, pInt, atI, ixN, pAdd, pSub, pI, pDiv, pMod, pNeg, pGt, pGe, pLt, pIsN, pNotN, pTup, pLst, pAppend, pExtend, qNewT, qNewK, qYes, ofP, PR.bind, PR.toFl, PFl.seq, PR.ne, tRaise]
          | true =>
            rw [hd] at i3 h3
            rw [Bool.true_and] at h3
            rw [h3] at i6
            simp [ptgt, n4, n5, is_move_p, h1, g1, i2, i3, i4, i5, i6, e1, PySem.sizeLine, pRunOf, entP, mkSl, outsP, slv, PSl.val, tSeq, tNil, tRet, tRetN, tRetO, tIf, tAsg, tAsgF, tDrop, tAsgT, tgP, tgPs, noMu, tPar, inst, tSt, setM, stv, qVar, qFrz, qPk, qCon, qB2, qB2s, qU, qNil, qCons, qTup, qLst, qCall, qIf, qTru, qNotB, qAndB, qOrB, qAnd, qOr, qNot, qAsB, qChain, qIsT, qSl, qNo, qSo, pOI, qRun, qArgs, mOk, isMs, isM, setOuts, outS, qMut, qMut0, tyP, ptru, ptoB, pTy, isTy, pLen, pInt, atI, ixN, pAdd, pSub, pI, pDiv, pMod, pNeg, pGt, pGe, pLt, pIsN, pNotN, pTup, pLst, pAppend, pExtend, qNewT, qNewK, qYes, ofP, PR.bind, PR.toFl, PFl.seq, PR.ne, tRaise]
        · rw [h2 l g1] at g4
          cases hd : d0 v with
          | false => rw [hd] at i3; simp [ptgt, n4, n5, is_move_p, h1, g2, g3, g4, i2, i3, e1, pRunOf, entP, mkSl, outsP, slv, PSl.val, tSeq, tNil, tRet, tRetN, tRetO, tIf, tAsg, tAsgF, tDrop, tAsgT, tgP, tgPs, noMu, tPar, inst, tSt, setM, stv, qVar, qFrz, qPk, qCon, qB2, qB2s, qU, qNil, qCons, qTup, qLst, qCall, qIf, qTru, qNotB, qAndB, qOrB, qAnd, qOr, qNot, qAsB, qChain, qIsT, qSl, qNo, qSo, pOI, qRun, qArgs, mOk, isMs, isM, setOuts, outS, qMut, qMut0, tyP, ptru, ptoB, pTy, isTy, pLen, pInt, atI, ixN, pAdd, pSub, pI, pDiv, pMod, pNeg, pGt, pGe, pLt, pIsN, pNotN, pTup, pLst, pAppend, pExtend, qNewT, qNewK, qYes, ofP, PR.bind, PR.toFl, PFl.seq, PR.ne, tRaise]
          | true =>
            rw [hd] at i3 h3
            rw [Bool.true_and] at h3
            rw [h3] at i6
            simp [ptgt, n4, n5, is_move_p, h1, g2, g3, g4, i2, i3, i4, i5, i6, e1, PySem.sizeLine, pRunOf, entP, mkSl, outsP, slv, PSl.val, tSeq, tNil, tRet, tRetN, tRetO, tIf, tAsg, tAsgF, tDrop, tAsgT, tgP, tgPs, noMu, tPar, inst, tSt, setM, stv, qVar, qFrz, qPk, qCon, qB2, qB2s, qU, qNil, qCons, qTup, qLst, qCall, qIf, qTru, qNotB, qAndB, qOrB, qAnd, qOr, qNot, qAsB, qChain, qIsT, qSl, qNo, qSo, pOI, qRun, qArgs, mOk, isMs, isM, setOuts, outS, qMut, qMut0, tyP, ptru, ptoB, pTy, isTy, pLen, pInt, atI, ixN, pAdd, pSub, pI, pDiv, pMod, pNeg, pGt, pGe, pLt, pIsN, pNotN, pTup, pLst, pAppend, pExtend, qNewT, qNewK, qYes, ofP, PR.bind, PR.toFl, PFl.seq, PR.ne, tRaise]
      rw [hs, forKP_nx]
      rw [show pre.length + 1 = (pre ++ [v]).length by simp]
      exact ih
end K01

set_option maxRecDepth 100000
set_option maxHeartbeats 2000000
namespace K01
open G P
open L2 (atI ixN)
theorem first_bad_p (n : Int) (ms : List PV) (hl : ms.length ≤ 1000) : P_first_bad_move [.int n, .tup ms] = .ok (fbV (fb n [] ms)) [] := by
  obtain ⟨π', h⟩ := prog_loop n (.tup ms) ms [] [] [] none none rfl rfl (by simp) kn_nil (by simpa using hl)
  simp [lastV] at h
  simp only [P_first_bad_move, p_first_bad_move]
  cases hf : fb n [] ms with
  | none => rw [hf] at h; simp [tFor, qEnum, pItems, en_zero, h, fbV, pRunOf, entP, mkSl, outsP, slv, PSl.val, tSeq, tNil, tRet, tRetN, tRetO, tIf, tAsg, tAsgF, tDrop, tAsgT, tgP, tgPs, noMu, tPar, inst, tSt, setM, stv, qVar, qFrz, qPk, qCon, qB2, qB2s, qU, qNil, qCons, qTup, qLst, qCall, qIf, qTru, qNotB, qAndB, qOrB, qAnd, qOr, qNot, qAsB, qChain, qIsT, qSl, qNo, qSo, pOI, qRun, qArgs, mOk, isMs, isM, setOuts, outS, qMut, qMut0, tyP, ptru, ptoB, pTy, isTy, pLen, pInt, pIx, atI, ixN, pAdd, pSub, pI, pDiv, pMod, pNeg, pGt, pGe, pLe, pLt, pIsN, pNotN, pTup, pLst, pSet, pAppend, pExtend, qNewT, qNewK, qYes, ofP, PR.bind, PR.toFl, PFl.seq, PR.ne, tRaise]
  | some k => rw [hf] at h; simp [tFor, qEnum, pItems, en_zero, h, fbV, pRunOf, entP, mkSl, outsP, slv, PSl.val, tSeq, tNil, tRet, tRetN, tRetO, tIf, tAsg, tAsgF, tDrop, tAsgT, tgP, tgPs, noMu, tPar, inst, tSt, setM, stv, qVar, qFrz, qPk, qCon, qB2, qB2s, qU, qNil, qCons, qTup, qLst, qCall, qIf, qTru, qNotB, qAndB, qOrB, qAnd, qOr, qNot, qAsB, qChain, qIsT, qSl, qNo, qSo, pOI, qRun, qArgs, mOk, isMs, isM, setOuts, outS, qMut, qMut0, tyP, ptru, ptoB, pTy, isTy, pLen, pInt, pIx, atI, ixN, pAdd, pSub, pI, pDiv, pMod, pNeg, pGt, pGe, pLe, pLt, pIsN, pNotN, pTup, pLst, pSet, pAppend, pExtend, qNewT, qNewK, qYes, ofP, PR.bind, PR.toFl, PFl.seq, PR.ne, tRaise]
theorem ix_at {pre rest : List PV} {v : PV} : pIx (.tup (pre ++ v :: rest)) (.int pre.length) = some v := by
  simp only [pIx]
  rw [atI_nat (by simp)]
  simp
theorem ix_last {pre rest : List PV} {l : PV} (h : pre.getLast? = some l) : pIx (.tup (pre ++ rest)) (.int ((pre.length : Int) - 1)) = some l := by
  have hne : pre ≠ [] := by rintro rfl; cases h
  have hp : 0 < pre.length := List.length_pos_iff.mpr hne
  have : (pre.length : Int) - 1 = ((pre.length - 1 : Nat) : Int) := by omega
  simp only [pIx]
  rw [this, atI_nat (by simp; omega)]
  rw [List.getLast?_eq_getElem?] at h
  simp [List.getElem?_append_left (show pre.length - 1 < pre.length by omega), h]
theorem cut_at {pre rest : List PV} : pSlT (.tup (pre ++ rest)) none (some (pre.length : Int)) = some (.tup pre) := by
  simp [pSlT, pCut, HT.sIx]
  rw [if_neg (by omega)]
  simp
def rg : Nat → Nat → List PV
  | _, 0 => []
  | k, m + 1 => .int (k : Nat) :: rg (k + 1) m
theorem rng_rg (n : Nat) : rng 0 n = rg 0 n := by
  have : ∀ m k : Nat, (List.range' k m).map (fun (i : Nat) => PV.int i) = rg k m := by
    intro m
    induction m with
    | zero => intro k; rfl
    | succ m ih => intro k; rw [List.range'_succ, List.map_cons, ih, rg]
  unfold rng
  rw [← this n 0, List.range_eq_range']
  apply List.map_congr_left
  intro i _
  simp
theorem law_loop (n : Int) (T p : PV) (ms : List PV) : ∀ (rest pre : List PV) (s4 s5 : Option PSl), ms = pre ++ rest → okS s4 = true → okS s5 = true → (∀ v ∈ pre, isMoveV n v = true) →
    match fb n pre rest with
      | some k => ∃ π', forP (ptgt (.nm 4) (tSeq (tAsg (qB2 pIx (qVar 2) (qPk 4)) 5) (tSeq (tIf (qOrB (qNotB (qTru (qRun (.v (qVar 1) :: .v (qVar 5) :: []) P__law_xp_is_move))) (qAndB (qAsB (qB2 pGt (qVar 4) (qCon (.int 0)))) (qAsB (qB2 pLe (qVar 5) (qB2 pIx (qVar 2) (qB2 pSub (qVar 4) (qCon (.int 1)))))))) (tSeq (tRet (qTup (qCons (qCon (.str "BadNet")) (qCons (qTup (qCons (qCon (.int 1)) (qCons (qVar 4) (qNil)))) (qNil))))) (tNil)) (tNil)) (tSeq (tIf (qAndB (qAsB (qB2 pEq (qB2 pIx (qVar 5) (qCon (.int 2))) (qCon (.int 0)))) (qAsB (qB2 pIn (qTup (qCons (qB2 pIx (qVar 5) (qCon (.int 1))) (qCons (qB2 pIx (qVar 5) (qCon (.int 0))) (qCons (qCon (.int 0)) (qNil))))) (qSl pSlT (qVar 2) (qNo) (qSo (qVar 4)))))) (tSeq (tRet (qTup (qCons (qCon (.str "BadNet")) (qCons (qTup (qCons (qCon (.int 1)) (qCons (qVar 4) (qNil)))) (qNil))))) (tNil)) (tNil)) (tNil))))) (rg pre.length rest.length) [some (.sh T), some (.sh (.int n)), some (.sh (.tup ms)), some (.sh p), s4, s5, none] = .ret (.tup [.str "BadNet", .tup [.int 1, .int k]]) π'
      | none => ∃ s4' s5', okS s4' = true ∧ okS s5' = true ∧ forP (ptgt (.nm 4) (tSeq (tAsg (qB2 pIx (qVar 2) (qPk 4)) 5) (tSeq (tIf (qOrB (qNotB (qTru (qRun (.v (qVar 1) :: .v (qVar 5) :: []) P__law_xp_is_move))) (qAndB (qAsB (qB2 pGt (qVar 4) (qCon (.int 0)))) (qAsB (qB2 pLe (qVar 5) (qB2 pIx (qVar 2) (qB2 pSub (qVar 4) (qCon (.int 1)))))))) (tSeq (tRet (qTup (qCons (qCon (.str "BadNet")) (qCons (qTup (qCons (qCon (.int 1)) (qCons (qVar 4) (qNil)))) (qNil))))) (tNil)) (tNil)) (tSeq (tIf (qAndB (qAsB (qB2 pEq (qB2 pIx (qVar 5) (qCon (.int 2))) (qCon (.int 0)))) (qAsB (qB2 pIn (qTup (qCons (qB2 pIx (qVar 5) (qCon (.int 1))) (qCons (qB2 pIx (qVar 5) (qCon (.int 0))) (qCons (qCon (.int 0)) (qNil))))) (qSl pSlT (qVar 2) (qNo) (qSo (qVar 4)))))) (tSeq (tRet (qTup (qCons (qCon (.str "BadNet")) (qCons (qTup (qCons (qCon (.int 1)) (qCons (qVar 4) (qNil)))) (qNil))))) (tNil)) (tNil)) (tNil))))) (rg pre.length rest.length) [some (.sh T), some (.sh (.int n)), some (.sh (.tup ms)), some (.sh p), s4, s5, none] = .nx [some (.sh T), some (.sh (.int n)), some (.sh (.tup ms)), some (.sh p), s4', s5', none]
  | [], pre, s4, s5, hm, h4, h5, hp => ⟨s4, s5, h4, h5, rfl⟩
  | v :: rest, pre, s4, s5, hm, h4, h5, hp => by
    have n4 := nm_of_ok h4
    have n5 := nm_of_ok h5
    subst hm
    have i0 := ix_at (pre := pre) (rest := rest) (v := v)
    have i1 := cut_at (pre := pre) (rest := v :: rest)
    rw [List.length_cons, rg, forP_cons]
    cases hb : badHere n pre v with
    | true =>
      have ef : fb n pre (v :: rest) = some pre.length := by simp [fb, hb]
      rw [ef]
      refine ⟨[some (.sh T), some (.sh (.int n)), some (.sh (.tup (pre ++ v :: rest))), some (.sh p), some (.sh (.int pre.length)), some (.sh v), none], ?_⟩
      have hs : ptgt (.nm 4) (tSeq (tAsg (qB2 pIx (qVar 2) (qPk 4)) 5) (tSeq (tIf (qOrB (qNotB (qTru (qRun (.v (qVar 1) :: .v (qVar 5) :: []) P__law_xp_is_move))) (qAndB (qAsB (qB2 pGt (qVar 4) (qCon (.int 0)))) (qAsB (qB2 pLe (qVar 5) (qB2 pIx (qVar 2) (qB2 pSub (qVar 4) (qCon (.int 1)))))))) (tSeq (tRet (qTup (qCons (qCon (.str "BadNet")) (qCons (qTup (qCons (qCon (.int 1)) (qCons (qVar 4) (qNil)))) (qNil))))) (tNil)) (tNil)) (tSeq (tIf (qAndB (qAsB (qB2 pEq (qB2 pIx (qVar 5) (qCon (.int 2))) (qCon (.int 0)))) (qAsB (qB2 pIn (qTup (qCons (qB2 pIx (qVar 5) (qCon (.int 1))) (qCons (qB2 pIx (qVar 5) (qCon (.int 0))) (qCons (qCon (.int 0)) (qNil))))) (qSl pSlT (qVar 2) (qNo) (qSo (qVar 4)))))) (tSeq (tRet (qTup (qCons (qCon (.str "BadNet")) (qCons (qTup (qCons (qCon (.int 1)) (qCons (qVar 4) (qNil)))) (qNil))))) (tNil)) (tNil)) (tNil)))) (.int pre.length) [some (.sh T), some (.sh (.int n)), some (.sh (.tup (pre ++ v :: rest))), some (.sh p), s4, s5, none] =
        .ret (.tup [.str "BadNet", .tup [.int 1, .int pre.length]]) [some (.sh T), some (.sh (.int n)), some (.sh (.tup (pre ++ v :: rest))), some (.sh p), some (.sh (.int pre.length)), some (.sh v), none] := by
        cases hm : isMoveV n v with
        | false => simp [ptgt, n4, n5, is_move_l, hm, i0, PySem.sizeLine, pRunOf, entP, mkSl, outsP, slv, PSl.val, tSeq, tNil, tRet, tRetN, tRetO, tIf, tAsg, tAsgF, tDrop, tAsgT, tgP, tgPs, noMu, tPar, inst, tSt, setM, stv, qVar, qFrz, qPk, qCon, qB2, qB2s, qU, qNil, qCons, qTup, qLst, qCall, qIf, qTru, qNotB, qAndB, qOrB, qAnd, qOr, qNot, qAsB, qChain, qIsT, qSl, qNo, qSo, pOI, qRun, qArgs, mOk, isMs, isM, setOuts, outS, qMut, qMut0, tyP, ptru, ptoB, pTy, isTy, pLen, pInt, atI, ixN, pAdd, pSub, pI, pDiv, pMod, pNeg, pGt, pGe, pLt, pIsN, pNotN, pTup, pLst, pSet, pAppend, pExtend, qNewT, qNewK, qYes, ofP, PR.bind, PR.toFl, PFl.seq, PR.ne, tRaise]
        | true =>
          have t3 := isT3_of hm
          obtain ⟨d, i2, i3⟩ := pIx_2 t3
          obtain ⟨a, b, i4, i5, i6⟩ := inRev_pre t3 (pre := pre) fun v hv => isT3_of (hp v hv)
          rw [badHere_eq, hm] at hb
          rcases last_facts hp t3 with ⟨g1, g2⟩ | ⟨l, g1, g2, g3, g4⟩
          · have : pre = [] := by simpa using g2
            subst this
            simp at hb
          · have il := ix_last (rest := v :: rest) g1
            have hp0 : 0 < pre.length := List.length_pos_iff.mpr (by rintro rfl; cases g1)
            rw [g1] at hb
            cases hle : leV v l with
            | true => rw [hle] at g4; simp [ptgt, n4, n5, is_move_l, hm, i0, il, g4, hp0, PySem.sizeLine, pRunOf, entP, mkSl, outsP, slv, PSl.val, tSeq, tNil, tRet, tRetN, tRetO, tIf, tAsg, tAsgF, tDrop, tAsgT, tgP, tgPs, noMu, tPar, inst, tSt, setM, stv, qVar, qFrz, qPk, qCon, qB2, qB2s, qU, qNil, qCons, qTup, qLst, qCall, qIf, qTru, qNotB, qAndB, qOrB, qAnd, qOr, qNot, qAsB, qChain, qIsT, qSl, qNo, qSo, pOI, qRun, qArgs, mOk, isMs, isM, setOuts, outS, qMut, qMut0, tyP, ptru, ptoB, pTy, isTy, pLen, pInt, atI, ixN, pAdd, pSub, pI, pDiv, pMod, pNeg, pGt, pGe, pLt, pIsN, pNotN, pTup, pLst, pSet, pAppend, pExtend, qNewT, qNewK, qYes, ofP, PR.bind, PR.toFl, PFl.seq, PR.ne, tRaise]
            | false =>
              rw [hle] at g4
              simp only [hle, Bool.not_true, Bool.false_or, Bool.and_eq_true] at hb
              rw [hb.1] at i3
              rw [hb.2] at i6
              simp [ptgt, n4, n5, is_move_l, hm, i0, i1, il, g4, hp0, i2, i3, i4, i5, i6, PySem.sizeLine, pRunOf, entP, mkSl, outsP, slv, PSl.val, tSeq, tNil, tRet, tRetN, tRetO, tIf, tAsg, tAsgF, tDrop, tAsgT, tgP, tgPs, noMu, tPar, inst, tSt, setM, stv, qVar, qFrz, qPk, qCon, qB2, qB2s, qU, qNil, qCons, qTup, qLst, qCall, qIf, qTru, qNotB, qAndB, qOrB, qAnd, qOr, qNot, qAsB, qChain, qIsT, qSl, qNo, qSo, pOI, qRun, qArgs, mOk, isMs, isM, setOuts, outS, qMut, qMut0, tyP, ptru, ptoB, pTy, isTy, pLen, pInt, atI, ixN, pAdd, pSub, pI, pDiv, pMod, pNeg, pGt, pGe, pLt, pIsN, pNotN, pTup, pLst, pSet, pAppend, pExtend, qNewT, qNewK, qYes, ofP, PR.bind, PR.toFl, PFl.seq, PR.ne, tRaise]
      rw [hs]; rfl
    | false =>
      obtain ⟨h1, h2, h3⟩ := badHere_mv hb
      have ef : fb n pre (v :: rest) = fb n (pre ++ [v]) rest := by simp [fb, hb]
      rw [ef]
      have t3 := isT3_of h1
      have ih := law_loop n T p (pre ++ v :: rest) rest (pre ++ [v]) (some (.sh (.int pre.length))) (some (.sh v)) (by simp) rfl rfl (fun w hw => by
        rcases List.mem_append.mp hw with hw | hw
        · exact hp w hw
        · simp at hw; subst hw; exact h1)
      obtain ⟨d, i2, i3⟩ := pIx_2 t3
      obtain ⟨a, b, i4, i5, i6⟩ := inRev_pre t3 (pre := pre) fun v hv => isT3_of (hp v hv)
      have hs : ptgt (.nm 4) (tSeq (tAsg (qB2 pIx (qVar 2) (qPk 4)) 5) (tSeq (tIf (qOrB (qNotB (qTru (qRun (.v (qVar 1) :: .v (qVar 5) :: []) P__law_xp_is_move))) (qAndB (qAsB (qB2 pGt (qVar 4) (qCon (.int 0)))) (qAsB (qB2 pLe (qVar 5) (qB2 pIx (qVar 2) (qB2 pSub (qVar 4) (qCon (.int 1)))))))) (tSeq (tRet (qTup (qCons (qCon (.str "BadNet")) (qCons (qTup (qCons (qCon (.int 1)) (qCons (qVar 4) (qNil)))) (qNil))))) (tNil)) (tNil)) (tSeq (tIf (qAndB (qAsB (qB2 pEq (qB2 pIx (qVar 5) (qCon (.int 2))) (qCon (.int 0)))) (qAsB (qB2 pIn (qTup (qCons (qB2 pIx (qVar 5) (qCon (.int 1))) (qCons (qB2 pIx (qVar 5) (qCon (.int 0))) (qCons (qCon (.int 0)) (qNil))))) (qSl pSlT (qVar 2) (qNo) (qSo (qVar 4)))))) (tSeq (tRet (qTup (qCons (qCon (.str "BadNet")) (qCons (qTup (qCons (qCon (.int 1)) (qCons (qVar 4) (qNil)))) (qNil))))) (tNil)) (tNil)) (tNil)))) (.int pre.length) [some (.sh T), some (.sh (.int n)), some (.sh (.tup (pre ++ v :: rest))), some (.sh p), s4, s5, none] =
        .nx [some (.sh T), some (.sh (.int n)), some (.sh (.tup (pre ++ v :: rest))), some (.sh p), some (.sh (.int pre.length)), some (.sh v), none] := by
        rcases last_facts hp t3 with ⟨g1, g2⟩ | ⟨l, g1, g2, g3, g4⟩
        · have : pre = [] := by simpa using g2
          subst this
          cases hd : d0 v with
          | false => rw [hd] at i3; simp at i0; simp [ptgt, n4, n5, is_move_l, h1, i0, i2, i3, PySem.sizeLine, pRunOf, entP, mkSl, outsP, slv, PSl.val, tSeq, tNil, tRet, tRetN, tRetO, tIf, tAsg, tAsgF, tDrop, tAsgT, tgP, tgPs, noMu, tPar, inst, tSt, setM, stv, qVar, qFrz, qPk, qCon, qB2, qB2s, qU, qNil, qCons, qTup, qLst, qCall, qIf, qTru, qNotB, qAndB, qOrB, qAnd, qOr, qNot, qAsB, qChain, qIsT, qSl, qNo, qSo, pOI, qRun, qArgs, mOk, isMs, isM, setOuts, outS, qMut, qMut0, tyP, ptru, ptoB, pTy, isTy, pLen, pInt, atI, ixN, pAdd, pSub, pI, pDiv, pMod, pNeg, pGt, pGe, pLt, pIsN, pNotN, pTup, pLst, pSet, pAppend, pExtend, qNewT, qNewK, qYes, ofP, PR.bind, PR.toFl, PFl.seq, PR.ne, tRaise]
          | true => rw [hd] at i3; simp at i0 i1 i6; simp [ptgt, n4, n5, is_move_l, h1, i0, i1, i2, i3, i4, i5, i6, PySem.sizeLine, pRunOf, entP, mkSl, outsP, slv, PSl.val, tSeq, tNil, tRet, tRetN, tRetO, tIf, tAsg, tAsgF, tDrop, tAsgT, tgP, tgPs, noMu, tPar, inst, tSt, setM, stv, qVar, qFrz, qPk, qCon, qB2, qB2s, qU, qNil, qCons, qTup, qLst, qCall, qIf, qTru, qNotB, qAndB, qOrB, qAnd, qOr, qNot, qAsB, qChain, qIsT, qSl, qNo, qSo, pOI, qRun, qArgs, mOk, isMs, isM, setOuts, outS, qMut, qMut0, tyP, ptru, ptoB, pTy, isTy, pLen, pInt, atI, ixN, pAdd, pSub, pI, pDiv, pMod, pNeg, pGt, pGe, pLt, pIsN, pNotN, pTup, pLst, pSet, pAppend, pExtend, qNewT, qNewK, qYes, ofP, PR.bind, PR.toFl, PFl.seq, PR.ne, tRaise]
        · have il := ix_last (rest := v :: rest) g1
          have hp0 : 0 < pre.length := List.length_pos_iff.mpr (by rintro rfl; cases g1)
          rw [h2 l g1] at g4
          cases hd : d0 v with
          | false => rw [hd] at i3; simp [ptgt, n4, n5, is_move_l, h1, i0, il, g4, hp0, i2, i3, PySem.sizeLine, pRunOf, entP, mkSl, outsP, slv, PSl.val, tSeq, tNil, tRet, tRetN, tRetO, tIf, tAsg, tAsgF, tDrop, tAsgT, tgP, tgPs, noMu, tPar, inst, tSt, setM, stv, qVar, qFrz, qPk, qCon, qB2, qB2s, qU, qNil, qCons, qTup, qLst, qCall, qIf, qTru, qNotB, qAndB, qOrB, qAnd, qOr, qNot, qAsB, qChain, qIsT, qSl, qNo, qSo, pOI, qRun, qArgs, mOk, isMs, isM, setOuts, outS, qMut, qMut0, tyP, ptru, ptoB, pTy, isTy, pLen, pInt, atI, ixN, pAdd, pSub, pI, pDiv, pMod, pNeg, pGt, pGe, pLt, pIsN, pNotN, pTup, pLst, pSet, pAppend, pExtend, qNewT, qNewK, qYes, ofP, PR.bind, PR.toFl, PFl.seq, PR.ne, tRaise]
          | true =>
            rw [hd] at i3 h3
            rw [Bool.true_and] at h3
            rw [h3] at i6
            simp [ptgt, n4, n5, is_move_l, h1, i0, i1, il, g4, hp0, i2, i3, i4, i5, i6, PySem.sizeLine, pRunOf, entP, mkSl, outsP, slv, PSl.val, tSeq, tNil, tRet, tRetN, tRetO, tIf, tAsg, tAsgF, tDrop, tAsgT, tgP, tgPs, noMu, tPar, inst, tSt, setM, stv, qVar, qFrz, qPk, qCon, qB2, qB2s, qU, qNil, qCons, qTup, qLst, qCall, qIf, qTru, qNotB, qAndB, qOrB, qAnd, qOr, qNot, qAsB, qChain, qIsT, qSl, qNo, qSo, pOI, qRun, qArgs, mOk, isMs, isM, setOuts, outS, qMut, qMut0, tyP, ptru, ptoB, pTy, isTy, pLen, pInt, atI, ixN, pAdd, pSub, pI, pDiv, pMod, pNeg, pGt, pGe, pLt, pIsN, pNotN, pTup, pLst, pSet, pAppend, pExtend, qNewT, qNewK, qYes, ofP, PR.bind, PR.toFl, PFl.seq, PR.ne, tRaise]
      rw [hs, forKP_nx]
      rw [show pre.length + 1 = (pre ++ [v]).length by simp]
      exact ih
end K01

set_option maxRecDepth 100000
set_option maxHeartbeats 2000000
namespace K01
open G P
open L2 (atI ixN)
def thd (v : PV) : Int := match v with
  | .tup [_, _, .int d] => d
  | _ => 0
theorem fb_none {n : Int} : ∀ (rest pre : List PV), fb n pre rest = none → ∀ v ∈ rest, isMoveV n v = true
  | [], _, _, v, hv => by cases hv
  | w :: rest, pre, h, v, hv => by
    simp only [fb] at h
    split at h
    · cases h
    · rename_i hb
      rcases List.mem_cons.mp hv with rfl | hv
      · exact (badHere_mv (by simpa using hb)).1
      · exact fb_none rest _ h v hv
theorem thd_ints {n : Int} : ∀ {ms : List PV}, (∀ v ∈ ms, isMoveV n v = true) → pInts (ms.map fun v => PV.int (thd v)) = some (ms.map thd)
  | [], _ => rfl
  | v :: ms, h => by
    simp only [List.map_cons, pInts]
    rw [thd_ints fun w hw => h w (List.mem_cons_of_mem _ hw)]
    rfl
theorem thd_bound {n : Int} {v : PV} (h : isMoveV n v = true) : 0 ≤ thd v ∧ thd v ≤ 20 := by
  obtain ⟨a, b, d, rfl, _, _, _, _, h1, h2⟩ := isMove_inv h
  exact ⟨h1, h2⟩
def longest (ds : List Int) : Int := if ds = [] then 0 else maxL ds
theorem maxL_cons (x y : Int) (xs : List Int) : maxL (x :: y :: xs) = maxI x (maxL (y :: xs)) := rfl
theorem maxL_bound : ∀ {ds : List Int}, (∀ d ∈ ds, 0 ≤ d ∧ d ≤ 20) → ds ≠ [] → 0 ≤ maxL ds ∧ maxL ds ≤ 20
  | [], _, h => absurd rfl h
  | [x], h, _ => h x List.mem_cons_self
  | x :: y :: xs, h, _ => by
    have h1 := h x List.mem_cons_self
    have h2 := maxL_bound (ds := y :: xs) (fun d hd => h d (List.mem_cons_of_mem _ hd)) (by simp)
    rw [maxL_cons]
    unfold maxI
    split <;> omega
theorem longest_bound {ds : List Int} (h : ∀ d ∈ ds, 0 ≤ d ∧ d ≤ 20) : 0 ≤ longest ds ∧ longest ds ≤ 20 := by
  unfold longest
  split
  · exact ⟨Int.le_refl _, by decide⟩
  · exact maxL_bound h ‹_›
theorem longest_eq {ds : List Int} (h : ∀ d ∈ ds, 0 ≤ d ∧ d ≤ 20) : maxL (0 :: ds) = longest ds := by
  unfold longest
  cases ds with
  | nil => rfl
  | cons y xs =>
    have := maxL_bound h (by simp)
    rw [maxL_cons, if_neg (by simp)]
    unfold maxI
    split <;> omega
theorem ds_bound {n : Int} {ms : List PV} (h : ∀ v ∈ ms, isMoveV n v = true) : ∀ d ∈ ms.map thd, 0 ≤ d ∧ d ≤ 20 := fun d hd => by
  obtain ⟨v, hv, rfl⟩ := List.mem_map.mp hd
  exact thd_bound (h v hv)
theorem mul2 {L : Int} (h : 0 ≤ L ∧ L ≤ 20) : pMul (.int 2) (.int L) = some (.int (2 * L)) := by
  simp only [pMul]
  rw [if_pos]
  have h1 : L.natAbs.log2 ≤ 20 := Nat.le_trans (Nat.log2_le_self _) (by omega)
  have h2 : (2 : Int).natAbs.log2 ≤ 2 := Nat.log2_le_self _
  omega
theorem lc_third {n : Int} {ms : List PV} {a0 : Option PSl} (h : ∀ v ∈ ms, isMoveV n v = true) : lcP (.tp ((.nm 1) :: (.nm 2) :: (.nm 3) :: [])) qYes (qVar 3) [1, 2, 3] ms [a0, none, none, none] = .ok (ms.map fun v => PV.int (thd v)) [a0, none, none, none] := by
  refine lcP_map (fun v => PV.int (thd v)) ms fun v hv => ?_
  obtain ⟨a, b, d, rfl, _⟩ := isMove_inv (h v hv)
  exact ⟨[a0, some (.sh (.int a)), some (.sh (.int b)), some (.sh (.int d))], by simp [pRunOf, entP, mkSl, outsP, slv, PSl.val, tSeq, tNil, tRet, tRetN, tRetO, tIf, tAsg, tAsgF, tDrop, tAsgT, tgP, tgPs, noMu, tPar, inst, tSt, setM, stv, qVar, qFrz, qPk, qCon, qB2, qB2s, qU, qNil, qCons, qTup, qLst, qCall, qIf, qTru, qNotB, qAndB, qOrB, qAnd, qOr, qNot, qAsB, qChain, qIsT, qSl, qNo, qSo, pOI, qRun, qArgs, mOk, isMs, isM, setOuts, outS, qMut, qMut0, tyP, ptru, ptoB, pTy, isTy, pLen, pInt, pIx, atI, ixN, pAdd, pSub, pI, pDiv, pMod, pNeg, pGt, pGe, pLe, pLt, pIsN, pNotN, pTup, pLst, pSet, pAppend, pExtend, qNewT, qNewK, qYes, ofP, PR.bind, PR.toFl, PFl.seq, PR.ne, tRaise], by simp [pRunOf, entP, mkSl, outsP, slv, PSl.val, tSeq, tNil, tRet, tRetN, tRetO, tIf, tAsg, tAsgF, tDrop, tAsgT, tgP, tgPs, noMu, tPar, inst, tSt, setM, stv, qVar, qFrz, qPk, qCon, qB2, qB2s, qU, qNil, qCons, qTup, qLst, qCall, qIf, qTru, qNotB, qAndB, qOrB, qAnd, qOr, qNot, qAsB, qChain, qIsT, qSl, qNo, qSo, pOI, qRun, qArgs, mOk, isMs, isM, setOuts, outS, qMut, qMut0, tyP, ptru, ptoB, pTy, isTy, pLen, pInt, pIx, atI, ixN, pAdd, pSub, pI, pDiv, pMod, pNeg, pGt, pGe, pLe, pLt, pIsN, pNotN, pTup, pLst, pSet, pAppend, pExtend, qNewT, qNewK, qYes, ofP, PR.bind, PR.toFl, PFl.seq, PR.ne, tRaise], by simp [thd, pRunOf, entP, mkSl, outsP, slv, PSl.val, tSeq, tNil, tRet, tRetN, tRetO, tIf, tAsg, tAsgF, tDrop, tAsgT, tgP, tgPs, noMu, tPar, inst, tSt, setM, stv, qVar, qFrz, qPk, qCon, qB2, qB2s, qU, qNil, qCons, qTup, qLst, qCall, qIf, qTru, qNotB, qAndB, qOrB, qAnd, qOr, qNot, qAsB, qChain, qIsT, qSl, qNo, qSo, pOI, qRun, qArgs, mOk, isMs, isM, setOuts, outS, qMut, qMut0, tyP, ptru, ptoB, pTy, isTy, pLen, pInt, pIx, atI, ixN, pAdd, pSub, pI, pDiv, pMod, pNeg, pGt, pGe, pLe, pLt, pIsN, pNotN, pTup, pLst, pSet, pAppend, pExtend, qNewT, qNewK, qYes, ofP, PR.bind, PR.toFl, PFl.seq, PR.ne, tRaise], by simp [wipeP]⟩
theorem longest_p {n : Int} {ms : List PV} (h : ∀ v ∈ ms, isMoveV n v = true) (hl : ms.length ≤ 1000) : P_longest_time [.tup ms] = .ok (.int (longest (ms.map thd))) [] := by
  have hz : (ms.map fun v => PV.int (thd v)).length ≤ PySem.sizeLine := by rw [List.length_map]; exact Nat.le_trans hl (by decide)
  have hz' : ms.length ≤ PySem.sizeLine := Nat.le_trans hl (by decide)
  simp [P_longest_time, p_longest_time, qLc, qSeq, pItems, okOwn, wipeP, backP, lc_third h, hz', pMaxD, thd_ints h, longest, pRunOf, entP, mkSl, outsP, slv, PSl.val, tSeq, tNil, tRet, tRetN, tRetO, tIf, tAsg, tAsgF, tDrop, tAsgT, tgP, tgPs, noMu, tPar, inst, tSt, setM, stv, qVar, qFrz, qPk, qCon, qB2, qB2s, qU, qNil, qCons, qTup, qLst, qCall, qIf, qTru, qNotB, qAndB, qOrB, qAnd, qOr, qNot, qAsB, qChain, qIsT, qSl, qNo, qSo, pOI, qRun, qArgs, mOk, isMs, isM, setOuts, outS, qMut, qMut0, tyP, ptru, ptoB, pTy, isTy, pLen, pInt, pIx, atI, ixN, pAdd, pSub, pI, pDiv, pMod, pNeg, pGt, pGe, pLe, pLt, pIsN, pNotN, pTup, pLst, pSet, pAppend, pExtend, qNewT, qNewK, qYes, ofP, PR.bind, PR.toFl, PFl.seq, PR.ne, tRaise]
def perV (p : PV) (L : Int) : Bool := match p with
  | .int i => decide (0 ≤ i) && (decide (i ≤ 48) && (decide (i = 0) || decide (2 * L < i)))
  | _ => false
theorem perV_no {p : PV} {L : Int} (h : wholeV p 0 48 = false) : perV p L = false := by
  cases p <;> simp [perV, wholeV] at *
  intro h1 h2
  omega
theorem is_period_p {n : Int} {ms : List PV} (h : ∀ v ∈ ms, isMoveV n v = true) (hl : ms.length ≤ 1000) (p : PV) : P_is_period [.tup ms, p] = .ok (.bl (perV p (longest (ms.map thd)))) [] := by
  have hb := longest_bound (ds_bound h)
  have hm := mul2 hb
  cases hw : wholeV p 0 48 with
  | false => simp [P_is_period, p_is_period, whole_p, hw, perV_no hw, pRunOf, entP, mkSl, outsP, slv, PSl.val, tSeq, tNil, tRet, tRetN, tRetO, tIf, tAsg, tAsgF, tDrop, tAsgT, tgP, tgPs, noMu, tPar, inst, tSt, setM, stv, qVar, qFrz, qPk, qCon, qB2, qB2s, qU, qNil, qCons, qTup, qLst, qCall, qIf, qTru, qNotB, qAndB, qOrB, qAnd, qOr, qNot, qAsB, qChain, qIsT, qSl, qNo, qSo, pOI, qRun, qArgs, mOk, isMs, isM, setOuts, outS, qMut, qMut0, tyP, ptru, ptoB, pTy, isTy, pLen, pInt, pIx, atI, ixN, pAdd, pSub, pI, pDiv, pMod, pNeg, pGt, pGe, pLe, pLt, pIsN, pNotN, pTup, pLst, pSet, pAppend, pExtend, qNewT, qNewK, qYes, ofP, PR.bind, PR.toFl, PFl.seq, PR.ne, tRaise]
  | true =>
    obtain ⟨i, rfl, h1, h2⟩ := whole_int hw
    simp [P_is_period, p_is_period, whole_p, hw, longest_p h hl, hm, pEq_int, perV, pRunOf, entP, mkSl, outsP, slv, PSl.val, tSeq, tNil, tRet, tRetN, tRetO, tIf, tAsg, tAsgF, tDrop, tAsgT, tgP, tgPs, noMu, tPar, inst, tSt, setM, stv, qVar, qFrz, qPk, qCon, qB2, qB2s, qU, qNil, qCons, qTup, qLst, qCall, qIf, qTru, qNotB, qAndB, qOrB, qAnd, qOr, qNot, qAsB, qChain, qIsT, qSl, qNo, qSo, pOI, qRun, qArgs, mOk, isMs, isM, setOuts, outS, qMut, qMut0, tyP, ptru, ptoB, pTy, isTy, pLen, pInt, pIx, atI, ixN, pAdd, pSub, pI, pDiv, pMod, pNeg, pGt, pGe, pLe, pLt, pIsN, pNotN, pTup, pLst, pSet, pAppend, pExtend, qNewT, qNewK, qYes, ofP, PR.bind, PR.toFl, PFl.seq, PR.ne, tRaise]
    by_cases hi : i = 0
    · simp [hi]
    · simp [hi, h1, h2]
end K01

set_option maxRecDepth 100000
set_option maxHeartbeats 4000000
namespace K01
open G P
open L2 (atI ixN)
def bad (nm : PySem.Str) (w : PV) : PV := .tup [.str nm, w]
def faultV (t : PV) : PV := match t with
  | .tup [n, m, p] => match n with
    | .int k => if 0 ≤ k ∧ k ≤ 30 then match m with
        | .tup ms => if 60 < ms.length then bad "TooMany" (.int ms.length) else match fb k [] ms with
          | some j => bad "BadNet" (.tup [.int 1, .int j])
          | none => if perV p (longest (ms.map thd)) = true then .non else bad "BadNet" (.int 2)
        | _ => bad "BadNet" (.int 1)
      else bad "BadNet" (.int 0)
    | _ => bad "BadNet" (.int 0)
  | _ => bad "BadNet" (.int (-1))
theorem pTy_tup (xs : List PV) : pTy (.tup xs) = "tuple" := rfl
theorem isT_ne {v : PV} (h : ∀ ms, v ≠ .tup ms) : isTy "tuple" (pTy v) = false := by
  cases v <;> first | (exact absurd rfl (h _)) | simp [isTy, pTy]
theorem ne3 {n : Nat} (h : n ≠ 3) : pNe (.int (n : Int)) (.int 3) = some (.bl true) := by
  rw [pNe_int]
  have : ¬ ((n : Int) = 3) := by omega
  simp [this]
theorem form_of_p (t : PV) : P_form_of [t] = .ok (faultV t) [] := by
  by_cases ht : ∃ xs, t = .tup xs
  · obtain ⟨xs, rfl⟩ := ht
    by_cases hl : xs.length = 3
    · obtain ⟨n, m, p, rfl⟩ : ∃ n m p, xs = [n, m, p] := by
        match xs, hl with
        | [a, b, c], _ => exact ⟨a, b, c, rfl⟩
      cases hw : wholeV n 0 30 with
      | false =>
        have ef : faultV (.tup [n, m, p]) = bad "BadNet" (.int 0) := by
          unfold faultV
          cases n <;> simp [wholeV] at hw ⊢
          intro h1 h2; omega
        rw [ef]
        simp [P_form_of, p_form_of, pNe_int, whole_p, hw, bad, PySem.sizeLine, pRunOf, entP, mkSl, outsP, slv, PSl.val, tSeq, tNil, tRet, tRetN, tRetO, tIf, tAsg, tAsgF, tDrop, tAsgT, tgP, tgPs, noMu, tPar, inst, tSt, setM, stv, qVar, qFrz, qPk, qCon, qB2, qB2s, qU, qNil, qCons, qTup, qLst, qCall, qIf, qTru, qNotB, qAndB, qOrB, qAnd, qOr, qNot, qAsB, qChain, qIsT, qSl, qNo, qSo, pOI, qRun, qArgs, mOk, isMs, isM, setOuts, outS, qMut, qMut0, tyP, ptru, ptoB, pTy, isTy, pLen, pInt, pIx, atI, ixN, pAdd, pSub, pI, pDiv, pMod, pNeg, pGt, pGe, pLe, pLt, pIsN, pNotN, pTup, pLst, pSet, pAppend, pExtend, qNewT, qNewK, qYes, ofP, PR.bind, PR.toFl, PFl.seq, PR.ne, tRaise]
      | true =>
        obtain ⟨k, rfl, h1, h2⟩ := whole_int hw
        by_cases hm : ∃ ms, m = .tup ms
        · obtain ⟨ms, rfl⟩ := hm
          by_cases hz : 60 < ms.length
          · have hz' : (60 : Int) < (ms.length : Int) := by omega
            have ef : faultV (.tup [.int k, .tup ms, p]) = bad "TooMany" (.int ms.length) := by simp [faultV, h1, h2, hz]
            rw [ef]
            simp [P_form_of, p_form_of, pNe_int, whole_p, hw, hz, hz', bad, PySem.sizeLine, pRunOf, entP, mkSl, outsP, slv, PSl.val, tSeq, tNil, tRet, tRetN, tRetO, tIf, tAsg, tAsgF, tDrop, tAsgT, tgP, tgPs, noMu, tPar, inst, tSt, setM, stv, qVar, qFrz, qPk, qCon, qB2, qB2s, qU, qNil, qCons, qTup, qLst, qCall, qIf, qTru, qNotB, qAndB, qOrB, qAnd, qOr, qNot, qAsB, qChain, qIsT, qSl, qNo, qSo, pOI, qRun, qArgs, mOk, isMs, isM, setOuts, outS, qMut, qMut0, tyP, ptru, ptoB, pTy, isTy, pLen, pInt, pIx, atI, ixN, pAdd, pSub, pI, pDiv, pMod, pNeg, pGt, pGe, pLe, pLt, pIsN, pNotN, pTup, pLst, pSet, pAppend, pExtend, qNewT, qNewK, qYes, ofP, PR.bind, PR.toFl, PFl.seq, PR.ne, tRaise]
          · have hz' : ¬ (60 : Int) < (ms.length : Int) := by omega
            have e1 := first_bad_p k ms (by omega)
            cases hf : fb k [] ms with
            | some j =>
              rw [hf] at e1
              have ef : faultV (.tup [.int k, .tup ms, p]) = bad "BadNet" (.tup [.int 1, .int j]) := by simp [faultV, h1, h2, hz, hf]
              rw [ef]
              simp [fbV] at e1
              simp [P_form_of, p_form_of, pNe_int, whole_p, hw, hz, hz', e1, bad, PySem.sizeLine, pRunOf, entP, mkSl, outsP, slv, PSl.val, tSeq, tNil, tRet, tRetN, tRetO, tIf, tAsg, tAsgF, tDrop, tAsgT, tgP, tgPs, noMu, tPar, inst, tSt, setM, stv, qVar, qFrz, qPk, qCon, qB2, qB2s, qU, qNil, qCons, qTup, qLst, qCall, qIf, qTru, qNotB, qAndB, qOrB, qAnd, qOr, qNot, qAsB, qChain, qIsT, qSl, qNo, qSo, pOI, qRun, qArgs, mOk, isMs, isM, setOuts, outS, qMut, qMut0, tyP, ptru, ptoB, pTy, isTy, pLen, pInt, pIx, atI, ixN, pAdd, pSub, pI, pDiv, pMod, pNeg, pGt, pGe, pLe, pLt, pIsN, pNotN, pTup, pLst, pSet, pAppend, pExtend, qNewT, qNewK, qYes, ofP, PR.bind, PR.toFl, PFl.seq, PR.ne, tRaise]
            | none =>
              rw [hf] at e1
              have hv := fb_none ms [] hf
              have e2 := is_period_p hv (by omega) p
              have ef : faultV (.tup [.int k, .tup ms, p]) = if perV p (longest (ms.map thd)) = true then .non else bad "BadNet" (.int 2) := by simp [faultV, h1, h2, hz, hf]
              rw [ef]
              simp [fbV] at e1
              cases hp : perV p (longest (ms.map thd)) <;> (rw [hp] at e2; simp [P_form_of, p_form_of, pNe_int, whole_p, hw, hz, hz', e1, e2, bad, PySem.sizeLine, pRunOf, entP, mkSl, outsP, slv, PSl.val, tSeq, tNil, tRet, tRetN, tRetO, tIf, tAsg, tAsgF, tDrop, tAsgT, tgP, tgPs, noMu, tPar, inst, tSt, setM, stv, qVar, qFrz, qPk, qCon, qB2, qB2s, qU, qNil, qCons, qTup, qLst, qCall, qIf, qTru, qNotB, qAndB, qOrB, qAnd, qOr, qNot, qAsB, qChain, qIsT, qSl, qNo, qSo, pOI, qRun, qArgs, mOk, isMs, isM, setOuts, outS, qMut, qMut0, tyP, ptru, ptoB, pTy, isTy, pLen, pInt, pIx, atI, ixN, pAdd, pSub, pI, pDiv, pMod, pNeg, pGt, pGe, pLe, pLt, pIsN, pNotN, pTup, pLst, pSet, pAppend, pExtend, qNewT, qNewK, qYes, ofP, PR.bind, PR.toFl, PFl.seq, PR.ne, tRaise])
        · have hn : ∀ ms, m ≠ .tup ms := fun ms e => hm ⟨ms, e⟩
          have ef : faultV (.tup [.int k, m, p]) = bad "BadNet" (.int 1) := by
            cases m <;> first | exact absurd rfl (hn _) | simp [faultV, h1, h2]
          have et := isT_ne hn
          rw [ef]
          simp [isTy] at et
          simp [P_form_of, p_form_of, pNe_int, whole_p, hw, et, pTy_tup, bad, PySem.sizeLine, pRunOf, entP, mkSl, outsP, slv, PSl.val, tSeq, tNil, tRet, tRetN, tRetO, tIf, tAsg, tAsgF, tDrop, tAsgT, tgP, tgPs, noMu, tPar, inst, tSt, setM, stv, qVar, qFrz, qPk, qCon, qB2, qB2s, qU, qNil, qCons, qTup, qLst, qCall, qIf, qTru, qNotB, qAndB, qOrB, qAnd, qOr, qNot, qAsB, qChain, qIsT, qSl, qNo, qSo, pOI, qRun, qArgs, mOk, isMs, isM, setOuts, outS, qMut, qMut0, tyP, ptru, ptoB, isTy, pLen, pInt, pIx, atI, ixN, pAdd, pSub, pI, pDiv, pMod, pNeg, pGt, pGe, pLe, pLt, pIsN, pNotN, pTup, pLst, pSet, pAppend, pExtend, qNewT, qNewK, qYes, ofP, PR.bind, PR.toFl, PFl.seq, PR.ne, tRaise]
    · have ef : faultV (.tup xs) = bad "BadNet" (.int (-1)) := by
        unfold faultV
        match xs, hl with
        | [], _ => rfl
        | [_], _ => rfl
        | [_, _], _ => rfl
        | _ :: _ :: _ :: _ :: _, _ => rfl
      rw [ef]
      simp [P_form_of, p_form_of, ne3 hl, bad, PySem.sizeLine, pRunOf, entP, mkSl, outsP, slv, PSl.val, tSeq, tNil, tRet, tRetN, tRetO, tIf, tAsg, tAsgF, tDrop, tAsgT, tgP, tgPs, noMu, tPar, inst, tSt, setM, stv, qVar, qFrz, qPk, qCon, qB2, qB2s, qU, qNil, qCons, qTup, qLst, qCall, qIf, qTru, qNotB, qAndB, qOrB, qAnd, qOr, qNot, qAsB, qChain, qIsT, qSl, qNo, qSo, pOI, qRun, qArgs, mOk, isMs, isM, setOuts, outS, qMut, qMut0, tyP, ptru, ptoB, pTy, isTy, pLen, pInt, pIx, atI, ixN, pAdd, pSub, pI, pDiv, pMod, pNeg, pGt, pGe, pLe, pLt, pIsN, pNotN, pTup, pLst, pSet, pAppend, pExtend, qNewT, qNewK, qYes, ofP, PR.bind, PR.toFl, PFl.seq, PR.ne, tRaise]
  · have hn : ∀ ms, t ≠ .tup ms := fun ms e => ht ⟨ms, e⟩
    have ef : faultV t = bad "BadNet" (.int (-1)) := by
      cases t <;> first | exact absurd rfl (hn _) | rfl
    have et := isT_ne hn
    rw [ef]
    simp [isTy] at et
    simp [P_form_of, p_form_of, et, bad, PySem.sizeLine, pRunOf, entP, mkSl, outsP, slv, PSl.val, tSeq, tNil, tRet, tRetN, tRetO, tIf, tAsg, tAsgF, tDrop, tAsgT, tgP, tgPs, noMu, tPar, inst, tSt, setM, stv, qVar, qFrz, qPk, qCon, qB2, qB2s, qU, qNil, qCons, qTup, qLst, qCall, qIf, qTru, qNotB, qAndB, qOrB, qAnd, qOr, qNot, qAsB, qChain, qIsT, qSl, qNo, qSo, pOI, qRun, qArgs, mOk, isMs, isM, setOuts, outS, qMut, qMut0, tyP, ptru, ptoB, isTy, pLen, pInt, pIx, atI, ixN, pAdd, pSub, pI, pDiv, pMod, pNeg, pGt, pGe, pLe, pLt, pIsN, pNotN, pTup, pLst, pSet, pAppend, pExtend, qNewT, qNewK, qYes, ofP, PR.bind, PR.toFl, PFl.seq, PR.ne, tRaise]
theorem lc_thd {n : Int} {ms : List PV} {a0 a1 a2 a3 a4 : Option PSl} (h : ∀ v ∈ ms, isMoveV n v = true) : lcP (.nm 5) qYes (qB2 pIx (qVar 5) (qCon (.int 2))) [5] ms [a0, a1, a2, a3, a4, none, none] = .ok (ms.map fun v => PV.int (thd v)) [a0, a1, a2, a3, a4, none, none] := by
  refine lcP_map (fun v => PV.int (thd v)) ms fun v hv => ?_
  obtain ⟨a, b, d, rfl, _⟩ := isMove_inv (h v hv)
  exact ⟨[a0, a1, a2, a3, a4, some (.sh (.tup [.int a, .int b, .int d])), none], by simp [pRunOf, entP, mkSl, outsP, slv, PSl.val, tSeq, tNil, tRet, tRetN, tRetO, tIf, tAsg, tAsgF, tDrop, tAsgT, tgP, tgPs, noMu, tPar, inst, tSt, setM, stv, qVar, qFrz, qPk, qCon, qB2, qB2s, qU, qNil, qCons, qTup, qLst, qCall, qIf, qTru, qNotB, qAndB, qOrB, qAnd, qOr, qNot, qAsB, qChain, qIsT, qSl, qNo, qSo, pOI, qRun, qArgs, mOk, isMs, isM, setOuts, outS, qMut, qMut0, tyP, ptru, ptoB, pTy, isTy, pLen, pInt, pIx, atI, ixN, pAdd, pSub, pI, pDiv, pMod, pNeg, pGt, pGe, pLe, pLt, pIsN, pNotN, pTup, pLst, pSet, pAppend, pExtend, qNewT, qNewK, qYes, ofP, PR.bind, PR.toFl, PFl.seq, PR.ne, tRaise], by simp [pRunOf, entP, mkSl, outsP, slv, PSl.val, tSeq, tNil, tRet, tRetN, tRetO, tIf, tAsg, tAsgF, tDrop, tAsgT, tgP, tgPs, noMu, tPar, inst, tSt, setM, stv, qVar, qFrz, qPk, qCon, qB2, qB2s, qU, qNil, qCons, qTup, qLst, qCall, qIf, qTru, qNotB, qAndB, qOrB, qAnd, qOr, qNot, qAsB, qChain, qIsT, qSl, qNo, qSo, pOI, qRun, qArgs, mOk, isMs, isM, setOuts, outS, qMut, qMut0, tyP, ptru, ptoB, pTy, isTy, pLen, pInt, pIx, atI, ixN, pAdd, pSub, pI, pDiv, pMod, pNeg, pGt, pGe, pLe, pLt, pIsN, pNotN, pTup, pLst, pSet, pAppend, pExtend, qNewT, qNewK, qYes, ofP, PR.bind, PR.toFl, PFl.seq, PR.ne, tRaise], by simp [thd, pRunOf, entP, mkSl, outsP, slv, PSl.val, tSeq, tNil, tRet, tRetN, tRetO, tIf, tAsg, tAsgF, tDrop, tAsgT, tgP, tgPs, noMu, tPar, inst, tSt, setM, stv, qVar, qFrz, qPk, qCon, qB2, qB2s, qU, qNil, qCons, qTup, qLst, qCall, qIf, qTru, qNotB, qAndB, qOrB, qAnd, qOr, qNot, qAsB, qChain, qIsT, qSl, qNo, qSo, pOI, qRun, qArgs, mOk, isMs, isM, setOuts, outS, qMut, qMut0, tyP, ptru, ptoB, pTy, isTy, pLen, pInt, pIx, atI, ixN, pAdd, pSub, pI, pDiv, pMod, pNeg, pGt, pGe, pLe, pLt, pIsN, pNotN, pTup, pLst, pSet, pAppend, pExtend, qNewT, qNewK, qYes, ofP, PR.bind, PR.toFl, PFl.seq, PR.ne, tRaise], by simp [wipeP]⟩
theorem fault_p (t : PV) : P__law_xp_net_fault [t] = .ok (faultV t) [] := by
  by_cases ht : ∃ xs, t = .tup xs
  · obtain ⟨xs, rfl⟩ := ht
    by_cases hl : xs.length = 3
    · obtain ⟨n, m, p, rfl⟩ : ∃ n m p, xs = [n, m, p] := by
        match xs, hl with
        | [a, b, c], _ => exact ⟨a, b, c, rfl⟩
      cases hw : wholeV n 0 30 with
      | false =>
        have ef : faultV (.tup [n, m, p]) = bad "BadNet" (.int 0) := by
          unfold faultV
          cases n <;> simp [wholeV] at hw ⊢
          intro h1 h2; omega
        rw [ef]
        simp [P__law_xp_net_fault, p__law_xp_net_fault, pNe_int, in_p, hw, bad, PySem.sizeLine, pRunOf, entP, mkSl, outsP, slv, PSl.val, tSeq, tNil, tRet, tRetN, tRetO, tIf, tAsg, tAsgF, tDrop, tAsgT, tgP, tgPs, noMu, tPar, inst, tSt, setM, stv, qVar, qFrz, qPk, qCon, qB2, qB2s, qU, qNil, qCons, qTup, qLst, qCall, qIf, qTru, qNotB, qAndB, qOrB, qAnd, qOr, qNot, qAsB, qChain, qIsT, qSl, qNo, qSo, pOI, qRun, qArgs, mOk, isMs, isM, setOuts, outS, qMut, qMut0, tyP, ptru, ptoB, pTy, isTy, pLen, pInt, pIx, atI, ixN, pAdd, pSub, pI, pDiv, pMod, pNeg, pGt, pGe, pLe, pLt, pIsN, pNotN, pTup, pLst, pSet, pAppend, pExtend, qNewT, qNewK, qYes, ofP, PR.bind, PR.toFl, PFl.seq, PR.ne, tRaise]
      | true =>
        obtain ⟨k, rfl, h1, h2⟩ := whole_int hw
        by_cases hm : ∃ ms, m = .tup ms
        · obtain ⟨ms, rfl⟩ := hm
          by_cases hz : 60 < ms.length
          · have hz' : (60 : Int) < (ms.length : Int) := by omega
            have ef : faultV (.tup [.int k, .tup ms, p]) = bad "TooMany" (.int ms.length) := by simp [faultV, h1, h2, hz]
            rw [ef]
            simp [P__law_xp_net_fault, p__law_xp_net_fault, pNe_int, in_p, hw, hz, hz', bad, PySem.sizeLine, pRunOf, entP, mkSl, outsP, slv, PSl.val, tSeq, tNil, tRet, tRetN, tRetO, tIf, tAsg, tAsgF, tDrop, tAsgT, tgP, tgPs, noMu, tPar, inst, tSt, setM, stv, qVar, qFrz, qPk, qCon, qB2, qB2s, qU, qNil, qCons, qTup, qLst, qCall, qIf, qTru, qNotB, qAndB, qOrB, qAnd, qOr, qNot, qAsB, qChain, qIsT, qSl, qNo, qSo, pOI, qRun, qArgs, mOk, isMs, isM, setOuts, outS, qMut, qMut0, tyP, ptru, ptoB, pTy, isTy, pLen, pInt, pIx, atI, ixN, pAdd, pSub, pI, pDiv, pMod, pNeg, pGt, pGe, pLe, pLt, pIsN, pNotN, pTup, pLst, pSet, pAppend, pExtend, qNewT, qNewK, qYes, ofP, PR.bind, PR.toFl, PFl.seq, PR.ne, tRaise]
          · have hz' : ¬ (60 : Int) < (ms.length : Int) := by omega
            have er : qR1 (qU pLen (qPk 2)) [some (.sh (.tup [.int k, .tup ms, p])), some (.sh (.int k)), some (.sh (.tup ms)), some (.sh p), none, none, none] = .ok (rg 0 ms.length) [some (.sh (.tup [.int k, .tup ms, p])), some (.sh (.int k)), some (.sh (.tup ms)), some (.sh p), none, none, none] := by
              have := pR1_nat (n := ms.length) (by omega)
              rw [rng_rg] at this
              simp [qR1, this, pRunOf, entP, mkSl, outsP, slv, PSl.val, tSeq, tNil, tRet, tRetN, tRetO, tIf, tAsg, tAsgF, tDrop, tAsgT, tgP, tgPs, noMu, tPar, inst, tSt, setM, stv, qVar, qFrz, qPk, qCon, qB2, qB2s, qU, qNil, qCons, qTup, qLst, qCall, qIf, qTru, qNotB, qAndB, qOrB, qAnd, qOr, qNot, qAsB, qChain, qIsT, qSl, qNo, qSo, pOI, qRun, qArgs, mOk, isMs, isM, setOuts, outS, qMut, qMut0, tyP, ptru, ptoB, pTy, isTy, pLen, pInt, pIx, atI, ixN, pAdd, pSub, pI, pDiv, pMod, pNeg, pGt, pGe, pLe, pLt, pIsN, pNotN, pTup, pLst, pSet, pAppend, pExtend, qNewT, qNewK, qYes, ofP, PR.bind, PR.toFl, PFl.seq, PR.ne, tRaise]
            have e1 := law_loop k (.tup [.int k, .tup ms, p]) p ms ms [] none none rfl rfl rfl (by simp)
            cases hf : fb k [] ms with
            | some j =>
              rw [hf] at e1
              obtain ⟨π', e1⟩ := e1
              have ef : faultV (.tup [.int k, .tup ms, p]) = bad "BadNet" (.tup [.int 1, .int j]) := by simp [faultV, h1, h2, hz, hf]
              rw [ef]
              simp at e1
              simp [P__law_xp_net_fault, p__law_xp_net_fault, pNe_int, in_p, hw, hz, hz', tFor, er, e1, bad, PySem.sizeLine, pRunOf, entP, mkSl, outsP, slv, PSl.val, tSeq, tNil, tRet, tRetN, tRetO, tIf, tAsg, tAsgF, tDrop, tAsgT, tgP, tgPs, noMu, tPar, inst, tSt, setM, stv, qVar, qFrz, qPk, qCon, qB2, qB2s, qU, qNil, qCons, qTup, qLst, qCall, qIf, qTru, qNotB, qAndB, qOrB, qAnd, qOr, qNot, qAsB, qChain, qIsT, qSl, qNo, qSo, pOI, qRun, qArgs, mOk, isMs, isM, setOuts, outS, qMut, qMut0, tyP, ptru, ptoB, pTy, isTy, pLen, pInt, pIx, atI, ixN, pAdd, pSub, pI, pDiv, pMod, pNeg, pGt, pGe, pLe, pLt, pIsN, pNotN, pTup, pLst, pSet, pAppend, pExtend, qNewT, qNewK, qYes, ofP, PR.bind, PR.toFl, PFl.seq, PR.ne, tRaise]
            | none =>
              rw [hf] at e1
              obtain ⟨s4, s5, o4, o5, e1⟩ := e1
              have hv := fb_none ms [] hf
              have hb := longest_bound (ds_bound hv)
              have el := longest_eq (ds_bound hv)
              have hm2 := mul2 hb
              have ef : faultV (.tup [.int k, .tup ms, p]) = if perV p (longest (ms.map thd)) = true then .non else bad "BadNet" (.int 2) := by simp [faultV, h1, h2, hz, hf]
              rw [ef]
              simp at e1
              have hz2 : ms.length ≤ PySem.sizeLine := Nat.le_trans (show ms.length ≤ 60 by omega) (by decide)
              have hz3 : 1 + ms.length ≤ PySem.sizeLine := Nat.le_trans (show 1 + ms.length ≤ 61 by omega) (by decide)
              have one : 1 ≤ PySem.sizeLine := by decide
              have two : 2 ≤ PySem.sizeLine := by decide
              have emx : pMax1 (.lst (.int 0 :: ms.map fun v => PV.int (thd v))) = some (.int (longest (ms.map thd))) := by
                simp only [pMax1, pInts, thd_ints hv, Option.map_some]
                rw [if_pos (by simp), el]
              cases hw2 : wholeV p 0 48 with
              | false => simp [P__law_xp_net_fault, p__law_xp_net_fault, pNe_int, in_p, hw, hz, hz', tFor, er, e1, qLc, qSeq, pItems, okOwn, o4, o5, wipeP, backP, lc_thd hv, hz2, hz3, one, two, emx, pAddL, hw2, perV_no hw2, bad, pRunOf, entP, mkSl, outsP, slv, PSl.val, tSeq, tNil, tRet, tRetN, tRetO, tIf, tAsg, tAsgF, tDrop, tAsgT, tgP, tgPs, noMu, tPar, inst, tSt, setM, stv, qVar, qFrz, qPk, qCon, qB2, qB2s, qU, qNil, qCons, qTup, qLst, qCall, qIf, qTru, qNotB, qAndB, qOrB, qAnd, qOr, qNot, qAsB, qChain, qIsT, qSl, qNo, qSo, pOI, qRun, qArgs, mOk, isMs, isM, setOuts, outS, qMut, qMut0, tyP, ptru, ptoB, pTy, isTy, pLen, pInt, pIx, atI, ixN, pAdd, pSub, pI, pDiv, pMod, pNeg, pGt, pGe, pLe, pLt, pIsN, pNotN, pTup, pLst, pSet, pAppend, pExtend, qNewT, qNewK, qYes, ofP, PR.bind, PR.toFl, PFl.seq, PR.ne, tRaise]
              | true =>
                obtain ⟨i, rfl, q1, q2⟩ := whole_int hw2
                have hper : perV (.int i) (longest (ms.map thd)) = !(decide (0 < i) && decide (i ≤ 2 * longest (ms.map thd))) := by
                  simp only [perV]
                  rw [Bool.eq_iff_iff]
                  simp
                  omega
                simp [P__law_xp_net_fault, p__law_xp_net_fault, pNe_int, in_p, hw, hz, hz', tFor, er, e1, qLc, qSeq, pItems, okOwn, o4, o5, wipeP, backP, lc_thd hv, hz2, hz3, one, two, emx, pAddL, hw2, hper, hm2, bad, pRunOf, entP, mkSl, outsP, slv, PSl.val, tSeq, tNil, tRet, tRetN, tRetO, tIf, tAsg, tAsgF, tDrop, tAsgT, tgP, tgPs, noMu, tPar, inst, tSt, setM, stv, qVar, qFrz, qPk, qCon, qB2, qB2s, qU, qNil, qCons, qTup, qLst, qCall, qIf, qTru, qNotB, qAndB, qOrB, qAnd, qOr, qNot, qAsB, qChain, qIsT, qSl, qNo, qSo, pOI, qRun, qArgs, mOk, isMs, isM, setOuts, outS, qMut, qMut0, tyP, ptru, ptoB, pTy, isTy, pLen, pInt, pIx, atI, ixN, pAdd, pSub, pI, pDiv, pMod, pNeg, pGt, pGe, pLe, pLt, pIsN, pNotN, pTup, pLst, pSet, pAppend, pExtend, qNewT, qNewK, qYes, ofP, PR.bind, PR.toFl, PFl.seq, PR.ne, tRaise]
                by_cases hi : 0 < i
                · by_cases hi2 : i ≤ 2 * longest (ms.map thd)
                  · have : ¬ 2 * longest (ms.map thd) < i := by omega
                    simp [hi, hi2, this]
                  · have : 2 * longest (ms.map thd) < i := by omega
                    simp [hi, hi2, this]
                · have : i ≤ 0 := by omega
                  simp [hi, this]
        · have hn : ∀ ms, m ≠ .tup ms := fun ms e => hm ⟨ms, e⟩
          have ef : faultV (.tup [.int k, m, p]) = bad "BadNet" (.int 1) := by
            cases m <;> first | exact absurd rfl (hn _) | simp [faultV, h1, h2]
          have et := isT_ne hn
          rw [ef]
          simp [isTy] at et
          simp [P__law_xp_net_fault, p__law_xp_net_fault, pNe_int, in_p, hw, et, pTy_tup, bad, PySem.sizeLine, pRunOf, entP, mkSl, outsP, slv, PSl.val, tSeq, tNil, tRet, tRetN, tRetO, tIf, tAsg, tAsgF, tDrop, tAsgT, tgP, tgPs, noMu, tPar, inst, tSt, setM, stv, qVar, qFrz, qPk, qCon, qB2, qB2s, qU, qNil, qCons, qTup, qLst, qCall, qIf, qTru, qNotB, qAndB, qOrB, qAnd, qOr, qNot, qAsB, qChain, qIsT, qSl, qNo, qSo, pOI, qRun, qArgs, mOk, isMs, isM, setOuts, outS, qMut, qMut0, tyP, ptru, ptoB, isTy, pLen, pInt, pIx, atI, ixN, pAdd, pSub, pI, pDiv, pMod, pNeg, pGt, pGe, pLe, pLt, pIsN, pNotN, pTup, pLst, pSet, pAppend, pExtend, qNewT, qNewK, qYes, ofP, PR.bind, PR.toFl, PFl.seq, PR.ne, tRaise]
    · have ef : faultV (.tup xs) = bad "BadNet" (.int (-1)) := by
        unfold faultV
        match xs, hl with
        | [], _ => rfl
        | [_], _ => rfl
        | [_, _], _ => rfl
        | _ :: _ :: _ :: _ :: _, _ => rfl
      rw [ef]
      simp [P__law_xp_net_fault, p__law_xp_net_fault, ne3 hl, bad, PySem.sizeLine, pRunOf, entP, mkSl, outsP, slv, PSl.val, tSeq, tNil, tRet, tRetN, tRetO, tIf, tAsg, tAsgF, tDrop, tAsgT, tgP, tgPs, noMu, tPar, inst, tSt, setM, stv, qVar, qFrz, qPk, qCon, qB2, qB2s, qU, qNil, qCons, qTup, qLst, qCall, qIf, qTru, qNotB, qAndB, qOrB, qAnd, qOr, qNot, qAsB, qChain, qIsT, qSl, qNo, qSo, pOI, qRun, qArgs, mOk, isMs, isM, setOuts, outS, qMut, qMut0, tyP, ptru, ptoB, pTy, isTy, pLen, pInt, pIx, atI, ixN, pAdd, pSub, pI, pDiv, pMod, pNeg, pGt, pGe, pLe, pLt, pIsN, pNotN, pTup, pLst, pSet, pAppend, pExtend, qNewT, qNewK, qYes, ofP, PR.bind, PR.toFl, PFl.seq, PR.ne, tRaise]
  · have hn : ∀ ms, t ≠ .tup ms := fun ms e => ht ⟨ms, e⟩
    have ef : faultV t = bad "BadNet" (.int (-1)) := by
      cases t <;> first | exact absurd rfl (hn _) | rfl
    have et := isT_ne hn
    rw [ef]
    simp [isTy] at et
    simp [P__law_xp_net_fault, p__law_xp_net_fault, et, bad, PySem.sizeLine, pRunOf, entP, mkSl, outsP, slv, PSl.val, tSeq, tNil, tRet, tRetN, tRetO, tIf, tAsg, tAsgF, tDrop, tAsgT, tgP, tgPs, noMu, tPar, inst, tSt, setM, stv, qVar, qFrz, qPk, qCon, qB2, qB2s, qU, qNil, qCons, qTup, qLst, qCall, qIf, qTru, qNotB, qAndB, qOrB, qAnd, qOr, qNot, qAsB, qChain, qIsT, qSl, qNo, qSo, pOI, qRun, qArgs, mOk, isMs, isM, setOuts, outS, qMut, qMut0, tyP, ptru, ptoB, isTy, pLen, pInt, pIx, atI, ixN, pAdd, pSub, pI, pDiv, pMod, pNeg, pGt, pGe, pLe, pLt, pIsN, pNotN, pTup, pLst, pSet, pAppend, pExtend, qNewT, qNewK, qYes, ofP, PR.bind, PR.toFl, PFl.seq, PR.ne, tRaise]
end K01

set_option maxRecDepth 100000
set_option maxHeartbeats 4000000
namespace K01
open G P
open L2 (atI ixN)
theorem eq_bt : pEq (.str "BadNet") (.str "TooMany") = some (.bl false) := by unfold pEq; rw [show pEqB (.str "BadNet") (.str "TooMany") = some false by decide +kernel]; rfl
theorem eq_tt : pEq (.str "TooMany") (.str "TooMany") = some (.bl true) := by unfold pEq; rw [show pEqB (.str "TooMany") (.str "TooMany") = some true by decide +kernel]; rfl
theorem nm1 : nm__law_n1_heard 1 = "BadNet" := by decide +kernel
theorem nm2 : nm__law_n1_heard 2 = "TooMany" := by decide +kernel
def smallW (w : PV) : Prop := (∃ i : Int, w = .int i) ∨ ∃ i : Int, w = .tup [.int 1, .int i]
theorem fault_cases (t : PV) : faultV t = .non ∨ (∃ w, smallW w ∧ faultV t = bad "BadNet" w) ∨ ∃ w, smallW w ∧ faultV t = bad "TooMany" w := by
  unfold faultV
  repeat' split
  all_goals first
    | exact .inl rfl
    | exact .inr (.inl ⟨_, .inl ⟨_, rfl⟩, rfl⟩)
    | exact .inr (.inl ⟨_, .inr ⟨_, rfl⟩, rfl⟩)
    | exact .inr (.inr ⟨_, .inl ⟨_, rfl⟩, rfl⟩)
theorem gd_small {w : PV} (h : smallW w) : Gd 2 w ∧ wt w ≤ 3 := by
  rcases h with ⟨i, rfl⟩ | ⟨i, rfl⟩
  · exact ⟨trivial, by simp [wt]⟩
  · exact ⟨by intro x hx; simp at hx; rcases hx with rfl | rfl <;> trivial, by simp [wt, wtL]⟩
theorem made_ok {t : PV} (h : faultV t = .non) : P_made_net [t] = .ok t [] := by
  simp [P_made_net, p_made_net, form_of_p, h, pRunOf, entP, mkSl, outsP, slv, PSl.val, tSeq, tNil, tRet, tRetN, tRetO, tIf, tAsg, tAsgF, tDrop, tAsgT, tgP, tgPs, noMu, tPar, inst, tSt, setM, stv, qVar, qFrz, qPk, qCon, qB2, qB2s, qU, qNil, qCons, qTup, qLst, qCall, qIf, qTru, qNotB, qAndB, qOrB, qAnd, qOr, qNot, qAsB, qChain, qIsT, qSl, qNo, qSo, pOI, qRun, qArgs, mOk, isMs, isM, setOuts, outS, qMut, qMut0, tyP, ptru, ptoB, pTy, isTy, pLen, pInt, pIx, atI, ixN, pAdd, pSub, pI, pDiv, pMod, pNeg, pGt, pGe, pLe, pLt, pIsN, pNotN, pTup, pLst, pSet, pAppend, pExtend, qNewT, qNewK, qYes, ofP, PR.bind, PR.toFl, PFl.seq, PR.ne, tRaise]
theorem made_bad {t w : PV} (h : faultV t = bad "BadNet" w) : P_made_net [t] = .exc 1 w [] := by
  simp [P_made_net, p_made_net, form_of_p, h, bad, eq_bt, pRunOf, entP, mkSl, outsP, slv, PSl.val, tSeq, tNil, tRet, tRetN, tRetO, tIf, tAsg, tAsgF, tDrop, tAsgT, tgP, tgPs, noMu, tPar, inst, tSt, setM, stv, qVar, qFrz, qPk, qCon, qB2, qB2s, qU, qNil, qCons, qTup, qLst, qCall, qIf, qTru, qNotB, qAndB, qOrB, qAnd, qOr, qNot, qAsB, qChain, qIsT, qSl, qNo, qSo, pOI, qRun, qArgs, mOk, isMs, isM, setOuts, outS, qMut, qMut0, tyP, ptru, ptoB, pTy, isTy, pLen, pInt, pIx, atI, ixN, pAdd, pSub, pI, pDiv, pMod, pNeg, pGt, pGe, pLe, pLt, pIsN, pNotN, pTup, pLst, pSet, pAppend, pExtend, qNewT, qNewK, qYes, ofP, PR.bind, PR.toFl, PFl.seq, PR.ne, tRaise]
theorem made_many {t w : PV} (h : faultV t = bad "TooMany" w) : P_made_net [t] = .exc 2 w [] := by
  simp [P_made_net, p_made_net, form_of_p, h, bad, eq_tt, pRunOf, entP, mkSl, outsP, slv, PSl.val, tSeq, tNil, tRet, tRetN, tRetO, tIf, tAsg, tAsgF, tDrop, tAsgT, tgP, tgPs, noMu, tPar, inst, tSt, setM, stv, qVar, qFrz, qPk, qCon, qB2, qB2s, qU, qNil, qCons, qTup, qLst, qCall, qIf, qTru, qNotB, qAndB, qOrB, qAnd, qOr, qNot, qAsB, qChain, qIsT, qSl, qNo, qSo, pOI, qRun, qArgs, mOk, isMs, isM, setOuts, outS, qMut, qMut0, tyP, ptru, ptoB, pTy, isTy, pLen, pInt, pIx, atI, ixN, pAdd, pSub, pI, pDiv, pMod, pNeg, pGt, pGe, pLe, pLt, pIsN, pNotN, pTup, pLst, pSet, pAppend, pExtend, qNewT, qNewK, qYes, ofP, PR.bind, PR.toFl, PFl.seq, PR.ne, tRaise]
theorem is_net_p (t : PV) : P_is_net [t] = .ok (.bl (pNon (faultV t))) [] := by
  simp [P_is_net, p_is_net, form_of_p, pRunOf, entP, mkSl, outsP, slv, PSl.val, tSeq, tNil, tRet, tRetN, tRetO, tIf, tAsg, tAsgF, tDrop, tAsgT, tgP, tgPs, noMu, tPar, inst, tSt, setM, stv, qVar, qFrz, qPk, qCon, qB2, qB2s, qU, qNil, qCons, qTup, qLst, qCall, qIf, qTru, qNotB, qAndB, qOrB, qAnd, qOr, qNot, qAsB, qChain, qIsT, qSl, qNo, qSo, pOI, qRun, qArgs, mOk, isMs, isM, setOuts, outS, qMut, qMut0, tyP, ptru, ptoB, pTy, isTy, pLen, pInt, pIx, atI, ixN, pAdd, pSub, pI, pDiv, pMod, pNeg, pGt, pGe, pLe, pLt, pIsN, pNotN, pTup, pLst, pSet, pAppend, pExtend, qNewT, qNewK, qYes, ofP, PR.bind, PR.toFl, PFl.seq, PR.ne, tRaise]
theorem gd_str {x : PySem.Str} (h : PySem.PyData.strOk x = true) {n : Nat} : Gd (n + 1) (.str x) := h
theorem told_ok : PySem.PyData.strOk ("told" : PySem.Str) = true := by decide +kernel
theorem bn_ok : PySem.PyData.strOk ("BadNet" : PySem.Str) = true := by decide +kernel
theorem tm_ok : PySem.PyData.strOk ("TooMany" : PySem.Str) = true := by decide +kernel
theorem gd_pair {x : PySem.Str} (h : PySem.PyData.strOk x = true) {n : Nat} {w : PV} (hw : Gd (n + 1) w) : Gd (n + 2) (.tup [.str x, w]) := by
  intro y hy
  simp at hy
  rcases hy with rfl | rfl
  · exact h
  · exact hw
theorem right_p {t : PV} (hg : Gd 10 t) (hw : wt t ≤ 4000000) : P__law_n1_right [t] = .ok (.bl true) [] := by
  have two : 2 ≤ PySem.sizeLine := by decide
  rcases fault_cases t with h | ⟨w, hs, h⟩ | ⟨w, hs, h⟩
  · have e1 := same_p (v := .tup [.str "told", t]) ((gd_pair told_ok hg).mono (by decide)) (by simp [wt, wtL]; omega)
    have e2 := same_p (v := .tup [.str "told", .bl true]) ((gd_pair (n := 0) told_ok (w := .bl true) trivial).mono (by decide)) (by simp [wt, wtL])
    simp [P__law_n1_right, p__law_n1_right, fault_p, h, qHeard, made_ok h, is_net_p, two, e1, e2, pRunOf, entP, mkSl, outsP, slv, PSl.val, tSeq, tNil, tRet, tRetN, tRetO, tIf, tAsg, tAsgF, tDrop, tAsgT, tgP, tgPs, noMu, tPar, inst, tSt, setM, stv, qVar, qFrz, qPk, qCon, qB2, qB2s, qU, qNil, qCons, qTup, qLst, qCall, qIf, qTru, qNotB, qAndB, qOrB, qAnd, qOr, qNot, qAsB, qChain, qIsT, qSl, qNo, qSo, pOI, qRun, qArgs, mOk, isMs, isM, setOuts, outS, qMut, qMut0, tyP, ptru, ptoB, pTy, isTy, pLen, pInt, pIx, atI, ixN, pAdd, pSub, pI, pDiv, pMod, pNeg, pGt, pGe, pLe, pLt, pIsN, pNotN, pTup, pLst, pSet, pAppend, pExtend, qNewT, qNewK, qYes, ofP, PR.bind, PR.toFl, PFl.seq, PR.ne, tRaise]
  · obtain ⟨g2, w2⟩ := gd_small hs
    have e1 := same_p (v := .tup [.str "BadNet", w]) ((gd_pair bn_ok g2).mono (by decide)) (by simp [wt, wtL]; omega)
    have e2 := same_p (v := .tup [.str "told", .bl false]) ((gd_pair (n := 0) told_ok (w := .bl false) trivial).mono (by decide)) (by simp [wt, wtL])
    simp [P__law_n1_right, p__law_n1_right, fault_p, h, qHeard, made_bad h, is_net_p, nm1, bad, two, e1, e2, pRunOf, entP, mkSl, outsP, slv, PSl.val, tSeq, tNil, tRet, tRetN, tRetO, tIf, tAsg, tAsgF, tDrop, tAsgT, tgP, tgPs, noMu, tPar, inst, tSt, setM, stv, qVar, qFrz, qPk, qCon, qB2, qB2s, qU, qNil, qCons, qTup, qLst, qCall, qIf, qTru, qNotB, qAndB, qOrB, qAnd, qOr, qNot, qAsB, qChain, qIsT, qSl, qNo, qSo, pOI, qRun, qArgs, mOk, isMs, isM, setOuts, outS, qMut, qMut0, tyP, ptru, ptoB, pTy, isTy, pLen, pInt, pIx, atI, ixN, pAdd, pSub, pI, pDiv, pMod, pNeg, pGt, pGe, pLe, pLt, pIsN, pNotN, pTup, pLst, pSet, pAppend, pExtend, qNewT, qNewK, qYes, ofP, PR.bind, PR.toFl, PFl.seq, PR.ne, tRaise]
  · obtain ⟨g2, w2⟩ := gd_small hs
    have e1 := same_p (v := .tup [.str "TooMany", w]) ((gd_pair tm_ok g2).mono (by decide)) (by simp [wt, wtL]; omega)
    have e2 := same_p (v := .tup [.str "told", .bl false]) ((gd_pair (n := 0) told_ok (w := .bl false) trivial).mono (by decide)) (by simp [wt, wtL])
    simp [P__law_n1_right, p__law_n1_right, fault_p, h, qHeard, made_many h, is_net_p, nm2, bad, two, e1, e2, pRunOf, entP, mkSl, outsP, slv, PSl.val, tSeq, tNil, tRet, tRetN, tRetO, tIf, tAsg, tAsgF, tDrop, tAsgT, tgP, tgPs, noMu, tPar, inst, tSt, setM, stv, qVar, qFrz, qPk, qCon, qB2, qB2s, qU, qNil, qCons, qTup, qLst, qCall, qIf, qTru, qNotB, qAndB, qOrB, qAnd, qOr, qNot, qAsB, qChain, qIsT, qSl, qNo, qSo, pOI, qRun, qArgs, mOk, isMs, isM, setOuts, outS, qMut, qMut0, tyP, ptru, ptoB, pTy, isTy, pLen, pInt, pIx, atI, ixN, pAdd, pSub, pI, pDiv, pMod, pNeg, pGt, pGe, pLe, pLt, pIsN, pNotN, pTup, pLst, pSet, pAppend, pExtend, qNewT, qNewK, qYes, ofP, PR.bind, PR.toFl, PFl.seq, PR.ne, tRaise]
end K01

set_option maxRecDepth 100000
set_option maxHeartbeats 4000000
namespace K01
open G P
open L2 (atI ixN)
theorem log_lt {n k : Nat} (h : n < 2 ^ k) (hk : 0 < k) : n.log2 < k := by
  by_cases z : n = 0
  · subst z; simpa using hk
  · exact (Nat.log2_lt z).mpr h
/-- a jar, asked so many times at most by its own numbers -/
def JO (n : Nat) (j : PV) : Prop := ∃ d s c, j = J d s c ∧ 0 ≤ s ∧ s < 2147483647 ∧ 0 ≤ c ∧ c ≤ n
theorem JO.mono {n m : Nat} {j : PV} (h : JO n j) (le : n ≤ m) : JO m j := by
  obtain ⟨d, s, c, e, a, b, x, y⟩ := h
  exact ⟨d, s, c, e, a, b, x, by omega⟩
theorem take_p {n : Nat} {j : PV} {m : Int} (h : JO n j) (hm : 0 < m) (hm2 : m < 2 ^ 62) (hn : n < 2 ^ 60) : ∃ v j', P__law_take [j, .int m] = .ok (.int v) [j'] ∧ 0 ≤ v ∧ v < m ∧ JO (n + 1) j' := by
  obtain ⟨d, s, c, rfl, s0, s1, c0, c1⟩ := h
  have lm : m.natAbs.log2 < 9000 := Nat.lt_trans (log_lt (k := 62) (by omega) (by decide)) (by decide)
  by_cases hd : 0 < d
  · exact ⟨_, _, take_big hd hm lm, Int.emod_nonneg _ (by omega), Int.emod_lt_of_pos _ hm, _, _, _, rfl, s0, s1, c0, by omega⟩
  · have ns : 0 ≤ nextS s c ∧ nextS s c < 2147483647 := ⟨Int.emod_nonneg _ (by decide), Int.emod_lt_of_pos _ (by decide)⟩
    have l1 : s.natAbs.log2 < 31 := log_lt (by omega) (by decide)
    have l2 : (c + 1).natAbs.log2 < 61 := log_lt (by omega) (by decide)
    have l3 : (nextS s c).natAbs.log2 < 31 := log_lt (by omega) (by decide)
    have k1 : Nat.log2 39373 < 16 := by decide
    have k2 : Nat.log2 7919 < 13 := by decide
    exact ⟨_, _, take_small hd hm (by omega) (by omega) (by omega) (by decide), Int.emod_nonneg _ (by omega), Int.emod_lt_of_pos _ hm, _, _, _, rfl, ns.1, ns.2, by omega, by omega⟩
theorem one_p {n : Nat} {j : PV} {xs : List PV} (h : JO n j) (hn : n < 2 ^ 60) (hx : xs ≠ []) (hl : xs.length < 2 ^ 62) : ∃ x j', P__law_one [j, .lst xs] = .ok x [j'] ∧ x ∈ xs ∧ JO (n + 1) j' := by
  have hp : 0 < xs.length := List.length_pos_iff.mpr hx
  obtain ⟨v, j', e, v0, v1, h'⟩ := take_p (m := xs.length) h (by omega) (by omega) hn
  have hv : v.toNat < xs.length := by omega
  have hi : pIx (.lst xs) (.int v) = some (xs.getD v.toNat .non) := by
    have : v = (v.toNat : Int) := by omega
    rw [this]; exact pIx_nat (.inr rfl) (by omega)
  refine ⟨xs.getD v.toNat .non, j', ?_, by simp [hv], h'⟩
  simp [P__law_one, p__law_one, e, hi, pRunOf, entP, mkSl, outsP, slv, PSl.val, tSeq, tNil, tRet, tRetN, tRetO, tIf, tAsg, tAsgF, tDrop, tAsgT, tgP, tgPs, noMu, tPar, inst, tSt, setM, stv, qVar, qFrz, qPk, qCon, qB2, qB2s, qU, qNil, qCons, qTup, qLst, qCall, qIf, qTru, qNotB, qAndB, qOrB, qAnd, qOr, qNot, qAsB, qChain, qIsT, qSl, qNo, qSo, pOI, qRun, qArgs, mOk, isMs, isM, setOuts, outS, qMut, qMut0, tyP, ptru, ptoB, pTy, isTy, pLen, pInt, atI, ixN, pAdd, pSub, pI, pDiv, pMod, pNeg, pGt, pGe, pLt, pIsN, pNotN, pTup, pLst, pSet, pAppend, pExtend, qNewT, qNewK, qYes, ofP, PR.bind, PR.toFl, PFl.seq, PR.ne, tRaise]
theorem sort_t3 {xs : List PV} (h : ∀ x ∈ xs, isT3 x) (hl : xs.length ≤ PySem.sizeLine) : pSortOk xs = true := by
  have he : ∀ x ∈ xs, ∃ a b d, pyD 20 x = some (.tuple [.int a, .int b, .int d]) ∧ pEnc x = .tuple [.int a, .int b, .int d] := fun x hx => by
    obtain ⟨a, b, d, rfl⟩ := h x hx
    exact ⟨a, b, d, rfl, rfl⟩
  unfold pSortOk
  simp only [Bool.and_eq_true, Bool.or_eq_true, List.all_eq_true, decide_eq_true_eq]
  refine ⟨⟨⟨fun x hx => ?_, fun x hx y hy => ?_⟩, .inl fun x hx => ?_⟩, hl⟩
  · obtain ⟨a, b, d, e1, e2⟩ := he x hx
    rw [e1, e2]
    simp [PySem.PyData.depth, PySem.PyData.depthAll]
  · obtain ⟨a, b, d, e1, e2⟩ := he x hx
    obtain ⟨a', b', d', e1', e2'⟩ := he y hy
    rw [e2, e2']
    simp [PySem.W.alike, PySem.W.alikeAll]
  · obtain ⟨a, b, d, e1, e2⟩ := he x hx
    rw [e2]
theorem pSort_mem {xs : List PV} {x : PV} : x ∈ pSort xs ↔ x ∈ xs := List.mem_mergeSort
theorem pSort_len {xs : List PV} : (pSort xs).length = xs.length := List.length_mergeSort xs
theorem sorted_t3 {xs : List PV} (h : ∀ x ∈ xs, isT3 x) (hl : xs.length ≤ PySem.sizeLine) : pSorted (.tup xs) = some (.lst (pSort xs)) := by
  simp only [pSorted, pSeqOf]
  rw [if_pos (sort_t3 h hl)]
theorem put_p {ms : List PV} {mv : PV} (h : ∀ x ∈ ms, isT3 x) (hl : ms.length ≤ 1000) (hm : Gd 10 mv) : ∃ ms', P__law_n1_put [.tup ms, mv] = .ok (.tup ms') [] ∧ ms'.length = ms.length + 1 ∧ ∀ x ∈ ms', x ∈ ms ∨ x = mv := by
  have hz : ms.length + 1 ≤ PySem.sizeLine := Nat.le_trans (show ms.length + 1 ≤ 1001 by omega) (by decide)
  have one : 1 ≤ PySem.sizeLine := by decide
  have base : ∃ ms', ms ++ [mv] = ms' ∧ ms'.length = ms.length + 1 ∧ ∀ x ∈ ms', x ∈ ms ∨ x = mv := ⟨_, rfl, by simp, by simp⟩
  by_cases ht : ∃ xs, mv = .tup xs
  · obtain ⟨xs, rfl⟩ := ht
    by_cases h3 : xs.length = 3
    · have hg : ∀ x ∈ xs, Gd 9 x := hm
      have lc : ∀ a0 a1, lcP (.nm 2) (qNotB (qTru (qRun (.v (qVar 2) :: []) P__law_xp_is_whole))) (qVar 2) [2] xs [a0, a1, none] = .ok ((xs.filter fun x => !isW x).map id) [a0, a1, none] := fun a0 a1 => by
        refine lcP_filter id (fun x => !isW x) xs fun x hx => ?_
        exact ⟨[a0, a1, some (.sh x)], by simp [pRunOf, entP, mkSl, outsP, slv, PSl.val, tSeq, tNil, tRet, tRetN, tRetO, tIf, tAsg, tAsgF, tDrop, tAsgT, tgP, tgPs, noMu, tPar, inst, tSt, setM, stv, qVar, qFrz, qPk, qCon, qB2, qB2s, qU, qNil, qCons, qTup, qLst, qCall, qIf, qTru, qNotB, qAndB, qOrB, qAnd, qOr, qNot, qAsB, qChain, qIsT, qSl, qNo, qSo, pOI, qRun, qArgs, mOk, isMs, isM, setOuts, outS, qMut, qMut0, tyP, ptru, ptoB, pTy, isTy, pLen, pInt, pIx, atI, ixN, pAdd, pSub, pI, pDiv, pMod, pNeg, pGt, pGe, pLe, pLt, pIsN, pNotN, pTup, pLst, pSet, pAppend, pExtend, qNewT, qNewK, qYes, ofP, PR.bind, PR.toFl, PFl.seq, PR.ne, tRaise], by simp [isw_p, pRunOf, entP, mkSl, outsP, slv, PSl.val, tSeq, tNil, tRet, tRetN, tRetO, tIf, tAsg, tAsgF, tDrop, tAsgT, tgP, tgPs, noMu, tPar, inst, tSt, setM, stv, qVar, qFrz, qPk, qCon, qB2, qB2s, qU, qNil, qCons, qTup, qLst, qCall, qIf, qTru, qNotB, qAndB, qOrB, qAnd, qOr, qNot, qAsB, qChain, qIsT, qSl, qNo, qSo, pOI, qRun, qArgs, mOk, isMs, isM, setOuts, outS, qMut, qMut0, tyP, ptru, ptoB, pTy, isTy, pLen, pInt, pIx, atI, ixN, pAdd, pSub, pI, pDiv, pMod, pNeg, pGt, pGe, pLe, pLt, pIsN, pNotN, pTup, pLst, pSet, pAppend, pExtend, qNewT, qNewK, qYes, ofP, PR.bind, PR.toFl, PFl.seq, PR.ne, tRaise], by simp [pRunOf, entP, mkSl, outsP, slv, PSl.val, tSeq, tNil, tRet, tRetN, tRetO, tIf, tAsg, tAsgF, tDrop, tAsgT, tgP, tgPs, noMu, tPar, inst, tSt, setM, stv, qVar, qFrz, qPk, qCon, qB2, qB2s, qU, qNil, qCons, qTup, qLst, qCall, qIf, qTru, qNotB, qAndB, qOrB, qAnd, qOr, qNot, qAsB, qChain, qIsT, qSl, qNo, qSo, pOI, qRun, qArgs, mOk, isMs, isM, setOuts, outS, qMut, qMut0, tyP, ptru, ptoB, pTy, isTy, pLen, pInt, pIx, atI, ixN, pAdd, pSub, pI, pDiv, pMod, pNeg, pGt, pGe, pLe, pLt, pIsN, pNotN, pTup, pLst, pSet, pAppend, pExtend, qNewT, qNewK, qYes, ofP, PR.bind, PR.toFl, PFl.seq, PR.ne, tRaise], by simp [wipeP]⟩
      have hf : Gd 10 (.lst ((xs.filter fun x => !isW x).map id)) := by
        intro x hx
        simp at hx
        exact hg x hx.1
      have hfl : ((xs.filter fun x => !isW x).map id).length ≤ PySem.sizeLine := by
        have := List.length_filter_le (fun x => !isW x) xs
        simp only [List.length_map]
        exact Nat.le_trans (Nat.le_trans this (by omega)) (show 3 ≤ _ by decide)
      have e := eqB_nilL hf (by decide)
      have e' : pNe (.lst ((xs.filter fun x => !isW x).map id)) (.lst []) = some (.bl (!((xs.filter fun x => !isW x).map id).isEmpty)) := by unfold pNe; rw [e]; rfl
      have e3 : pNe (.int (xs.length : Int)) (.int 3) = some (.bl false) := by rw [pNe_int, h3]; rfl
      cases hq : ((xs.filter fun x => !isW x).map id).isEmpty with
      | false =>
        rw [hq] at e'
        generalize (xs.filter fun x => !isW x).map id = zs at *
        refine ⟨ms ++ [.tup xs], ?_, by simp, by simp⟩
        simp [P__law_n1_put, p__law_n1_put, e3, qLc, qSeq, pItems, okOwn, wipeP, backP, lc, hfl, e', hz, one, pRunOf, entP, mkSl, outsP, slv, PSl.val, tSeq, tNil, tRet, tRetN, tRetO, tIf, tAsg, tAsgF, tDrop, tAsgT, tgP, tgPs, noMu, tPar, inst, tSt, setM, stv, qVar, qFrz, qPk, qCon, qB2, qB2s, qU, qNil, qCons, qTup, qLst, qCall, qIf, qTru, qNotB, qAndB, qOrB, qAnd, qOr, qNot, qAsB, qChain, qIsT, qSl, qNo, qSo, pOI, qRun, qArgs, mOk, isMs, isM, setOuts, outS, qMut, qMut0, tyP, ptru, ptoB, pTy, isTy, pLen, pInt, pIx, atI, ixN, pAdd, pSub, pI, pDiv, pMod, pNeg, pGt, pGe, pLe, pLt, pIsN, pNotN, pTup, pLst, pSet, pAppend, pExtend, qNewT, qNewK, qYes, ofP, PR.bind, PR.toFl, PFl.seq, PR.ne, tRaise]
      | true =>
        rw [hq] at e'
        have hw : ∀ x ∈ xs, isW x = true := by
          intro x hx
          have : (xs.filter fun x => !isW x) = [] := by simpa using hq
          have := List.filter_eq_nil_iff.mp this x hx
          simpa using this
        generalize (xs.filter fun x => !isW x).map id = zs at *
        have t3 : isT3 (.tup xs) := by
          match xs, h3, hw with
          | [a, b, c], _, hw =>
            have ha := hw a (by simp)
            have hb := hw b (by simp)
            have hc := hw c (by simp)
            cases a <;> cases ha
            cases b <;> cases hb
            cases c <;> cases hc
            exact ⟨_, _, _, rfl⟩
        have es := sorted_t3 (xs := ms ++ [.tup xs]) (fun x hx => by
          rcases List.mem_append.mp hx with hx | hx
          · exact h x hx
          · simp at hx; subst hx; exact t3) (by simpa using hz)
        refine ⟨pSort (ms ++ [.tup xs]), ?_, by rw [pSort_len]; simp, fun x hx => by simpa using pSort_mem.mp hx⟩
        simp [P__law_n1_put, p__law_n1_put, e3, qLc, qSeq, pItems, okOwn, wipeP, backP, lc, hfl, e', hz, one, es, pRunOf, entP, mkSl, outsP, slv, PSl.val, tSeq, tNil, tRet, tRetN, tRetO, tIf, tAsg, tAsgF, tDrop, tAsgT, tgP, tgPs, noMu, tPar, inst, tSt, setM, stv, qVar, qFrz, qPk, qCon, qB2, qB2s, qU, qNil, qCons, qTup, qLst, qCall, qIf, qTru, qNotB, qAndB, qOrB, qAnd, qOr, qNot, qAsB, qChain, qIsT, qSl, qNo, qSo, pOI, qRun, qArgs, mOk, isMs, isM, setOuts, outS, qMut, qMut0, tyP, ptru, ptoB, pTy, isTy, pLen, pInt, pIx, atI, ixN, pAdd, pSub, pI, pDiv, pMod, pNeg, pGt, pGe, pLe, pLt, pIsN, pNotN, pTup, pLst, pSet, pAppend, pExtend, qNewT, qNewK, qYes, ofP, PR.bind, PR.toFl, PFl.seq, PR.ne, tRaise]
    · refine ⟨ms ++ [.tup xs], ?_, by simp, by simp⟩
      simp [P__law_n1_put, p__law_n1_put, ne3 h3, hz, one, pRunOf, entP, mkSl, outsP, slv, PSl.val, tSeq, tNil, tRet, tRetN, tRetO, tIf, tAsg, tAsgF, tDrop, tAsgT, tgP, tgPs, noMu, tPar, inst, tSt, setM, stv, qVar, qFrz, qPk, qCon, qB2, qB2s, qU, qNil, qCons, qTup, qLst, qCall, qIf, qTru, qNotB, qAndB, qOrB, qAnd, qOr, qNot, qAsB, qChain, qIsT, qSl, qNo, qSo, pOI, qRun, qArgs, mOk, isMs, isM, setOuts, outS, qMut, qMut0, tyP, ptru, ptoB, pTy, isTy, pLen, pInt, pIx, atI, ixN, pAdd, pSub, pI, pDiv, pMod, pNeg, pGt, pGe, pLe, pLt, pIsN, pNotN, pTup, pLst, pSet, pAppend, pExtend, qNewT, qNewK, qYes, ofP, PR.bind, PR.toFl, PFl.seq, PR.ne, tRaise]
  · have hn : ∀ ms, mv ≠ .tup ms := fun ms e => ht ⟨ms, e⟩
    have et := isT_ne hn
    simp [isTy] at et
    refine ⟨ms ++ [mv], ?_, by simp, by simp⟩
    simp [P__law_n1_put, p__law_n1_put, et, hz, one, pRunOf, entP, mkSl, outsP, slv, PSl.val, tSeq, tNil, tRet, tRetN, tRetO, tIf, tAsg, tAsgF, tDrop, tAsgT, tgP, tgPs, noMu, tPar, inst, tSt, setM, stv, qVar, qFrz, qPk, qCon, qB2, qB2s, qU, qNil, qCons, qTup, qLst, qCall, qIf, qTru, qNotB, qAndB, qOrB, qAnd, qOr, qNot, qAsB, qChain, qIsT, qSl, qNo, qSo, pOI, qRun, qArgs, mOk, isMs, isM, setOuts, outS, qMut, qMut0, tyP, ptru, ptoB, isTy, pLen, pInt, pIx, atI, ixN, pAdd, pSub, pI, pDiv, pMod, pNeg, pGt, pGe, pLe, pLt, pIsN, pNotN, pTup, pLst, pSet, pAppend, pExtend, qNewT, qNewK, qYes, ofP, PR.bind, PR.toFl, PFl.seq, PR.ne, tRaise]
end K01

set_option maxRecDepth 100000
set_option maxHeartbeats 4000000
namespace K01
open G P
open L2 (atI ixN)
/-- a move's paces -/
def T3 (v : PV) : Prop := ∃ a b d, v = .tup [.int a, .int b, .int d] ∧ 0 ≤ d ∧ d ≤ 20
theorem T3.t3 {v : PV} (h : T3 v) : isT3 v := by obtain ⟨a, b, d, e, _⟩ := h; exact ⟨a, b, d, e⟩
def kT3 (k : List Key) : Prop := ∃ a b d : Int, k = [.inl a, .inl b, .inl d] ∧ 0 ≤ d ∧ d ≤ 20
def NI (nn : Int) (n0 : Nat) (i : Nat) (π : PEnv) : Prop := ∃ j ks vs s3 s4 s5 s6, π = [some (.mu j), some (.sh (.int nn)), some (.ow (.dT ks vs)), s3, s4, s5, s6, none, none] ∧ JO (n0 + 4 * i) j ∧ okS s3 = true ∧ okS s4 = true ∧ okS s5 = true ∧ okS s6 = true ∧ (∀ k ∈ ks, kT3 k) ∧ ks.length ≤ i
theorem put_keys {ks : List (List Key)} {vs : List PV} {k : List Key} {v : PV} : ∀ k' ∈ (pPutD ks vs k v).1, k' ∈ ks ∨ k' = k := by
  intro k' h
  unfold pPutD at h
  split at h
  · exact .inl h
  · simpa using h
theorem put_keysL {ks : List (List Key)} {vs : List PV} {k : List Key} {v : PV} : (pPutD ks vs k v).1.length ≤ ks.length + 1 := by
  unfold pPutD
  split
  · simp
  · simp
theorem net_step {nn : Int} {n0 i : Nat} {π : PEnv} {w : Int} (hn : 0 < nn) (hn2 : nn ≤ 30) (hi : i ≤ 1000) (hn0 : n0 ≤ 1000000) (h : NI nn n0 i π) : ∃ π', ptgt (.nm 3) (tSeq (tPar [4, 5, 6] [false, false, false] (qCons (qRun (.m 0 :: .v (qVar 1) :: []) P__law_take) (qCons (qRun (.m 0 :: .v (qVar 1) :: []) P__law_take) (qCons (qRun (.m 0 :: .v (qLst (qCons (qCon (.int 0)) (qCons (qCon (.int 0)) (qCons (qCon (.int 1)) (qCons (qCon (.int 1)) (qCons (qCon (.int 2)) (qCons (qCon (.int 3)) (qCons (qRun (.m 0 :: .v (qCon (.int 21)) :: []) P__law_take) (qNil))))))))) :: []) P__law_one) (qNil))))) (tSeq (tIf (qAndB (qOrB (qAsB (qB2 pNe (qVar 4) (qPk 5))) (qAsB (qB2 pGt (qVar 6) (qCon (.int 0))))) (qOrB (qAsB (qB2 pGt (qVar 6) (qCon (.int 0)))) (qAsB (qB2 pNotIn (qTup (qCons (qVar 5) (qCons (qVar 4) (qCons (qCon (.int 0)) (qNil))))) (qPk 2))))) (tSeq (tSt 2 pSet (qTup (qCons (qVar 4) (qCons (qVar 5) (qCons (qVar 6) (qNil))))) (qCon (.bl true))) (tNil)) (tNil)) (tNil))) (.int w) π = .nx π' ∧ NI nn n0 (i + 1) π' := by
  obtain ⟨j, ks, vs, s3, s4, s5, s6, rfl, hj, h3, h4, h5, h6, hk, hl⟩ := h
  have n3 := nm_of_ok h3
  have n4 := nm_of_ok h4
  have n5 := nm_of_ok h5
  have n6 := nm_of_ok h6
  obtain ⟨a, j1, e1, a0, a1, hj1⟩ := take_p (m := nn) hj hn (by omega) (by omega)
  obtain ⟨b, j2, e2, b0, b1, hj2⟩ := take_p (m := nn) hj1 hn (by omega) (by omega)
  obtain ⟨t, j3, e3, t0, t1, hj3⟩ := take_p (m := 21) hj2 (by decide) (by omega) (by omega)
  obtain ⟨x, j4, e4, hx, hj4⟩ := one_p (xs := [.int 0, .int 0, .int 1, .int 1, .int 2, .int 3, .int t]) hj3 (by omega) (by simp) (by simp)
  obtain ⟨d, rfl, d0, d1⟩ : ∃ d, x = .int d ∧ 0 ≤ d ∧ d ≤ 20 := by
    simp at hx
    rcases hx with rfl | rfl | rfl | rfl | rfl <;> exact ⟨_, rfl, by omega, by omega⟩
  have sl : 7 ≤ PySem.sizeLine := by decide
  have sl3 : 3 ≤ PySem.sizeLine := by decide
  have hin : pNotIn (.tup [.int b, .int a, .int 0]) (.dT ks vs) = some (.bl (!(ks.any fun k' => decide (k' = [.inl b, .inl a, .inl 0])))) := rfl
  have hput : pSet (.dT ks vs) (.tup [.int a, .int b, .int d]) (.bl true) = some (.dT (pPutD ks vs [.inl a, .inl b, .inl d] (.bl true)).1 (pPutD ks vs [.inl a, .inl b, .inl d] (.bl true)).2) := by
    have : ks.length < PySem.sizeLine := Nat.lt_of_le_of_lt (Nat.le_trans hl hi) (by decide)
    simp only [pSet, pKeys, pKey]
    rw [if_pos this]
  have skip : NI nn n0 (i + 1) [some (.mu j4), some (.sh (.int nn)), some (.ow (.dT ks vs)), some (.sh (.int w)), some (.sh (.int a)), some (.sh (.int b)), some (.sh (.int d)), none, none] :=
    ⟨j4, ks, vs, _, _, _, _, rfl, hj4, rfl, rfl, rfl, rfl, hk, by omega⟩
  have put : NI nn n0 (i + 1) [some (.mu j4), some (.sh (.int nn)), some (.ow (.dT (pPutD ks vs [.inl a, .inl b, .inl d] (.bl true)).1 (pPutD ks vs [.inl a, .inl b, .inl d] (.bl true)).2)), some (.sh (.int w)), some (.sh (.int a)), some (.sh (.int b)), some (.sh (.int d)), none, none] :=
    ⟨j4, _, _, _, _, _, _, rfl, hj4, rfl, rfl, rfl, rfl, fun k hk' => (put_keys k hk').elim (hk k) fun e => ⟨a, b, d, e, d0, d1⟩, by have := put_keysL (ks := ks) (vs := vs) (k := [.inl a, .inl b, .inl d]) (v := .bl true); omega⟩
  by_cases c1 : a = b
  · subst c1
    by_cases c2 : 0 < d
    · exact ⟨_, by simp [ptgt, n3, n4, n5, n6, e1, e2, e3, e4, sl, sl3, pNe_int, hput, c2, pRunOf, entP, mkSl, outsP, slv, PSl.val, tSeq, tNil, tRet, tRetN, tRetO, tIf, tAsg, tAsgF, tDrop, tAsgT, tgP, tgPs, noMu, tPar, inst, tSt, setM, stv, qVar, qFrz, qPk, qCon, qB2, qB2s, qU, qNil, qCons, qTup, qLst, qCall, qIf, qTru, qNotB, qAndB, qOrB, qAnd, qOr, qNot, qAsB, qChain, qIsT, qSl, qNo, qSo, pOI, qRun, qArgs, mOk, isMs, isM, setOuts, outS, qMut, qMut0, tyP, ptru, ptoB, pTy, isTy, pLen, pInt, atI, ixN, pAdd, pSub, pI, pDiv, pMod, pNeg, pGt, pGe, pLt, pIsN, pNotN, pTup, pLst, pAppend, pExtend, qNewT, qNewK, qYes, ofP, PR.bind, PR.toFl, PFl.seq, PR.ne, tRaise], put⟩
    · exact ⟨_, by simp [ptgt, n3, n4, n5, n6, e1, e2, e3, e4, sl, sl3, pNe_int, hput, c2, pRunOf, entP, mkSl, outsP, slv, PSl.val, tSeq, tNil, tRet, tRetN, tRetO, tIf, tAsg, tAsgF, tDrop, tAsgT, tgP, tgPs, noMu, tPar, inst, tSt, setM, stv, qVar, qFrz, qPk, qCon, qB2, qB2s, qU, qNil, qCons, qTup, qLst, qCall, qIf, qTru, qNotB, qAndB, qOrB, qAnd, qOr, qNot, qAsB, qChain, qIsT, qSl, qNo, qSo, pOI, qRun, qArgs, mOk, isMs, isM, setOuts, outS, qMut, qMut0, tyP, ptru, ptoB, pTy, isTy, pLen, pInt, atI, ixN, pAdd, pSub, pI, pDiv, pMod, pNeg, pGt, pGe, pLt, pIsN, pNotN, pTup, pLst, pAppend, pExtend, qNewT, qNewK, qYes, ofP, PR.bind, PR.toFl, PFl.seq, PR.ne, tRaise], skip⟩
  · by_cases c2 : 0 < d
    · exact ⟨_, by simp [ptgt, n3, n4, n5, n6, e1, e2, e3, e4, sl, sl3, pNe_int, hput, c1, c2, pRunOf, entP, mkSl, outsP, slv, PSl.val, tSeq, tNil, tRet, tRetN, tRetO, tIf, tAsg, tAsgF, tDrop, tAsgT, tgP, tgPs, noMu, tPar, inst, tSt, setM, stv, qVar, qFrz, qPk, qCon, qB2, qB2s, qU, qNil, qCons, qTup, qLst, qCall, qIf, qTru, qNotB, qAndB, qOrB, qAnd, qOr, qNot, qAsB, qChain, qIsT, qSl, qNo, qSo, pOI, qRun, qArgs, mOk, isMs, isM, setOuts, outS, qMut, qMut0, tyP, ptru, ptoB, pTy, isTy, pLen, pInt, atI, ixN, pAdd, pSub, pI, pDiv, pMod, pNeg, pGt, pGe, pLt, pIsN, pNotN, pTup, pLst, pAppend, pExtend, qNewT, qNewK, qYes, ofP, PR.bind, PR.toFl, PFl.seq, PR.ne, tRaise], put⟩
    · cases c3 : (ks.any fun k' => decide (k' = [.inl b, .inl a, .inl 0])) with
      | true => rw [c3] at hin; exact ⟨_, by simp [ptgt, n3, n4, n5, n6, e1, e2, e3, e4, sl, sl3, pNe_int, hput, hin, c1, c2, pRunOf, entP, mkSl, outsP, slv, PSl.val, tSeq, tNil, tRet, tRetN, tRetO, tIf, tAsg, tAsgF, tDrop, tAsgT, tgP, tgPs, noMu, tPar, inst, tSt, setM, stv, qVar, qFrz, qPk, qCon, qB2, qB2s, qU, qNil, qCons, qTup, qLst, qCall, qIf, qTru, qNotB, qAndB, qOrB, qAnd, qOr, qNot, qAsB, qChain, qIsT, qSl, qNo, qSo, pOI, qRun, qArgs, mOk, isMs, isM, setOuts, outS, qMut, qMut0, tyP, ptru, ptoB, pTy, isTy, pLen, pInt, atI, ixN, pAdd, pSub, pI, pDiv, pMod, pNeg, pGt, pGe, pLt, pIsN, pNotN, pTup, pLst, pAppend, pExtend, qNewT, qNewK, qYes, ofP, PR.bind, PR.toFl, PFl.seq, PR.ne, tRaise], skip⟩
      | false => rw [c3] at hin; exact ⟨_, by simp [ptgt, n3, n4, n5, n6, e1, e2, e3, e4, sl, sl3, pNe_int, hput, hin, c1, c2, pRunOf, entP, mkSl, outsP, slv, PSl.val, tSeq, tNil, tRet, tRetN, tRetO, tIf, tAsg, tAsgF, tDrop, tAsgT, tgP, tgPs, noMu, tPar, inst, tSt, setM, stv, qVar, qFrz, qPk, qCon, qB2, qB2s, qU, qNil, qCons, qTup, qLst, qCall, qIf, qTru, qNotB, qAndB, qOrB, qAnd, qOr, qNot, qAsB, qChain, qIsT, qSl, qNo, qSo, pOI, qRun, qArgs, mOk, isMs, isM, setOuts, outS, qMut, qMut0, tyP, ptru, ptoB, pTy, isTy, pLen, pInt, atI, ixN, pAdd, pSub, pI, pDiv, pMod, pNeg, pGt, pGe, pLt, pIsN, pNotN, pTup, pLst, pAppend, pExtend, qNewT, qNewK, qYes, ofP, PR.bind, PR.toFl, PFl.seq, PR.ne, tRaise], put⟩
theorem keys_t3 {ks : List (List Key)} (h : ∀ k ∈ ks, kT3 k) : ∀ x ∈ ks.map (fun k => PV.tup (k.map pKeyV)), T3 x := by
  intro x hx
  obtain ⟨k, hk, rfl⟩ := List.mem_map.mp hx
  obtain ⟨a, b, d, rfl, h1, h2⟩ := h k hk
  exact ⟨a, b, d, rfl, h1, h2⟩
theorem thd_t3 {v : PV} (h : T3 v) : 0 ≤ thd v ∧ thd v ≤ 20 := by obtain ⟨a, b, d, rfl, h1, h2⟩ := h; exact ⟨h1, h2⟩
theorem ints_t3 : ∀ {ms : List PV}, pInts (ms.map fun v => PV.int (thd v)) = some (ms.map thd)
  | [] => rfl
  | v :: ms => by
    simp only [List.map_cons, pInts]
    rw [ints_t3]; rfl
theorem net_p {n0 : Nat} {j : PV} (h : JO n0 j) (hn0 : n0 ≤ 900000) : ∃ nn ms p j', P__law_xp_net [j] = .ok (.tup [.int nn, .tup ms, .int p]) [j'] ∧ JO (n0 + 250) j' ∧ ms.length ≤ 60 ∧ ∀ x ∈ ms, T3 x := by
  obtain ⟨x, j1, e1, hx, hj1⟩ := one_p (xs := [.int 0, .int 1, .int 1, .int 2, .int 2, .int 3, .int 3, .int 4, .int 4, .int 5, .int 6, .int 30]) h (by omega) (by simp) (by simp)
  obtain ⟨nn, rfl, g0, g1⟩ : ∃ nn, x = .int nn ∧ 0 ≤ nn ∧ nn ≤ 30 := by
    simp at hx
    rcases hx with rfl | rfl | rfl | rfl | rfl | rfl | rfl | rfl <;> exact ⟨_, rfl, by omega, by omega⟩
  have sl : 12 ≤ PySem.sizeLine := by decide
  have sl9 : 9 ≤ PySem.sizeLine := by decide
  have sl5 : 5 ≤ PySem.sizeLine := by decide
  have sl3 : 3 ≤ PySem.sizeLine := by decide
  have sl1 : 1 ≤ PySem.sizeLine := by decide
  -- how many turns
  have tn : ∃ (m : Nat) (j2 : PV), m ≤ 60 ∧ (0 < m → 0 < nn) ∧ JO (n0 + 2) j2 ∧ qR1 (qIf (qAsB (qB2 pGt (qVar 1) (qCon (.int 0)))) (qRun (.m 0 :: .v (qLst (qCons (qCon (.int 0)) (qCons (qCon (.int 1)) (qCons (qCon (.int 2)) (qCons (qCon (.int 3)) (qCons (qCon (.int 4)) (qCons (qCon (.int 5)) (qCons (qCon (.int 6)) (qCons (qCon (.int 8)) (qCons (qCon (.int 60)) (qNil))))))))))) :: []) P__law_one) (qCon (.int 0))) [some (.mu j1), some (.sh (.int nn)), some (.ow (.dT [] [])), none, none, none, none, none, none] = .ok (rng 0 m) [some (.mu j2), some (.sh (.int nn)), some (.ow (.dT [] [])), none, none, none, none, none, none] := by
    by_cases hp : 0 < nn
    · obtain ⟨y, j2, e2, hy, hj2⟩ := one_p (xs := [.int 0, .int 1, .int 2, .int 3, .int 4, .int 5, .int 6, .int 8, .int 60]) hj1 (by omega) (by simp) (by simp)
      obtain ⟨m, rfl, hm⟩ : ∃ m : Nat, y = .int (m : Nat) ∧ m ≤ 60 := by
        simp at hy
        rcases hy with rfl | rfl | rfl | rfl | rfl | rfl | rfl | rfl | rfl
        · exact ⟨0, rfl, by decide⟩
        · exact ⟨1, rfl, by decide⟩
        · exact ⟨2, rfl, by decide⟩
        · exact ⟨3, rfl, by decide⟩
        · exact ⟨4, rfl, by decide⟩
        · exact ⟨5, rfl, by decide⟩
        · exact ⟨6, rfl, by decide⟩
        · exact ⟨8, rfl, by decide⟩
        · exact ⟨60, rfl, by decide⟩
      have e3 := pR1_nat (n := m) (by omega)
      exact ⟨m, j2, hm, fun _ => hp, hj2, by simp [qR1, hp, e2, e3, sl9, pRunOf, entP, mkSl, outsP, slv, PSl.val, tSeq, tNil, tRet, tRetN, tRetO, tIf, tAsg, tAsgF, tDrop, tAsgT, tgP, tgPs, noMu, tPar, inst, tSt, setM, stv, qVar, qFrz, qPk, qCon, qB2, qB2s, qU, qNil, qCons, qTup, qLst, qCall, qIf, qTru, qNotB, qAndB, qOrB, qAnd, qOr, qNot, qAsB, qChain, qIsT, qSl, qNo, qSo, pOI, qRun, qArgs, mOk, isMs, isM, setOuts, outS, qMut, qMut0, tyP, ptru, ptoB, pTy, isTy, pLen, pInt, pIx, atI, ixN, pAdd, pSub, pI, pDiv, pMod, pNeg, pGt, pGe, pLe, pLt, pIsN, pNotN, pTup, pLst, pSet, pAppend, pExtend, qNewT, qNewK, qYes, ofP, PR.bind, PR.toFl, PFl.seq, PR.ne, tRaise]⟩
    · have e3 : pR1 (.int 0) = some (rng 0 0) := rfl
      exact ⟨0, j1, by decide, fun z => absurd z (by decide), hj1.mono (by omega), by simp [qR1, hp, e3, pRunOf, entP, mkSl, outsP, slv, PSl.val, tSeq, tNil, tRet, tRetN, tRetO, tIf, tAsg, tAsgF, tDrop, tAsgT, tgP, tgPs, noMu, tPar, inst, tSt, setM, stv, qVar, qFrz, qPk, qCon, qB2, qB2s, qU, qNil, qCons, qTup, qLst, qCall, qIf, qTru, qNotB, qAndB, qOrB, qAnd, qOr, qNot, qAsB, qChain, qIsT, qSl, qNo, qSo, pOI, qRun, qArgs, mOk, isMs, isM, setOuts, outS, qMut, qMut0, tyP, ptru, ptoB, pTy, isTy, pLen, pInt, pIx, atI, ixN, pAdd, pSub, pI, pDiv, pMod, pNeg, pGt, pGe, pLe, pLt, pIsN, pNotN, pTup, pLst, pSet, pAppend, pExtend, qNewT, qNewK, qYes, ofP, PR.bind, PR.toFl, PFl.seq, PR.ne, tRaise]⟩
  obtain ⟨m, j2, hm, hmp, hj2, er⟩ := tn
  obtain ⟨π', ef, j3, ks, vs, s3, s4, s5, s6, rfl, hj3, h3, h4, h5, h6, hk, hkl⟩ := forP_keep (body := ptgt (.nm 3) (tSeq (tPar [4, 5, 6] [false, false, false] (qCons (qRun (.m 0 :: .v (qVar 1) :: []) P__law_take) (qCons (qRun (.m 0 :: .v (qVar 1) :: []) P__law_take) (qCons (qRun (.m 0 :: .v (qLst (qCons (qCon (.int 0)) (qCons (qCon (.int 0)) (qCons (qCon (.int 1)) (qCons (qCon (.int 1)) (qCons (qCon (.int 2)) (qCons (qCon (.int 3)) (qCons (qRun (.m 0 :: .v (qCon (.int 21)) :: []) P__law_take) (qNil))))))))) :: []) P__law_one) (qNil))))) (tSeq (tIf (qAndB (qOrB (qAsB (qB2 pNe (qVar 4) (qPk 5))) (qAsB (qB2 pGt (qVar 6) (qCon (.int 0))))) (qOrB (qAsB (qB2 pGt (qVar 6) (qCon (.int 0)))) (qAsB (qB2 pNotIn (qTup (qCons (qVar 5) (qCons (qVar 4) (qCons (qCon (.int 0)) (qNil))))) (qPk 2))))) (tSeq (tSt 2 pSet (qTup (qCons (qVar 4) (qCons (qVar 5) (qCons (qVar 6) (qNil))))) (qCon (.bl true))) (tNil)) (tNil)) (tNil)))) (NI nn (n0 + 2)) (rng 0 m) 0 [some (.mu j2), some (.sh (.int nn)), some (.ow (.dT [] [])), none, none, none, none, none, none] ⟨j2, [], [], _, _, _, _, rfl, hj2, rfl, rfl, rfl, rfl, by simp, by simp⟩ (by
    intro v hv i π hi h
    obtain ⟨w, hw, rfl⟩ := mem_rng hv
    have : (rng 0 m).length = m := by simp [rng]
    exact net_step (hmp (by omega)) g1 (by omega) (by omega) h)
  have lm : (rng 0 m).length = m := by simp [rng]
  rw [lm] at hj3 hkl
  have lz : ks.length ≤ PySem.sizeLine := Nat.le_trans (show ks.length ≤ 60 by omega) (by decide)
  have es : pSorted (.dT ks vs) = some (.lst (pSort (ks.map fun k => PV.tup (k.map pKeyV)))) := by
    simp only [pSorted, pSeqOf]
    rw [if_pos (sort_t3 (fun x hx => (keys_t3 hk x hx).t3) (by simpa using lz))]
  have hms : ∀ x ∈ pSort (ks.map fun k => PV.tup (k.map pKeyV)), T3 x := fun x hx => keys_t3 hk x (pSort_mem.mp hx)
  have hml : (pSort (ks.map fun k => PV.tup (k.map pKeyV))).length ≤ 60 := by rw [pSort_len, List.length_map]; omega
  generalize pSort (ks.map fun k => PV.tup (k.map pKeyV)) = ms at *
  have lc : ∀ a0 a1 a2 a3 a7, lcP (.tp ((.nm 4) :: (.nm 5) :: (.nm 6) :: [])) qYes (qVar 6) [4, 5, 6] ms [a0, a1, a2, a3, none, none, none, a7, none] = .ok (ms.map fun v => PV.int (thd v)) [a0, a1, a2, a3, none, none, none, a7, none] := fun a0 a1 a2 a3 a7 => by
    refine lcP_map (fun v => PV.int (thd v)) ms fun v hv => ?_
    obtain ⟨a, b, d, rfl, _⟩ := hms v hv
    exact ⟨[a0, a1, a2, a3, some (.sh (.int a)), some (.sh (.int b)), some (.sh (.int d)), a7, none], by simp [pRunOf, entP, mkSl, outsP, slv, PSl.val, tSeq, tNil, tRet, tRetN, tRetO, tIf, tAsg, tAsgF, tDrop, tAsgT, tgP, tgPs, noMu, tPar, inst, tSt, setM, stv, qVar, qFrz, qPk, qCon, qB2, qB2s, qU, qNil, qCons, qTup, qLst, qCall, qIf, qTru, qNotB, qAndB, qOrB, qAnd, qOr, qNot, qAsB, qChain, qIsT, qSl, qNo, qSo, pOI, qRun, qArgs, mOk, isMs, isM, setOuts, outS, qMut, qMut0, tyP, ptru, ptoB, pTy, isTy, pLen, pInt, pIx, atI, ixN, pAdd, pSub, pI, pDiv, pMod, pNeg, pGt, pGe, pLe, pLt, pIsN, pNotN, pTup, pLst, pSet, pAppend, pExtend, qNewT, qNewK, qYes, ofP, PR.bind, PR.toFl, PFl.seq, PR.ne, tRaise], by simp [pRunOf, entP, mkSl, outsP, slv, PSl.val, tSeq, tNil, tRet, tRetN, tRetO, tIf, tAsg, tAsgF, tDrop, tAsgT, tgP, tgPs, noMu, tPar, inst, tSt, setM, stv, qVar, qFrz, qPk, qCon, qB2, qB2s, qU, qNil, qCons, qTup, qLst, qCall, qIf, qTru, qNotB, qAndB, qOrB, qAnd, qOr, qNot, qAsB, qChain, qIsT, qSl, qNo, qSo, pOI, qRun, qArgs, mOk, isMs, isM, setOuts, outS, qMut, qMut0, tyP, ptru, ptoB, pTy, isTy, pLen, pInt, pIx, atI, ixN, pAdd, pSub, pI, pDiv, pMod, pNeg, pGt, pGe, pLe, pLt, pIsN, pNotN, pTup, pLst, pSet, pAppend, pExtend, qNewT, qNewK, qYes, ofP, PR.bind, PR.toFl, PFl.seq, PR.ne, tRaise], by simp [thd, pRunOf, entP, mkSl, outsP, slv, PSl.val, tSeq, tNil, tRet, tRetN, tRetO, tIf, tAsg, tAsgF, tDrop, tAsgT, tgP, tgPs, noMu, tPar, inst, tSt, setM, stv, qVar, qFrz, qPk, qCon, qB2, qB2s, qU, qNil, qCons, qTup, qLst, qCall, qIf, qTru, qNotB, qAndB, qOrB, qAnd, qOr, qNot, qAsB, qChain, qIsT, qSl, qNo, qSo, pOI, qRun, qArgs, mOk, isMs, isM, setOuts, outS, qMut, qMut0, tyP, ptru, ptoB, pTy, isTy, pLen, pInt, pIx, atI, ixN, pAdd, pSub, pI, pDiv, pMod, pNeg, pGt, pGe, pLe, pLt, pIsN, pNotN, pTup, pLst, pSet, pAppend, pExtend, qNewT, qNewK, qYes, ofP, PR.bind, PR.toFl, PFl.seq, PR.ne, tRaise], by simp [wipeP]⟩
  have db : ∀ d ∈ ms.map thd, 0 ≤ d ∧ d ≤ 20 := fun d hd => by
    obtain ⟨v, hv, rfl⟩ := List.mem_map.mp hd
    exact thd_t3 (hms v hv)
  have emx : pMax1 (.lst (.int 0 :: ms.map fun v => PV.int (thd v))) = some (.int (longest (ms.map thd))) := by
    simp only [pMax1, pInts, ints_t3, Option.map_some]
    rw [if_pos (by simp), longest_eq db]
  have lb := longest_bound db
  have m2 := mul2 lb
  generalize longest (ms.map thd) = L at *
  obtain ⟨t, j4, e4, t0, t1, hj4⟩ := take_p (m := 49 - (2 * L + 1)) hj3 (by omega) (by omega) (by omega)
  obtain ⟨p, j5, e5, hp, hj5⟩ := one_p (xs := [.int 0, .int 0, .int (2 * L + 1), .int (2 * L + 1 + t), .int 48]) hj4 (by omega) (by simp) (by simp)
  obtain ⟨pp, rfl⟩ : ∃ pp, p = .int pp := by
    simp at hp
    rcases hp with rfl | rfl | rfl | rfl <;> exact ⟨_, rfl⟩
  have lz1 : ms.length ≤ PySem.sizeLine := Nat.le_trans hml (by decide)
  have lz2 : 1 + ms.length ≤ PySem.sizeLine := Nat.le_trans (show 1 + ms.length ≤ 61 by omega) (by decide)
  have n3 := nm_of_ok h3
  refine ⟨nn, ms, pp, j5, ?_, hj5.mono (by omega), hml, hms⟩
  simp [P__law_xp_net, p__law_xp_net, e1, tFor, er, ef, es, qLc, qSeq, pItems, okOwn, h4, h5, h6, wipeP, backP, lc, lz1, lz2, emx, pAddL, m2, e4, e5, sl, sl9, sl5, sl3, sl1, pRunOf, entP, mkSl, outsP, slv, PSl.val, tSeq, tNil, tRet, tRetN, tRetO, tIf, tAsg, tAsgF, tDrop, tAsgT, tgP, tgPs, noMu, tPar, inst, tSt, setM, stv, qVar, qFrz, qPk, qCon, qB2, qB2s, qU, qNil, qCons, qTup, qLst, qCall, qIf, qTru, qNotB, qAndB, qOrB, qAnd, qOr, qNot, qAsB, qChain, qIsT, qSl, qNo, qSo, pOI, qRun, qArgs, mOk, isMs, isM, setOuts, outS, qMut, qMut0, tyP, ptru, ptoB, pTy, isTy, pLen, pInt, pIx, atI, ixN, pAdd, pSub, pI, pDiv, pMod, pNeg, pGt, pGe, pLe, pLt, pIsN, pNotN, pTup, pLst, pSet, pAppend, pExtend, qNewT, qNewK, qYes, ofP, PR.bind, PR.toFl, PFl.seq, PR.ne, tRaise]
end K01

set_option maxRecDepth 100000
set_option maxHeartbeats 4000000
namespace K01
open G P
open L2 (atI ixN)
theorem cut_to {xs : List PV} {a : Nat} (h : a ≤ xs.length) : pSlT (.tup xs) none (some (a : Int)) = some (.tup (xs.take a)) := by
  simp [pSlT, pCut, HT.sIx]
  rw [if_neg (by omega)]
  simp
theorem cut_from {xs : List PV} {a : Nat} (h : a ≤ xs.length) : pSlT (.tup xs) (some (a : Int)) none = some (.tup (xs.drop a)) := by
  simp only [pSlT, pCut, HT.sIx]
  rw [if_neg (by omega)]
  simp [Nat.min_eq_left h]
  rw [List.take_of_length_le (by simp)]
theorem addT {xs ys : List PV} (h : xs.length + ys.length ≤ 10000000) : pAdd (.tup xs) (.tup ys) = some (.tup (xs ++ ys)) := by
  simp only [pAdd]
  rw [if_pos (Nat.le_trans h (by decide))]
theorem wtL_split {xs : List PV} {a : Nat} (h : a < xs.length) : wtL xs = wtL (xs.take a) + (wt (xs.getD a .non) + wtL (xs.drop (a + 1))) := by
  have e : xs = xs.take a ++ (xs.getD a .non :: xs.drop (a + 1)) := by
    rw [List.getD_eq_getElem?_getD, List.getElem?_eq_getElem h]
    simp
  conv => lhs; rw [e]
  rw [wtL_append, wtL]
theorem wtL_split' {xs : List PV} {a : Nat} : wtL xs = wtL (xs.take a) + wtL (xs.drop a) := by
  rw [← wtL_append, List.take_append_drop]
theorem wtL_rev : ∀ xs : List PV, wtL xs.reverse = wtL xs
  | [] => rfl
  | x :: xs => by rw [List.reverse_cons, wtL_append, wtL_rev xs]; simp [wtL]; omega
def odds11 : List PV := [.non, .str "0", .bl true, .bl false, .int (-1), .int 0, .int 10000000000000000000000000, .tup [], .tup [.int 0], .lst [.int 0], .str "net"]
theorem odd_ok {x : PV} (h : x ∈ odds11) : Gd 2 x ∧ wt x ≤ 2 := by
  simp [odds11] at h
  rcases h with rfl | rfl | rfl | rfl | rfl | rfl | rfl | rfl | rfl | rfl | rfl
  · exact ⟨trivial, by simp [wt]⟩
  · exact ⟨gd_str (by decide +kernel), by simp [wt]⟩
  · exact ⟨trivial, by simp [wt]⟩
  · exact ⟨trivial, by simp [wt]⟩
  · exact ⟨trivial, by simp [wt]⟩
  · exact ⟨trivial, by simp [wt]⟩
  · exact ⟨trivial, by simp [wt]⟩
  · exact ⟨(by intro y hy; cases hy), by simp [wt, wtL]⟩
  · exact ⟨(by intro y hy; simp at hy; subst hy; trivial), by simp [wt, wtL]⟩
  · exact ⟨(by intro y hy; simp at hy; subst hy; trivial), by simp [wt, wtL]⟩
  · exact ⟨gd_str (by decide +kernel), by simp [wt]⟩
theorem bent_p : ∀ (n m : Nat) (t : PV) (c : Nat) (j : PV), n ≤ m → n ≤ 12 → Gd n t → wt t ≤ 1000000 → JO c j → c + 3 * n ≤ 1000000 → ∃ t' j', P__law_xp_bent m [j, t] = .ok t' [j'] ∧ JO (c + 3 * n) j' ∧ Gd (n + 2) t' ∧ wt t' ≤ 2 * wt t + 3
  | 0, _, _, _, _, _, _, h, _, _, _ => h.elim
  | n + 1, 0, _, _, _, h, _, _, _, _, _ => absurd h (by omega)
  | n + 1, m + 1, t, c, j, hm, hn, hg, hw, hj, hc => by
    obtain ⟨odd, j1, e1, hx, hj1⟩ := one_p (xs := odds11) hj (by omega) (by simp [odds11]) (by simp [odds11])
    obtain ⟨og, ow⟩ := odd_ok hx
    have wp := wt_pos t
    simp only [odds11] at e1
    have sl : 11 ≤ PySem.sizeLine := by decide
    have sl1 : 1 ≤ PySem.sizeLine := by decide
    have sl3 : 3 ≤ PySem.sizeLine := by decide
    have sl6 : 6 ≤ PySem.sizeLine := by decide
    have ez : pPow (.int 10) (.int 25) = some (.int 10000000000000000000000000) := by simp [pPow]
    by_cases ht : ∃ xs, t = .tup xs
    · obtain ⟨xs, rfl⟩ := ht
      have eq0 : pEq (.tup xs) (.tup []) = some (.bl xs.isEmpty) := by unfold pEq; rw [eqB_nil hg (by omega)]; rfl
      cases hx0 : xs.isEmpty with
      | true =>
        rw [hx0] at eq0
        refine ⟨odd, j1, ?_, hj1.mono (by omega), og.mono (by omega), by omega⟩
        simp [P__law_xp_bent, p__law_xp_bent, e1, ez, eq0, sl, sl1, pRunOf, entP, mkSl, outsP, slv, PSl.val, tSeq, tNil, tRet, tRetN, tRetO, tIf, tAsg, tAsgF, tDrop, tAsgT, tgP, tgPs, noMu, tPar, inst, tSt, setM, stv, qVar, qFrz, qPk, qCon, qB2, qB2s, qU, qNil, qCons, qTup, qLst, qCall, qIf, qTru, qNotB, qAndB, qOrB, qAnd, qOr, qNot, qAsB, qChain, qIsT, qSl, qNo, qSo, pOI, qRun, qArgs, mOk, isMs, isM, setOuts, outS, qMut, qMut0, tyP, ptru, ptoB, pTy, isTy, pLen, pInt, pIx, atI, ixN, pAdd, pSub, pI, pDiv, pMod, pNeg, pGt, pGe, pLe, pLt, pIsN, pNotN, pTup, pLst, pSet, pAppend, pExtend, qNewT, qNewK, qYes, ofP, PR.bind, PR.toFl, PFl.seq, PR.ne, tRaise]
      | false =>
        rw [hx0] at eq0
        have hp : 0 < xs.length := by cases xs <;> simp_all
        have hwl := wtL_len xs
        have hwx : wt (.tup xs) = 1 + wtL xs := by simp [wt]
        obtain ⟨a', j2, e2, a0, a1, hj2⟩ := take_p (m := xs.length) hj1 (by omega) (by omega) (by omega)
        obtain ⟨f, j3, e3, f0, f1, hj3⟩ := take_p (m := 9) hj2 (by decide) (by omega) (by omega)
        obtain ⟨a, rfl⟩ : ∃ a : Nat, a' = a := ⟨a'.toNat, by omega⟩
        have ha : a < xs.length := by omega
        have i0 := pIx_nat (w := .tup xs) (us := xs) (.inl rfl) ha
        have c1 := cut_to (xs := xs) (a := a) (by omega)
        have c2 := cut_from (xs := xs) (a := a + 1) (by omega)
        have c3 := cut_to (xs := xs) (a := a + 1) (by omega)
        have c4 := cut_from (xs := xs) (a := a) (by omega)
        simp only [Int.natCast_add, Int.cast_ofNat_Int] at c2 c3
        have gx : ∀ x ∈ xs, Gd n x := hg
        have gt : ∀ x ∈ xs.take a, Gd n x := fun x h => gx x (List.mem_of_mem_take h)
        have gd : ∀ x ∈ xs.drop (a + 1), Gd n x := fun x h => gx x (List.mem_of_mem_drop h)
        have w1 := wtL_split ha
        have w2 := wtL_split' (xs := xs) (a := a)
        have w3 := wtL_split' (xs := xs) (a := a + 1)
        have lt1 : (xs.take a).length = a := by simp; omega
        have lt2 : (xs.drop (a + 1)).length = xs.length - (a + 1) := by simp
        have lt3 : (xs.take (a + 1)).length = a + 1 := by simp; omega
        have lt4 : (xs.drop a).length = xs.length - a := by simp
        have gxa : Gd n (xs.getD a .non) := gx _ (by rw [List.getD_eq_getElem?_getD, List.getElem?_eq_getElem ha]; exact List.getElem_mem ha)
        generalize xs.getD a .non = xa at i0 w1 gxa
        by_cases hf : f < 3
        · obtain ⟨r, j4, e4, hj4, gr, wr⟩ := bent_p n m xa (c + 3) j3 (by omega) (by omega) gxa (by omega) (hj3.mono (by omega)) (by omega)
          have A1 := addT (xs := xs.take a) (ys := [r]) (by simp; omega)
          have A2 := addT (xs := xs.take a ++ [r]) (ys := xs.drop (a + 1)) (by simp; omega)
          refine ⟨.tup ((xs.take a ++ [r]) ++ xs.drop (a + 1)), j4, ?_, hj4.mono (by omega), ?_, ?_⟩
          · simp [P__law_xp_bent, p__law_xp_bent, e1, ez, eq0, e2, e3, hf, c1, c2, i0, e4, A1, A2, sl, sl1, pRunOf, entP, mkSl, outsP, slv, PSl.val, tSeq, tNil, tRet, tRetN, tRetO, tIf, tAsg, tAsgF, tDrop, tAsgT, tgP, tgPs, noMu, tPar, inst, tSt, setM, stv, qVar, qFrz, qPk, qCon, qB2, qB2s, qU, qNil, qCons, qTup, qLst, qCall, qIf, qTru, qNotB, qAndB, qOrB, qAnd, qOr, qNot, qAsB, qChain, qIsT, qSl, qNo, qSo, pOI, qRun, qArgs, mOk, isMs, isM, setOuts, outS, qMut, qMut0, tyP, ptru, ptoB, pTy, isTy, pLen, pInt, atI, ixN, pAddI, pSub, pI, pDiv, pMod, pNeg, pGt, pGe, pLe, pLt, pIsN, pNotN, pTup, pLst, pSet, pAppend, pExtend, qNewT, qNewK, qYes, ofP, PR.bind, PR.toFl, PFl.seq, PR.ne, tRaise]
          · intro y hy
            simp only [List.mem_append, List.mem_singleton] at hy
            rcases hy with (hy | rfl) | hy
            · exact (gt y hy).mono (by omega)
            · exact gr.mono (by omega)
            · exact (gd y hy).mono (by omega)
          · simp only [wt, wtL_append, wtL]
            omega
        · have A1 := addT (xs := xs.take a) (ys := [odd]) (by simp; omega)
          have A2 := addT (xs := xs.take a ++ [odd]) (ys := xs.drop (a + 1)) (by simp; omega)
          have A3 := addT (xs := xs.take a) (ys := xs.drop (a + 1)) (by simp; omega)
          have A4 := addT (xs := xs.take (a + 1)) (ys := xs.drop a) (by simp; omega)
          have A5 := addT (xs := xs.take a) (ys := (xs.drop a).reverse) (by simp; omega)
          have A6 := addT (xs := xs) (ys := [odd]) (by simp; omega)
          have hall : ∀ y ∈ [PV.tup ((xs.take a ++ [odd]) ++ xs.drop (a + 1)), .tup (xs.take a ++ xs.drop (a + 1)), .tup (xs.take (a + 1) ++ xs.drop a), .tup (xs.take a ++ (xs.drop a).reverse), .lst xs, .tup (xs ++ [odd])], Gd (n + 3) y ∧ wt y ≤ 2 * wt (.tup xs) + 3 := by
            intro y hy
            simp only [List.mem_cons, List.not_mem_nil, or_false] at hy
            have mo : ∀ x ∈ xs, Gd (n + 2) x := fun x h => (gx x h).mono (by omega)
            have oo : Gd (n + 2) odd := og.mono (by omega)
            have w4 := wtL_rev (xs.drop a)
            rcases hy with rfl | rfl | rfl | rfl | rfl | rfl
            · refine ⟨fun z hz => ?_, by simp only [wt, wtL_append, wtL]; omega⟩
              simp only [List.mem_append, List.mem_singleton] at hz
              rcases hz with (hz | rfl) | hz
              · exact mo z (List.mem_of_mem_take hz)
              · exact oo
              · exact mo z (List.mem_of_mem_drop hz)
            · refine ⟨fun z hz => ?_, by simp only [wt, wtL_append]; omega⟩
              rcases List.mem_append.mp hz with hz | hz
              · exact mo z (List.mem_of_mem_take hz)
              · exact mo z (List.mem_of_mem_drop hz)
            · refine ⟨fun z hz => ?_, by simp only [wt, wtL_append]; omega⟩
              rcases List.mem_append.mp hz with hz | hz
              · exact mo z (List.mem_of_mem_take hz)
              · exact mo z (List.mem_of_mem_drop hz)
            · refine ⟨fun z hz => ?_, by simp only [wt, wtL_append]; omega⟩
              rcases List.mem_append.mp hz with hz | hz
              · exact mo z (List.mem_of_mem_take hz)
              · exact mo z (List.mem_of_mem_drop (List.mem_reverse.mp hz))
            · exact ⟨mo, by simp only [wt]; omega⟩
            · refine ⟨fun z hz => ?_, by simp only [wt, wtL_append, wtL]; omega⟩
              simp only [List.mem_append, List.mem_singleton] at hz
              rcases hz with hz | rfl
              · exact mo z hz
              · exact oo
          obtain ⟨k, hk, hk6⟩ : ∃ k : Nat, f - 3 = k ∧ k < 6 := ⟨(f - 3).toNat, by omega, by omega⟩
          have hI := pIx_nat (w := .lst [PV.tup ((xs.take a ++ [odd]) ++ xs.drop (a + 1)), .tup (xs.take a ++ xs.drop (a + 1)), .tup (xs.take (a + 1) ++ xs.drop a), .tup (xs.take a ++ (xs.drop a).reverse), .lst xs, .tup (xs ++ [odd])]) (us := _) (.inr rfl) (i := k) (by simpa using hk6)
          have hmem : [PV.tup ((xs.take a ++ [odd]) ++ xs.drop (a + 1)), .tup (xs.take a ++ xs.drop (a + 1)), .tup (xs.take (a + 1) ++ xs.drop a), .tup (xs.take a ++ (xs.drop a).reverse), .lst xs, .tup (xs ++ [odd])].getD k .non ∈ [PV.tup ((xs.take a ++ [odd]) ++ xs.drop (a + 1)), .tup (xs.take a ++ xs.drop (a + 1)), .tup (xs.take (a + 1) ++ xs.drop a), .tup (xs.take a ++ (xs.drop a).reverse), .lst xs, .tup (xs ++ [odd])] := by
            rw [List.getD_eq_getElem?_getD, List.getElem?_eq_getElem (by simpa using hk6)]
            exact List.getElem_mem _
          obtain ⟨g, w⟩ := hall _ hmem
          refine ⟨_, j3, ?_, hj3.mono (by omega), g, w⟩
          rw [← hk] at hI
          generalize [PV.tup ((xs.take a ++ [odd]) ++ xs.drop (a + 1)), .tup (xs.take a ++ xs.drop (a + 1)), .tup (xs.take (a + 1) ++ xs.drop a), .tup (xs.take a ++ (xs.drop a).reverse), .lst xs, .tup (xs ++ [odd])].getD k .non = res at *
          simp at hI A2
          simp [P__law_xp_bent, p__law_xp_bent, e1, ez, eq0, e2, e3, hf, c1, c2, c3, c4, i0, A1, A2, A3, A4, A5, A6, hI, pRevT, sl, sl1, sl3, sl6, pRunOf, entP, mkSl, outsP, slv, PSl.val, tSeq, tNil, tRet, tRetN, tRetO, tIf, tAsg, tAsgF, tDrop, tAsgT, tgP, tgPs, noMu, tPar, inst, tSt, setM, stv, qVar, qFrz, qPk, qCon, qB2, qB2s, qU, qNil, qCons, qTup, qLst, qCall, qIf, qTru, qNotB, qAndB, qOrB, qAnd, qOr, qNot, qAsB, qChain, qIsT, qSl, qNo, qSo, pOI, qRun, qArgs, mOk, isMs, isM, setOuts, outS, qMut, qMut0, tyP, ptru, ptoB, pTy, isTy, pLen, pInt, atI, ixN, pAddI, pSub, pI, pDiv, pMod, pNeg, pGt, pGe, pLe, pLt, pIsN, pNotN, pTup, pLst, pSet, pAppend, pExtend, qNewT, qNewK, qYes, ofP, PR.bind, PR.toFl, PFl.seq, PR.ne, tRaise]
    · have hnt : ∀ ms, t ≠ .tup ms := fun ms e => ht ⟨ms, e⟩
      have et := isT_ne hnt
      simp [isTy] at et
      refine ⟨odd, j1, ?_, hj1.mono (by omega), og.mono (by omega), by omega⟩
      simp [P__law_xp_bent, p__law_xp_bent, e1, ez, et, sl, sl1, pRunOf, entP, mkSl, outsP, slv, PSl.val, tSeq, tNil, tRet, tRetN, tRetO, tIf, tAsg, tAsgF, tDrop, tAsgT, tgP, tgPs, noMu, tPar, inst, tSt, setM, stv, qVar, qFrz, qPk, qCon, qB2, qB2s, qU, qNil, qCons, qTup, qLst, qCall, qIf, qTru, qNotB, qAndB, qOrB, qAnd, qOr, qNot, qAsB, qChain, qIsT, qSl, qNo, qSo, pOI, qRun, qArgs, mOk, isMs, isM, setOuts, outS, qMut, qMut0, tyP, ptru, ptoB, isTy, pLen, pInt, pIx, atI, ixN, pAdd, pSub, pI, pDiv, pMod, pNeg, pGt, pGe, pLe, pLt, pIsN, pNotN, pTup, pLst, pSet, pAppend, pExtend, qNewT, qNewK, qYes, ofP, PR.bind, PR.toFl, PFl.seq, PR.ne, tRaise]
end K01

set_option maxRecDepth 100000
set_option maxHeartbeats 4000000
namespace K01
open G P
open L2 (atI ixN)
def SM (x : PV) : Prop := Gd 9 x ∧ wt x ≤ 300000
def GT (t : PV) : Prop := Gd 10 t ∧ wt t ≤ 4000000
theorem SM.gt {x : PV} (h : SM x) : GT x := ⟨h.1.mono (by decide), by have := h.2; omega⟩
theorem wtL_le {B : Nat} : ∀ {xs : List PV}, (∀ x ∈ xs, wt x ≤ B) → wtL xs ≤ xs.length * B
  | [], _ => by simp [wtL]
  | x :: xs, h => by
    have h1 := h x List.mem_cons_self
    have h2 := wtL_le (xs := xs) fun y hy => h y (List.mem_cons_of_mem _ hy)
    simp only [wtL, List.length_cons, Nat.add_mul, Nat.one_mul]
    omega
theorem gt_tup {xs : List PV} (h : ∀ x ∈ xs, SM x) (hl : xs.length ≤ 10) : GT (.tup xs) := by
  refine ⟨fun x hx => (h x hx).1, ?_⟩
  have := wtL_le fun x hx => (h x hx).2
  have h2 : xs.length * 300000 ≤ 10 * 300000 := Nat.mul_le_mul_right _ hl
  simp only [wt]; omega
theorem gt_lst {xs : List PV} (h : ∀ x ∈ xs, SM x) (hl : xs.length ≤ 10) : GT (.lst xs) := by
  refine ⟨fun x hx => (h x hx).1, ?_⟩
  have := wtL_le fun x hx => (h x hx).2
  have h2 : xs.length * 300000 ≤ 10 * 300000 := Nat.mul_le_mul_right _ hl
  simp only [wt]; omega
theorem sm_int (i : Int) : SM (.int i) := ⟨trivial, by simp [wt]⟩
theorem sm_bl (i : Bool) : SM (.bl i) := ⟨trivial, by simp [wt]⟩
theorem sm_non : SM .non := ⟨trivial, by simp [wt]⟩
theorem sm_nil : SM (.tup []) := ⟨(by intro x hx; cases hx), by simp [wt, wtL]⟩
theorem sm_s1 : SM (.str "1") := ⟨gd_str (by decide +kernel), by simp [wt]⟩
theorem sm_s0 : SM (.str "0") := ⟨gd_str (by decide +kernel), by simp [wt]⟩
/-- something small -/
def OD (x : PV) : Prop := Gd 8 x ∧ wt x ≤ 20
theorem OD.sm {x : PV} (h : OD x) : SM x := ⟨h.1.succ, by have := h.2; omega⟩
theorem sm_many {xs : List PV} (h : ∀ x ∈ xs, OD x) (hl : xs.length ≤ 10000) : SM (.tup xs) ∧ SM (.lst xs) := by
  have := wtL_le fun x hx => (h x hx).2
  have h2 : xs.length * 20 ≤ 10000 * 20 := Nat.mul_le_mul_right _ hl
  exact ⟨⟨fun x hx => (h x hx).1, by simp only [wt]; omega⟩, ⟨fun x hx => (h x hx).1, by simp only [wt]; omega⟩⟩
theorem od_t3 {x : PV} (h : T3 x) : OD x := by
  obtain ⟨a, b, d, rfl, _⟩ := h
  exact ⟨by intro y hy; simp at hy; rcases hy with rfl | rfl | rfl <;> trivial, by simp [wt, wtL]⟩
theorem od_non : OD .non := ⟨trivial, by simp [wt]⟩
def rep (k : Nat) (xs : List PV) : List PV := (List.replicate k xs).flatten
theorem rep_mem {k : Nat} {xs : List PV} {x : PV} (h : x ∈ rep k xs) : x ∈ xs := by
  unfold rep at h
  obtain ⟨l, h1, h2⟩ := List.mem_flatten.mp h
  rw [List.eq_of_mem_replicate h1] at h2
  exact h2
theorem rep_len {k : Nat} {xs : List PV} : (rep k xs).length = k * xs.length := by unfold rep; simp
theorem mul_rep {xs : List PV} {k : Nat} (h : 1 ≤ k ∧ k ≤ 1000) (hl : xs.length ≤ 1000) : pMul (.tup xs) (.int (k : Int)) = some (.tup (rep k xs)) := by
  simp only [pMul]
  rw [if_pos ⟨by omega, hl⟩]
  rfl
theorem cut_any {xs : List PV} {a : Nat} : pSlT (.tup xs) none (some (a : Int)) = some (.tup (xs.take a)) := by
  simp [pSlT, pCut, HT.sIx]
  rw [if_neg (by omega)]
  simp
theorem cut_any' {xs : List PV} {a : Nat} : pSlT (.tup xs) (some (a : Int)) none = some (.tup (xs.drop a)) := by
  by_cases h : a ≤ xs.length
  · exact cut_from h
  · simp only [pSlT, pCut, HT.sIx]
    rw [if_neg (by omega)]
    simp
    rw [Nat.min_eq_right (by omega)]
    simp
    omega
theorem seq_ex {p q : PS} {π : PEnv} {R : PFl → Prop} (h : ∃ π1, p π = .nx π1 ∧ R (q π1)) : R (tSeq p q π) := by
  obtain ⟨π1, e, h⟩ := h
  rw [tseq e]; exact h
def rv (v : PV) : PV := match v with
  | .tup [a, b, _] => .tup [b, a, .int 0]
  | _ => .non
def oddM (nn : Int) (ms : List PV) : List PV := [PV.tup [PV.int 0, PV.int 0, PV.int 0], PV.tup [PV.int 0, PV.int nn, PV.int 1],
  PV.tup [PV.int nn, PV.int 0, PV.int 1], PV.tup [PV.int (-1), PV.int 0, PV.int 1],
  PV.tup [PV.int 0, PV.int 0, PV.int 21], PV.tup [PV.int 0, PV.int 0, PV.int (-1)],
  PV.tup [PV.int 0, PV.int 0], PV.tup [PV.int 0, PV.int 0, PV.int 1, PV.int 0],
  PV.lst [PV.int 0, PV.int 0, PV.int 1], PV.non, PV.int 5, PV.tup [],
  .tup [.bl false, .int 0, .int 1], .tup [.int 0, .int 0, .bl true], .tup [.int 0, .int 0, .non], .tup [.str "0", .int 0, .int 1],
  .tup [.int 0, .tup [.int 0], .int 1], .tup [.int 0, .int 1, .int 0], .tup [.int 1, .int 0, .int 0], .tup [.int 0, .int 0, .int 20]] ++ ((ms.take 2).map rv ++ ms.take 1)
theorem od_int3 (a b c : Int) : OD (.tup [.int a, .int b, .int c]) := ⟨by intro y hy; simp at hy; rcases hy with rfl | rfl | rfl <;> trivial, by simp [wt, wtL]⟩
theorem oddM_od {nn : Int} {ms : List PV} (ht : ∀ x ∈ ms, T3 x) : ∀ x ∈ oddM nn ms, OD x := by
  intro x h
  unfold oddM at h
  rcases List.mem_append.mp h with h | h
  · simp only [List.mem_cons, List.not_mem_nil, or_false] at h
    rcases h with rfl | rfl | rfl | rfl | rfl | rfl | rfl | rfl | rfl | rfl | rfl | rfl | rfl | rfl | rfl | rfl | rfl | rfl | rfl | rfl
    all_goals first
      | exact od_int3 _ _ _
      | exact od_non
      | exact ⟨trivial, by simp [wt]⟩
      | (refine ⟨?_, by simp [wt, wtL]⟩; intro y hy; simp at hy; rcases hy with rfl | rfl | rfl <;> first | trivial | exact gd_str (by decide +kernel) | (intro z hz; simp at hz; subst hz; trivial))
      | (refine ⟨?_, by simp [wt, wtL]⟩; intro y hy; simp at hy; rcases hy with rfl | rfl <;> first | trivial | exact gd_str (by decide +kernel) | (intro z hz; simp at hz; subst hz; trivial))
      | (refine ⟨?_, by simp [wt, wtL]⟩; intro y hy; simp at hy; subst hy; trivial)
      | (refine ⟨?_, by simp [wt, wtL]⟩; intro y hy; cases hy)
  · rcases List.mem_append.mp h with h | h
    · obtain ⟨v, hv, rfl⟩ := List.mem_map.mp h
      obtain ⟨a, b, d, rfl, _⟩ := ht v (List.mem_of_mem_take hv)
      exact od_int3 _ _ _
    · exact od_t3 (ht x (List.mem_of_mem_take h))
def RT (c : Nat) (r : PFl) : Prop := ∃ L π' j', r = .ret (.lst L) π' ∧ slv 0 π' = some j' ∧ JO c j' ∧ ∀ t ∈ L, GT t
theorem things_p {c : Nat} {j : PV} {nn p : Int} {ms : List PV} (hj : JO c j) (hc : c ≤ 900000) (hl : ms.length ≤ 60) (ht : ∀ x ∈ ms, T3 x) : ∃ L j', P__law_n1_things [j, .tup [.int nn, .tup ms, .int p]] = .ok (.lst L) [j'] ∧ JO (c + 200) j' ∧ ∀ t ∈ L, GT t := by
  have key : RT (c + 200) (p__law_n1_things [some (.mu j), some (.sh (.tup [.int nn, .tup ms, .int p])), none, none, none, none, none, none, none, none, none, none, none, none]) := by
    have lz1 : ms.length ≤ PySem.sizeLine := Nat.le_trans hl (by decide)
    have lz2 : 1 + ms.length ≤ PySem.sizeLine := Nat.le_trans (show 1 + ms.length ≤ 61 by omega) (by decide)
    have lc : ∀ a0 a1 a2 a3 a4, lcP (.tp ((.nm 6) :: (.nm 7) :: (.nm 8) :: [])) qYes (qVar 8) [6, 7, 8] ms [a0, a1, a2, a3, a4, none, none, none, none, none, none, none, none, none] = .ok (ms.map fun v => PV.int (thd v)) [a0, a1, a2, a3, a4, none, none, none, none, none, none, none, none, none] := fun a0 a1 a2 a3 a4 => by
      refine lcP_map (fun v => PV.int (thd v)) ms fun v hv => ?_
      obtain ⟨a, b, d, rfl, _⟩ := ht v hv
      exact ⟨[a0, a1, a2, a3, a4, none, some (.sh (.int a)), some (.sh (.int b)), some (.sh (.int d)), none, none, none, none, none], by simp [pRunOf, entP, mkSl, outsP, slv, PSl.val, tSeq, tNil, tRet, tRetN, tRetO, tIf, tAsg, tAsgF, tDrop, tAsgT, tgP, tgPs, noMu, tPar, inst, tSt, setM, stv, qVar, qFrz, qPk, qCon, qB2, qB2s, qU, qNil, qCons, qTup, qLst, qCall, qIf, qTru, qNotB, qAndB, qOrB, qAnd, qOr, qNot, qAsB, qChain, qIsT, qSl, qNo, qSo, pOI, qRun, qArgs, mOk, isMs, isM, setOuts, outS, qMut, qMut0, tyP, ptru, ptoB, pTy, isTy, pLen, pInt, pIx, atI, ixN, pAdd, pSub, pI, pDiv, pMod, pNeg, pGt, pGe, pLe, pLt, pIsN, pNotN, pTup, pLst, pSet, pAppend, pExtend, qNewT, qNewK, qYes, ofP, PR.bind, PR.toFl, PFl.seq, PR.ne, tRaise], by simp [pRunOf, entP, mkSl, outsP, slv, PSl.val, tSeq, tNil, tRet, tRetN, tRetO, tIf, tAsg, tAsgF, tDrop, tAsgT, tgP, tgPs, noMu, tPar, inst, tSt, setM, stv, qVar, qFrz, qPk, qCon, qB2, qB2s, qU, qNil, qCons, qTup, qLst, qCall, qIf, qTru, qNotB, qAndB, qOrB, qAnd, qOr, qNot, qAsB, qChain, qIsT, qSl, qNo, qSo, pOI, qRun, qArgs, mOk, isMs, isM, setOuts, outS, qMut, qMut0, tyP, ptru, ptoB, pTy, isTy, pLen, pInt, pIx, atI, ixN, pAdd, pSub, pI, pDiv, pMod, pNeg, pGt, pGe, pLe, pLt, pIsN, pNotN, pTup, pLst, pSet, pAppend, pExtend, qNewT, qNewK, qYes, ofP, PR.bind, PR.toFl, PFl.seq, PR.ne, tRaise], by simp [thd, pRunOf, entP, mkSl, outsP, slv, PSl.val, tSeq, tNil, tRet, tRetN, tRetO, tIf, tAsg, tAsgF, tDrop, tAsgT, tgP, tgPs, noMu, tPar, inst, tSt, setM, stv, qVar, qFrz, qPk, qCon, qB2, qB2s, qU, qNil, qCons, qTup, qLst, qCall, qIf, qTru, qNotB, qAndB, qOrB, qAnd, qOr, qNot, qAsB, qChain, qIsT, qSl, qNo, qSo, pOI, qRun, qArgs, mOk, isMs, isM, setOuts, outS, qMut, qMut0, tyP, ptru, ptoB, pTy, isTy, pLen, pInt, pIx, atI, ixN, pAdd, pSub, pI, pDiv, pMod, pNeg, pGt, pGe, pLe, pLt, pIsN, pNotN, pTup, pLst, pSet, pAppend, pExtend, qNewT, qNewK, qYes, ofP, PR.bind, PR.toFl, PFl.seq, PR.ne, tRaise], by simp [wipeP]⟩
    have db : ∀ d ∈ ms.map thd, 0 ≤ d ∧ d ≤ 20 := fun d hd => by
      obtain ⟨v, hv, rfl⟩ := List.mem_map.mp hd
      exact thd_t3 (ht v hv)
    have emx : pMax1 (.lst (.int 0 :: ms.map fun v => PV.int (thd v))) = some (.int (longest (ms.map thd))) := by
      simp only [pMax1, pInts, ints_t3, Option.map_some]
      rw [if_pos (by simp), longest_eq db]
    have lb := longest_bound db
    have m2 := mul2 lb
    have s0 : 1 ≤ PySem.sizeLine := by decide
    have s2 : 2 ≤ PySem.sizeLine := by decide
    have s3 : 3 ≤ PySem.sizeLine := by decide
    have s4 : 4 ≤ PySem.sizeLine := by decide
    have s5 : 5 ≤ PySem.sizeLine := by decide
    have s7 : 7 ≤ PySem.sizeLine := by decide
    have s9 : 9 ≤ PySem.sizeLine := by decide
    have s10 : 10 ≤ PySem.sizeLine := by decide
    have s13 : 13 ≤ PySem.sizeLine := by decide
    have s14 : 14 ≤ PySem.sizeLine := by decide
    have s15 : 15 ≤ PySem.sizeLine := by decide
    have s18 : 18 ≤ PySem.sizeLine := by decide
    have s19 : 19 ≤ PySem.sizeLine := by decide
    have s24 : 24 ≤ PySem.sizeLine := by decide
    have R2 := mul_rep (xs := ms) (k := 2) (by decide) (by omega)
    have R61 := mul_rep (xs := ms) (k := 61) (by decide) (by omega)
    have N61 := mul_rep (xs := [.non]) (k := 61) (by decide) (by decide)
    have N60 := mul_rep (xs := [.non]) (k := 60) (by decide) (by decide)
    simp only [Int.cast_ofNat_Int] at R2 R61 N61 N60
    unfold p__law_n1_things
    refine seq_ex (R := RT (c + 200)) ⟨_, by simp [pRunOf, entP, mkSl, outsP, slv, PSl.val, tSeq, tNil, tRet, tRetN, tRetO, tIf, tAsg, tAsgF, tDrop, tAsgT, tgP, tgPs, noMu, tPar, inst, tSt, setM, stv, qVar, qFrz, qPk, qCon, qB2, qB2s, qU, qNil, qCons, qTup, qLst, qCall, qIf, qTru, qNotB, qAndB, qOrB, qAnd, qOr, qNot, qAsB, qChain, qIsT, qSl, qNo, qSo, pOI, qRun, qArgs, mOk, isMs, isM, setOuts, outS, qMut, qMut0, tyP, ptru, ptoB, pTy, isTy, pLen, pInt, pIx, atI, ixN, pAdd, pSub, pI, pDiv, pMod, pNeg, pGt, pGe, pLe, pLt, pIsN, pNotN, pTup, pLst, pSet, pAppend, pExtend, qNewT, qNewK, qYes, ofP, PR.bind, PR.toFl, PFl.seq, PR.ne, tRaise] <;> rfl, ?_⟩
    refine seq_ex (R := RT (c + 200)) ⟨_, by simp [qLc, qSeq, pItems, okOwn, wipeP, backP, lc, lz1, lz2, emx, pAddL, s0, pRunOf, entP, mkSl, outsP, slv, PSl.val, tSeq, tNil, tRet, tRetN, tRetO, tIf, tAsg, tAsgF, tDrop, tAsgT, tgP, tgPs, noMu, tPar, inst, tSt, setM, stv, qVar, qFrz, qPk, qCon, qB2, qB2s, qU, qNil, qCons, qTup, qLst, qCall, qIf, qTru, qNotB, qAndB, qOrB, qAnd, qOr, qNot, qAsB, qChain, qIsT, qSl, qNo, qSo, pOI, qRun, qArgs, mOk, isMs, isM, setOuts, outS, qMut, qMut0, tyP, ptru, ptoB, pTy, isTy, pLen, pInt, pIx, atI, ixN, pAdd, pSub, pI, pDiv, pMod, pNeg, pGt, pGe, pLe, pLt, pIsN, pNotN, pTup, pLst, pSet, pAppend, pExtend, qNewT, qNewK, qYes, ofP, PR.bind, PR.toFl, PFl.seq, PR.ne, tRaise] <;> rfl, ?_⟩
    generalize longest (ms.map thd) = L at *
    refine seq_ex (R := RT (c + 200)) ⟨_, by simp [s0, s2, s3, s4, s10, pRunOf, entP, mkSl, outsP, slv, PSl.val, tSeq, tNil, tRet, tRetN, tRetO, tIf, tAsg, tAsgF, tDrop, tAsgT, tgP, tgPs, noMu, tPar, inst, tSt, setM, stv, qVar, qFrz, qPk, qCon, qB2, qB2s, qU, qNil, qCons, qTup, qLst, qCall, qIf, qTru, qNotB, qAndB, qOrB, qAnd, qOr, qNot, qAsB, qChain, qIsT, qSl, qNo, qSo, pOI, qRun, qArgs, mOk, isMs, isM, setOuts, outS, qMut, qMut0, tyP, ptru, ptoB, pTy, isTy, pLen, pInt, pIx, atI, ixN, pAdd, pSub, pI, pDiv, pMod, pNeg, pGt, pGe, pLe, pLt, pIsN, pNotN, pTup, pLst, pSet, pAppend, pExtend, qNewT, qNewK, qYes, ofP, PR.bind, PR.toFl, PFl.seq, PR.ne, tRaise] <;> rfl, ?_⟩
    refine seq_ex (R := RT (c + 200)) ⟨_, by simp [s0, s2, s3, s4, s10, s14, pRunOf, entP, mkSl, outsP, slv, PSl.val, tSeq, tNil, tRet, tRetN, tRetO, tIf, tAsg, tAsgF, tDrop, tAsgT, tgP, tgPs, noMu, tPar, inst, tSt, setM, stv, qVar, qFrz, qPk, qCon, qB2, qB2s, qU, qNil, qCons, qTup, qLst, qCall, qIf, qTru, qNotB, qAndB, qOrB, qAnd, qOr, qNot, qAsB, qChain, qIsT, qSl, qNo, qSo, pOI, qRun, qArgs, mOk, isMs, isM, setOuts, outS, qMut, qMut0, tyP, ptru, ptoB, pTy, isTy, pLen, pInt, pIx, atI, ixN, pAdd, pSub, pI, pDiv, pMod, pNeg, pGt, pGe, pLe, pLt, pIsN, pNotN, pTup, pLst, pSet, pAppend, pExtend, qNewT, qNewK, qYes, ofP, PR.bind, PR.toFl, PFl.seq, PR.ne, tRaise] <;> rfl, ?_⟩
    refine seq_ex (R := RT (c + 200)) ⟨_, by simp [s0, s2, s3, s4, s10, s14, s15, pRunOf, entP, mkSl, outsP, slv, PSl.val, tSeq, tNil, tRet, tRetN, tRetO, tIf, tAsg, tAsgF, tDrop, tAsgT, tgP, tgPs, noMu, tPar, inst, tSt, setM, stv, qVar, qFrz, qPk, qCon, qB2, qB2s, qU, qNil, qCons, qTup, qLst, qCall, qIf, qTru, qNotB, qAndB, qOrB, qAnd, qOr, qNot, qAsB, qChain, qIsT, qSl, qNo, qSo, pOI, qRun, qArgs, mOk, isMs, isM, setOuts, outS, qMut, qMut0, tyP, ptru, ptoB, pTy, isTy, pLen, pInt, pIx, atI, ixN, pAdd, pSub, pI, pDiv, pMod, pNeg, pGt, pGe, pLe, pLt, pIsN, pNotN, pTup, pLst, pSet, pAppend, pExtend, qNewT, qNewK, qYes, ofP, PR.bind, PR.toFl, PFl.seq, PR.ne, tRaise] <;> rfl, ?_⟩
    refine seq_ex (R := RT (c + 200)) ⟨_, by simp [s0, s2, s3, s4, s10, s14, s15, s18, R2, R61, pRevT, pRunOf, entP, mkSl, outsP, slv, PSl.val, tSeq, tNil, tRet, tRetN, tRetO, tIf, tAsg, tAsgF, tDrop, tAsgT, tgP, tgPs, noMu, tPar, inst, tSt, setM, stv, qVar, qFrz, qPk, qCon, qB2, qB2s, qU, qNil, qCons, qTup, qLst, qCall, qIf, qTru, qNotB, qAndB, qOrB, qAnd, qOr, qNot, qAsB, qChain, qIsT, qSl, qNo, qSo, pOI, qRun, qArgs, mOk, isMs, isM, setOuts, outS, qMut, qMut0, tyP, ptru, ptoB, pTy, isTy, pLen, pInt, pIx, atI, ixN, pAdd, pSub, pI, pDiv, pMod, pNeg, pGt, pGe, pLe, pLt, pIsN, pNotN, pTup, pLst, pSet, pAppend, pExtend, qNewT, qNewK, qYes, ofP, PR.bind, PR.toFl, PFl.seq, PR.ne, tRaise] <;> rfl, ?_⟩
    refine seq_ex (R := RT (c + 200)) ⟨_, by simp [s0, s2, s3, s4, s10, s14, s15, s18, s19, pRunOf, entP, mkSl, outsP, slv, PSl.val, tSeq, tNil, tRet, tRetN, tRetO, tIf, tAsg, tAsgF, tDrop, tAsgT, tgP, tgPs, noMu, tPar, inst, tSt, setM, stv, qVar, qFrz, qPk, qCon, qB2, qB2s, qU, qNil, qCons, qTup, qLst, qCall, qIf, qTru, qNotB, qAndB, qOrB, qAnd, qOr, qNot, qAsB, qChain, qIsT, qSl, qNo, qSo, pOI, qRun, qArgs, mOk, isMs, isM, setOuts, outS, qMut, qMut0, tyP, ptru, ptoB, pTy, isTy, pLen, pInt, pIx, atI, ixN, pAdd, pSub, pI, pDiv, pMod, pNeg, pGt, pGe, pLe, pLt, pIsN, pNotN, pTup, pLst, pSet, pAppend, pExtend, qNewT, qNewK, qYes, ofP, PR.bind, PR.toFl, PFl.seq, PR.ne, tRaise] <;> rfl, ?_⟩
    refine seq_ex (R := RT (c + 200)) ⟨_, by simp [s0, s2, s3, s4, s5, s10, s14, s15, s18, s19, s24, N61, N60, pRunOf, entP, mkSl, outsP, slv, PSl.val, tSeq, tNil, tRet, tRetN, tRetO, tIf, tAsg, tAsgF, tDrop, tAsgT, tgP, tgPs, noMu, tPar, inst, tSt, setM, stv, qVar, qFrz, qPk, qCon, qB2, qB2s, qU, qNil, qCons, qTup, qLst, qCall, qIf, qTru, qNotB, qAndB, qOrB, qAnd, qOr, qNot, qAsB, qChain, qIsT, qSl, qNo, qSo, pOI, qRun, qArgs, mOk, isMs, isM, setOuts, outS, qMut, qMut0, tyP, ptru, ptoB, pTy, isTy, pLen, pInt, pIx, atI, ixN, pAdd, pSub, pI, pDiv, pMod, pNeg, pGt, pGe, pLe, pLt, pIsN, pNotN, pTup, pLst, pSet, pAppend, pExtend, qNewT, qNewK, qYes, ofP, PR.bind, PR.toFl, PFl.seq, PR.ne, tRaise] <;> rfl, ?_⟩
    have hA : ∀ t ∈ [PV.tup [PV.int nn, PV.tup ms, PV.int p], PV.tup [PV.int nn, PV.tup ms],
                PV.tup [PV.int nn, PV.tup ms, PV.int p, PV.int 0], PV.lst [PV.int nn, PV.tup ms, PV.int p], PV.non,
                PV.int nn, PV.tup [], PV.tup [PV.int 31, PV.tup ms, PV.int 0],
                PV.tup [PV.int (-1), PV.tup [], PV.int 0], PV.tup [PV.bl true, PV.tup [], PV.int 0],
                PV.tup [PV.non, PV.tup ms, PV.int p], PV.tup [PV.int nn, PV.lst ms, PV.int p],
                PV.tup [PV.int nn, PV.non, PV.int p], PV.tup [PV.int nn, PV.int 0, PV.non],
                PV.tup [PV.int 31, PV.non, PV.int 49], PV.tup [PV.int nn, PV.tup ms.reverse, PV.int p],
                PV.tup [PV.int nn, PV.tup (rep 2 ms), PV.int p], PV.tup [PV.int nn, PV.tup (rep 61 ms), PV.non],
                PV.tup [PV.int 30, PV.tup ms, PV.int p], PV.tup [PV.int nn, PV.tup (rep 61 [PV.non]), PV.int 49],
                PV.tup [PV.int nn, PV.tup (rep 60 [PV.non]), PV.int 49], PV.tup [PV.int nn, PV.tup [], PV.int p],
                PV.tup [PV.int 0, PV.tup [], PV.int 0],
                PV.tup [PV.str "1", PV.tup [], PV.int 0]], GT t := by
      have o : ∀ x ∈ ms, OD x := fun x h => od_t3 (ht x h)
      have m1 := sm_many o (by omega)
      have m2 := (sm_many (xs := ms.reverse) (fun x h => o x (List.mem_reverse.mp h)) (by simp; omega)).1
      have m3 := (sm_many (xs := rep 2 ms) (fun x h => o x (rep_mem h)) (by rw [rep_len]; omega)).1
      have m4 := (sm_many (xs := rep 61 ms) (fun x h => o x (rep_mem h)) (by rw [rep_len]; omega)).1
      have on : ∀ x ∈ [PV.non], OD x := fun x h => by simp at h; subst h; exact od_non
      have m5 := (sm_many (xs := rep 61 [.non]) (fun x h => on x (rep_mem h)) (by rw [rep_len]; simp)).1
      have m6 := (sm_many (xs := rep 60 [.non]) (fun x h => on x (rep_mem h)) (by rw [rep_len]; simp)).1
      have q := @sm_int
      intro t h
      simp only [List.mem_cons, List.not_mem_nil, or_false] at h
      rcases h with rfl | rfl | rfl | rfl | rfl | rfl | rfl | rfl | rfl | rfl | rfl | rfl | rfl | rfl | rfl | rfl | rfl | rfl | rfl | rfl | rfl | rfl | rfl | rfl
      all_goals first
        | exact sm_non.gt
        | exact (sm_int _).gt
        | exact sm_nil.gt
        | (refine gt_tup (fun x h => ?_) (by simp); simp only [List.mem_cons, List.not_mem_nil, or_false] at h; rcases h with rfl | rfl | rfl | rfl <;> first | exact q _ | exact m1.1 | exact m1.2 | exact m2 | exact m3 | exact m4 | exact m5 | exact m6 | exact sm_non | exact sm_nil | exact sm_s1 | exact sm_bl _)
        | (refine gt_tup (fun x h => ?_) (by simp); simp only [List.mem_cons, List.not_mem_nil, or_false] at h; rcases h with rfl | rfl | rfl <;> first | exact q _ | exact m1.1 | exact m1.2 | exact m2 | exact m3 | exact m4 | exact m5 | exact m6 | exact sm_non | exact sm_nil | exact sm_s1 | exact sm_bl _)
        | (refine gt_tup (fun x h => ?_) (by simp); simp only [List.mem_cons, List.not_mem_nil, or_false] at h; rcases h with rfl | rfl <;> first | exact q _ | exact m1.1)
        | (refine gt_lst (fun x h => ?_) (by simp); simp only [List.mem_cons, List.not_mem_nil, or_false] at h; rcases h with rfl | rfl | rfl <;> first | exact q _ | exact m1.1)
    have hB : ([PV.tup [PV.int nn, PV.tup ms, PV.int p], PV.tup [PV.int nn, PV.tup ms],
                PV.tup [PV.int nn, PV.tup ms, PV.int p, PV.int 0], PV.lst [PV.int nn, PV.tup ms, PV.int p], PV.non,
                PV.int nn, PV.tup [], PV.tup [PV.int 31, PV.tup ms, PV.int 0],
                PV.tup [PV.int (-1), PV.tup [], PV.int 0], PV.tup [PV.bl true, PV.tup [], PV.int 0],
                PV.tup [PV.non, PV.tup ms, PV.int p], PV.tup [PV.int nn, PV.lst ms, PV.int p],
                PV.tup [PV.int nn, PV.non, PV.int p], PV.tup [PV.int nn, PV.int 0, PV.non],
                PV.tup [PV.int 31, PV.non, PV.int 49], PV.tup [PV.int nn, PV.tup ms.reverse, PV.int p],
                PV.tup [PV.int nn, PV.tup (rep 2 ms), PV.int p], PV.tup [PV.int nn, PV.tup (rep 61 ms), PV.non],
                PV.tup [PV.int 30, PV.tup ms, PV.int p], PV.tup [PV.int nn, PV.tup (rep 61 [PV.non]), PV.int 49],
                PV.tup [PV.int nn, PV.tup (rep 60 [PV.non]), PV.int 49], PV.tup [PV.int nn, PV.tup [], PV.int p],
                PV.tup [PV.int 0, PV.tup [], PV.int 0],
                PV.tup [PV.str "1", PV.tup [], PV.int 0]] : List PV).length ≤ 24 := by simp
    generalize [PV.tup [PV.int nn, PV.tup ms, PV.int p], PV.tup [PV.int nn, PV.tup ms],
                PV.tup [PV.int nn, PV.tup ms, PV.int p, PV.int 0], PV.lst [PV.int nn, PV.tup ms, PV.int p], PV.non,
                PV.int nn, PV.tup [], PV.tup [PV.int 31, PV.tup ms, PV.int 0],
                PV.tup [PV.int (-1), PV.tup [], PV.int 0], PV.tup [PV.bl true, PV.tup [], PV.int 0],
                PV.tup [PV.non, PV.tup ms, PV.int p], PV.tup [PV.int nn, PV.lst ms, PV.int p],
                PV.tup [PV.int nn, PV.non, PV.int p], PV.tup [PV.int nn, PV.int 0, PV.non],
                PV.tup [PV.int 31, PV.non, PV.int 49], PV.tup [PV.int nn, PV.tup ms.reverse, PV.int p],
                PV.tup [PV.int nn, PV.tup (rep 2 ms), PV.int p], PV.tup [PV.int nn, PV.tup (rep 61 ms), PV.non],
                PV.tup [PV.int 30, PV.tup ms, PV.int p], PV.tup [PV.int nn, PV.tup (rep 61 [PV.non]), PV.int 49],
                PV.tup [PV.int nn, PV.tup (rep 60 [PV.non]), PV.int 49], PV.tup [PV.int nn, PV.tup [], PV.int p],
                PV.tup [PV.int 0, PV.tup [], PV.int 0],
                PV.tup [PV.str "1", PV.tup [], PV.int 0]] = A at *
    -- the odd periods
    have ep : pPow (.int 10) (.int 20) = some (.int 100000000000000000000) := by simp [pPow]
    have eod : qSeq (qLst (qCons (qB2 pMul (qCon (.int 2)) (qPk 5)) (qCons (qB2 pAdd (qB2 pMul (qCon (.int 2)) (qPk 5)) (qCon (.int 1))) (qCons (qB2 pSub (qB2 pMul (qCon (.int 2)) (qPk 5)) (qCon (.int 1))) (qCons (qCon (.int 48)) (qCons (qCon (.int 49)) (qCons (qU pNeg (qCon (.int 1))) (qCons (qCon (.int 0)) (qCons (qCon (.int 1)) (qCons (qCon .non) (qCons (qCon (.bl true)) (qCons (qCon (.str "0")) (qCons (qTup (qCons (qCon (.int 0)) (qNil))) (qCons (qB2 pPow (qCon (.int 10)) (qCon (.int 20))) (qNil))))))))))))))) [some (PSl.mu j), some (PSl.sh (PV.tup [PV.int nn, PV.tup ms, PV.int p])), some (PSl.sh (PV.int nn)), some (PSl.sh (PV.tup ms)), some (PSl.sh (PV.int p)), some (PSl.sh (PV.int L)), none, none, none, some (PSl.ow (PV.lst A)), none, none, none, none] =
       .ok [.int (2 * L), .int (2 * L + 1), .int (2 * L - 1), .int 48, .int 49, .int (-1), .int 0, .int 1, .non, .bl true, .str "0", .tup [.int 0], .int 100000000000000000000] [some (PSl.mu j), some (PSl.sh (PV.tup [PV.int nn, PV.tup ms, PV.int p])), some (PSl.sh (PV.int nn)), some (PSl.sh (PV.tup ms)), some (PSl.sh (PV.int p)), some (PSl.sh (PV.int L)), none, none, none, some (PSl.ow (PV.lst A)), none, none, none, none] := by
      simp [qSeq, pItems, m2, ep, s0, s13, pRunOf, entP, mkSl, outsP, slv, PSl.val, tSeq, tNil, tRet, tRetN, tRetO, tIf, tAsg, tAsgF, tDrop, tAsgT, tgP, tgPs, noMu, tPar, inst, tSt, setM, stv, qVar, qFrz, qPk, qCon, qB2, qB2s, qU, qNil, qCons, qTup, qLst, qCall, qIf, qTru, qNotB, qAndB, qOrB, qAnd, qOr, qNot, qAsB, qChain, qIsT, qSl, qNo, qSo, pOI, qRun, qArgs, mOk, isMs, isM, setOuts, outS, qMut, qMut0, tyP, ptru, ptoB, pTy, isTy, pLen, pInt, pIx, atI, ixN, pAdd, pSub, pI, pDiv, pMod, pNeg, pGt, pGe, pLe, pLt, pIsN, pNotN, pTup, pLst, pSet, pAppend, pExtend, qNewT, qNewK, qYes, ofP, PR.bind, PR.toFl, PFl.seq, PR.ne, tRaise]
    obtain ⟨π1, ef1, A1, s10, rfl, o10, hA1, hB1⟩ := forP_keep (body := ptgt (.nm 10) (tSeq (tDrop (qMut 9 "list" pAppend (qTup (qCons (qVar 2) (qCons (qVar 3) (qCons (qVar 10) (qNil))))))) (tNil))) (fun i π => ∃ A' s10, π = [some (PSl.mu j), some (PSl.sh (PV.tup [PV.int nn, PV.tup ms, PV.int p])), some (PSl.sh (PV.int nn)), some (PSl.sh (PV.tup ms)), some (PSl.sh (PV.int p)), some (PSl.sh (PV.int L)), none, none, none, some (PSl.ow (PV.lst A')), s10, none, none, none] ∧ okS s10 = true ∧ (∀ t ∈ A', GT t) ∧ A'.length ≤ 24 + i)
      [.int (2 * L), .int (2 * L + 1), .int (2 * L - 1), .int 48, .int 49, .int (-1), .int 0, .int 1, .non, .bl true, .str "0", .tup [.int 0], .int 100000000000000000000] 0 _ ⟨A, none, rfl, rfl, hA, by omega⟩ (by
        rintro v hv i π hi ⟨A', s10, rfl, o10, hA', hB'⟩
        have sv : SM v := by
          simp only [List.mem_cons, List.not_mem_nil, or_false] at hv
          rcases hv with rfl | rfl | rfl | rfl | rfl | rfl | rfl | rfl | rfl | rfl | rfl | rfl | rfl <;> first | exact sm_int _ | exact sm_non | exact sm_bl _ | exact sm_s0 | skip
          exact ⟨by intro y hy; simp at hy; subst hy; trivial, by simp [wt, wtL]⟩
        have n10 := nm_of_ok o10
        have la : A'.length < PySem.sizeLine := Nat.lt_of_le_of_lt (show A'.length ≤ 100 by simp at hi; omega) (by decide)
        refine ⟨[some (PSl.mu j), some (PSl.sh (PV.tup [PV.int nn, PV.tup ms, PV.int p])), some (PSl.sh (PV.int nn)), some (PSl.sh (PV.tup ms)), some (PSl.sh (PV.int p)), some (PSl.sh (PV.int L)), none, none, none, some (PSl.ow (PV.lst (A' ++ [.tup [.int nn, .tup ms, v]]))), some (.sh v), none, none, none], by simp [ptgt, n10, s3, la, pRunOf, entP, mkSl, outsP, slv, PSl.val, tSeq, tNil, tRet, tRetN, tRetO, tIf, tAsg, tAsgF, tDrop, tAsgT, tgP, tgPs, noMu, tPar, inst, tSt, setM, stv, qVar, qFrz, qPk, qCon, qB2, qB2s, qU, qNil, qCons, qTup, qLst, qCall, qIf, qTru, qNotB, qAndB, qOrB, qAnd, qOr, qNot, qAsB, qChain, qIsT, qSl, qNo, qSo, pOI, qRun, qArgs, mOk, isMs, isM, setOuts, outS, qMut, qMut0, tyP, ptru, ptoB, pTy, isTy, pLen, pInt, pIx, atI, ixN, pAdd, pSub, pI, pDiv, pMod, pNeg, pGt, pGe, pLe, pLt, pIsN, pNotN, pTup, pLst, pSet, pAppend, pExtend, qNewT, qNewK, qYes, ofP, PR.bind, PR.toFl, PFl.seq, PR.ne, tRaise], _, _, rfl, rfl, fun t h => ?_, by simp; omega⟩
        rcases List.mem_append.mp h with h | h
        · exact hA' t h
        · simp only [List.mem_singleton] at h
          subst h
          have m1 := sm_many (fun x h => od_t3 (ht x h)) (show ms.length ≤ 10000 by omega)
          refine gt_tup (fun x h => ?_) (by simp)
          simp only [List.mem_cons, List.not_mem_nil, or_false] at h
          rcases h with rfl | rfl | rfl
          · exact sm_int _
          · exact m1.1
          · exact sv)
    have hB1' : A1.length ≤ 37 := hB1
    refine seq_ex (R := RT (c + 200)) ⟨_, by simp only [tFor]; rw [eod]; simp only [PR.toFl_ok]; exact ef1, ?_⟩
    have n10 := nm_of_ok o10
    refine seq_ex (R := RT (c + 200)) ⟨_, by simp [s2, s3, s4, s9, pRunOf, entP, mkSl, outsP, slv, PSl.val, tSeq, tNil, tRet, tRetN, tRetO, tIf, tAsg, tAsgF, tDrop, tAsgT, tgP, tgPs, noMu, tPar, inst, tSt, setM, stv, qVar, qFrz, qPk, qCon, qB2, qB2s, qU, qNil, qCons, qTup, qLst, qCall, qIf, qTru, qNotB, qAndB, qOrB, qAnd, qOr, qNot, qAsB, qChain, qIsT, qSl, qNo, qSo, pOI, qRun, qArgs, mOk, isMs, isM, setOuts, outS, qMut, qMut0, tyP, ptru, ptoB, pTy, isTy, pLen, pInt, pIx, atI, ixN, pAdd, pSub, pI, pDiv, pMod, pNeg, pGt, pGe, pLe, pLt, pIsN, pNotN, pTup, pLst, pSet, pAppend, pExtend, qNewT, qNewK, qYes, ofP, PR.bind, PR.toFl, PFl.seq, PR.ne, tRaise] <;> rfl, ?_⟩
    refine seq_ex (R := RT (c + 200)) ⟨_, by simp [s2, s3, s4, s9, s15, pRunOf, entP, mkSl, outsP, slv, PSl.val, tSeq, tNil, tRet, tRetN, tRetO, tIf, tAsg, tAsgF, tDrop, tAsgT, tgP, tgPs, noMu, tPar, inst, tSt, setM, stv, qVar, qFrz, qPk, qCon, qB2, qB2s, qU, qNil, qCons, qTup, qLst, qCall, qIf, qTru, qNotB, qAndB, qOrB, qAnd, qOr, qNot, qAsB, qChain, qIsT, qSl, qNo, qSo, pOI, qRun, qArgs, mOk, isMs, isM, setOuts, outS, qMut, qMut0, tyP, ptru, ptoB, pTy, isTy, pLen, pInt, pIx, atI, ixN, pAdd, pSub, pI, pDiv, pMod, pNeg, pGt, pGe, pLe, pLt, pIsN, pNotN, pTup, pLst, pSet, pAppend, pExtend, qNewT, qNewK, qYes, ofP, PR.bind, PR.toFl, PFl.seq, PR.ne, tRaise] <;> rfl, ?_⟩
    refine seq_ex (R := RT (c + 200)) ⟨_, by simp [s2, s3, s4, s7, s9, s15, s19, pRunOf, entP, mkSl, outsP, slv, PSl.val, tSeq, tNil, tRet, tRetN, tRetO, tIf, tAsg, tAsgF, tDrop, tAsgT, tgP, tgPs, noMu, tPar, inst, tSt, setM, stv, qVar, qFrz, qPk, qCon, qB2, qB2s, qU, qNil, qCons, qTup, qLst, qCall, qIf, qTru, qNotB, qAndB, qOrB, qAnd, qOr, qNot, qAsB, qChain, qIsT, qSl, qNo, qSo, pOI, qRun, qArgs, mOk, isMs, isM, setOuts, outS, qMut, qMut0, tyP, ptru, ptoB, pTy, isTy, pLen, pInt, pIx, atI, ixN, pAdd, pSub, pI, pDiv, pMod, pNeg, pGt, pGe, pLe, pLt, pIsN, pNotN, pTup, pLst, pSet, pAppend, pExtend, qNewT, qNewK, qYes, ofP, PR.bind, PR.toFl, PFl.seq, PR.ne, tRaise] <;> rfl, ?_⟩
    have s20 : 19 < PySem.sizeLine := by decide
    refine seq_ex (R := RT (c + 200)) ⟨_, by simp [s2, s3, s4, s7, s9, s15, s19, s20, pRunOf, entP, mkSl, outsP, slv, PSl.val, tSeq, tNil, tRet, tRetN, tRetO, tIf, tAsg, tAsgF, tDrop, tAsgT, tgP, tgPs, noMu, tPar, inst, tSt, setM, stv, qVar, qFrz, qPk, qCon, qB2, qB2s, qU, qNil, qCons, qTup, qLst, qCall, qIf, qTru, qNotB, qAndB, qOrB, qAnd, qOr, qNot, qAsB, qChain, qIsT, qSl, qNo, qSo, pOI, qRun, qArgs, mOk, isMs, isM, setOuts, outS, qMut, qMut0, tyP, ptru, ptoB, pTy, isTy, pLen, pInt, pIx, atI, ixN, pAdd, pSub, pI, pDiv, pMod, pNeg, pGt, pGe, pLe, pLt, pIsN, pNotN, pTup, pLst, pSet, pAppend, pExtend, qNewT, qNewK, qYes, ofP, PR.bind, PR.toFl, PFl.seq, PR.ne, tRaise] <;> rfl, ?_⟩
    have lc2 : ∀ a0 a1 a2 a3 a4 a5 a9 a10 a11, lcP (.tp ((.nm 6) :: (.nm 7) :: (.nm 8) :: [])) qYes (qTup (qCons (qVar 7) (qCons (qVar 6) (qCons (qCon (.int 0)) (qNil))))) [6, 7, 8] (ms.take 2) [a0, a1, a2, a3, a4, a5, none, none, none, a9, a10, a11, none, none] = .ok ((ms.take 2).map rv) [a0, a1, a2, a3, a4, a5, none, none, none, a9, a10, a11, none, none] := fun a0 a1 a2 a3 a4 a5 a9 a10 a11 => by
      refine lcP_map rv (ms.take 2) fun v hv => ?_
      obtain ⟨a, b, d, rfl, _⟩ := ht v (List.mem_of_mem_take hv)
      exact ⟨[a0, a1, a2, a3, a4, a5, some (.sh (.int a)), some (.sh (.int b)), some (.sh (.int d)), a9, a10, a11, none, none], by simp [pRunOf, entP, mkSl, outsP, slv, PSl.val, tSeq, tNil, tRet, tRetN, tRetO, tIf, tAsg, tAsgF, tDrop, tAsgT, tgP, tgPs, noMu, tPar, inst, tSt, setM, stv, qVar, qFrz, qPk, qCon, qB2, qB2s, qU, qNil, qCons, qTup, qLst, qCall, qIf, qTru, qNotB, qAndB, qOrB, qAnd, qOr, qNot, qAsB, qChain, qIsT, qSl, qNo, qSo, pOI, qRun, qArgs, mOk, isMs, isM, setOuts, outS, qMut, qMut0, tyP, ptru, ptoB, pTy, isTy, pLen, pInt, pIx, atI, ixN, pAdd, pSub, pI, pDiv, pMod, pNeg, pGt, pGe, pLe, pLt, pIsN, pNotN, pTup, pLst, pSet, pAppend, pExtend, qNewT, qNewK, qYes, ofP, PR.bind, PR.toFl, PFl.seq, PR.ne, tRaise], by simp [pRunOf, entP, mkSl, outsP, slv, PSl.val, tSeq, tNil, tRet, tRetN, tRetO, tIf, tAsg, tAsgF, tDrop, tAsgT, tgP, tgPs, noMu, tPar, inst, tSt, setM, stv, qVar, qFrz, qPk, qCon, qB2, qB2s, qU, qNil, qCons, qTup, qLst, qCall, qIf, qTru, qNotB, qAndB, qOrB, qAnd, qOr, qNot, qAsB, qChain, qIsT, qSl, qNo, qSo, pOI, qRun, qArgs, mOk, isMs, isM, setOuts, outS, qMut, qMut0, tyP, ptru, ptoB, pTy, isTy, pLen, pInt, pIx, atI, ixN, pAdd, pSub, pI, pDiv, pMod, pNeg, pGt, pGe, pLe, pLt, pIsN, pNotN, pTup, pLst, pSet, pAppend, pExtend, qNewT, qNewK, qYes, ofP, PR.bind, PR.toFl, PFl.seq, PR.ne, tRaise], by simp [rv, s3, pRunOf, entP, mkSl, outsP, slv, PSl.val, tSeq, tNil, tRet, tRetN, tRetO, tIf, tAsg, tAsgF, tDrop, tAsgT, tgP, tgPs, noMu, tPar, inst, tSt, setM, stv, qVar, qFrz, qPk, qCon, qB2, qB2s, qU, qNil, qCons, qTup, qLst, qCall, qIf, qTru, qNotB, qAndB, qOrB, qAnd, qOr, qNot, qAsB, qChain, qIsT, qSl, qNo, qSo, pOI, qRun, qArgs, mOk, isMs, isM, setOuts, outS, qMut, qMut0, tyP, ptru, ptoB, pTy, isTy, pLen, pInt, pIx, atI, ixN, pAdd, pSub, pI, pDiv, pMod, pNeg, pGt, pGe, pLe, pLt, pIsN, pNotN, pTup, pLst, pSet, pAppend, pExtend, qNewT, qNewK, qYes, ofP, PR.bind, PR.toFl, PFl.seq, PR.ne, tRaise], by simp [wipeP]⟩
    have k2 := cut_any (xs := ms) (a := 2)
    have k1 := cut_any (xs := ms) (a := 1)
    simp only [Int.cast_ofNat_Int] at k2 k1
    have z1 : (ms.take 2).length ≤ PySem.sizeLine := Nat.le_trans (show (ms.take 2).length ≤ 60 by simp; omega) (by decide)
    have z2 : min 2 ms.length + min 1 ms.length ≤ PySem.sizeLine := Nat.le_trans (show _ ≤ 120 by omega) (by decide)
    have z3 : 20 + (min 2 ms.length + min 1 ms.length) ≤ PySem.sizeLine := Nat.le_trans (show _ ≤ 140 by omega) (by decide)
    have z4 : min 2 ms.length ≤ PySem.sizeLine := Nat.le_trans (show _ ≤ 120 by omega) (by decide)
    refine seq_ex (R := RT (c + 200)) ⟨[some (PSl.mu j), some (PSl.sh (PV.tup [PV.int nn, PV.tup ms, PV.int p])), some (PSl.sh (PV.int nn)), some (PSl.sh (PV.tup ms)), some (PSl.sh (PV.int p)), some (PSl.sh (PV.int L)), none, none, none, some (PSl.ow (PV.lst A1)), s10, some (.ow (.lst (oddM nn ms))), none, none], by simp [qLc, qSeq, pItems, okOwn, wipeP, backP, lc2, k1, k2, z1, z2, z3, z4, pAddL, oddM, pRunOf, entP, mkSl, outsP, slv, PSl.val, tSeq, tNil, tRet, tRetN, tRetO, tIf, tAsg, tAsgF, tDrop, tAsgT, tgP, tgPs, noMu, tPar, inst, tSt, setM, stv, qVar, qFrz, qPk, qCon, qB2, qB2s, qU, qNil, qCons, qTup, qLst, qCall, qIf, qTru, qNotB, qAndB, qOrB, qAnd, qOr, qNot, qAsB, qChain, qIsT, qSl, qNo, qSo, pOI, qRun, qArgs, mOk, isMs, isM, setOuts, outS, qMut, qMut0, tyP, ptru, ptoB, pTy, isTy, pLen, pInt, pIx, atI, ixN, pAdd, pSub, pI, pDiv, pMod, pNeg, pGt, pGe, pLe, pLt, pIsN, pNotN, pTup, pLst, pSet, pAppend, pExtend, qNewT, qNewK, qYes, ofP, PR.bind, PR.toFl, PFl.seq, PR.ne, tRaise], ?_⟩
    have hOD := oddM_od (nn := nn) ht
    have hOL : (oddM nn ms).length ≤ 23 := by simp [oddM]; omega
    generalize oddM nn ms = OM at *
    have er : qSeq (qFrz 11) [some (PSl.mu j), some (PSl.sh (PV.tup [PV.int nn, PV.tup ms, PV.int p])), some (PSl.sh (PV.int nn)), some (PSl.sh (PV.tup ms)), some (PSl.sh (PV.int p)), some (PSl.sh (PV.int L)), none, none, none, some (PSl.ow (PV.lst A1)), s10, some (PSl.ow (PV.lst OM)), none, none] = .ok OM [some (PSl.mu j), some (PSl.sh (PV.tup [PV.int nn, PV.tup ms, PV.int p])), some (PSl.sh (PV.int nn)), some (PSl.sh (PV.tup ms)), some (PSl.sh (PV.int p)), some (PSl.sh (PV.int L)), none, none, none, some (PSl.ow (PV.lst A1)), s10, some (PSl.sh (PV.lst OM)), none, none] := by simp [qSeq, pItems, pRunOf, entP, mkSl, outsP, slv, PSl.val, tSeq, tNil, tRet, tRetN, tRetO, tIf, tAsg, tAsgF, tDrop, tAsgT, tgP, tgPs, noMu, tPar, inst, tSt, setM, stv, qVar, qFrz, qPk, qCon, qB2, qB2s, qU, qNil, qCons, qTup, qLst, qCall, qIf, qTru, qNotB, qAndB, qOrB, qAnd, qOr, qNot, qAsB, qChain, qIsT, qSl, qNo, qSo, pOI, qRun, qArgs, mOk, isMs, isM, setOuts, outS, qMut, qMut0, tyP, ptru, ptoB, pTy, isTy, pLen, pInt, pIx, atI, ixN, pAdd, pSub, pI, pDiv, pMod, pNeg, pGt, pGe, pLe, pLt, pIsN, pNotN, pTup, pLst, pSet, pAppend, pExtend, qNewT, qNewK, qYes, ofP, PR.bind, PR.toFl, PFl.seq, PR.ne, tRaise]
    have m1 := sm_many (fun x h => od_t3 (ht x h)) (show ms.length ≤ 10000 by omega)
    obtain ⟨π2, ef2, j2, A2, s12, s13, rfl, hj2, o12, o13, hA2, hB2⟩ := forP_keep (body := ptgt (.nm 12) (tSeq (tAsg (qRun (.m 0 :: .v (qB2 pAdd (qU pLen (qPk 3)) (qCon (.int 1))) :: []) P__law_take) 13) (tSeq (tDrop (qMut 9 "list" pAppend (qTup (qCons (qVar 2) (qCons (qB2 pAdd (qB2 pAdd (qSl pSlT (qVar 3) (qNo) (qSo (qVar 13))) (qTup (qCons (qVar 12) (qNil)))) (qSl pSlT (qVar 3) (qSo (qVar 13)) (qNo))) (qCons (qVar 4) (qNil))))))) (tSeq (tDrop (qMut 9 "list" pAppend (qTup (qCons (qVar 2) (qCons (qRun (.v (qVar 3) :: .v (qVar 12) :: []) P__law_n1_put) (qCons (qVar 4) (qNil))))))) (tNil))))) (fun i π => ∃ j' A' s12 s13, π = [some (PSl.mu j'), some (PSl.sh (PV.tup [PV.int nn, PV.tup ms, PV.int p])), some (PSl.sh (PV.int nn)), some (PSl.sh (PV.tup ms)), some (PSl.sh (PV.int p)), some (PSl.sh (PV.int L)), none, none, none, some (PSl.ow (PV.lst A')), s10, some (PSl.sh (PV.lst OM)), s12, s13] ∧ JO (c + i) j' ∧ okS s12 = true ∧ okS s13 = true ∧ (∀ t ∈ A', GT t) ∧ A'.length ≤ 37 + 2 * i)
      OM 0 _ ⟨j, A1, none, none, rfl, hj, rfl, rfl, hA1, by omega⟩ (by
        rintro v hv i π hi ⟨j', A', s12, s13, rfl, hj', o12, o13, hA', hB'⟩
        have ov := hOD v hv
        have n12 := nm_of_ok o12
        have n13 := nm_of_ok o13
        obtain ⟨a', j3, e1, a0, a1, hj3⟩ := take_p (m := (ms.length : Int) + 1) hj' (by omega) (by omega) (by omega)
        obtain ⟨a, rfl⟩ : ∃ a : Nat, a' = a := ⟨a'.toNat, by omega⟩
        obtain ⟨ms', e2, l2, h2⟩ := put_p (mv := v) (fun x h => (ht x h).t3) (by omega) (ov.1.mono (by decide))
        have q1 := cut_any (xs := ms) (a := a)
        have q2 := cut_any' (xs := ms) (a := a)
        have p1 := addT (xs := ms.take a) (ys := [v]) (by simp; omega)
        have p2 := addT (xs := ms.take a ++ [v]) (ys := ms.drop a) (by simp; omega)
        have la : A'.length < PySem.sizeLine := Nat.lt_of_le_of_lt (show A'.length ≤ 100 by simp at hi; omega) (by decide)
        have lb : A'.length + 1 < PySem.sizeLine := Nat.lt_of_le_of_lt (show A'.length + 1 ≤ 101 by simp at hi; omega) (by decide)
        simp at p2
        refine ⟨[some (PSl.mu j3), some (PSl.sh (PV.tup [PV.int nn, PV.tup ms, PV.int p])), some (PSl.sh (PV.int nn)), some (PSl.sh (PV.tup ms)), some (PSl.sh (PV.int p)), some (PSl.sh (PV.int L)), none, none, none, some (PSl.ow (PV.lst (A' ++ [.tup [.int nn, .tup (ms.take a ++ v :: ms.drop a), .int p], .tup [.int nn, .tup ms', .int p]]))), s10, some (PSl.sh (PV.lst OM)), some (.sh v), some (.sh (.int a))], by simp [ptgt, n12, n13, e1, e2, q1, q2, p1, p2, s3, s0, la, lb, pRunOf, entP, mkSl, outsP, slv, PSl.val, tSeq, tNil, tRet, tRetN, tRetO, tIf, tAsg, tAsgF, tDrop, tAsgT, tgP, tgPs, noMu, tPar, inst, tSt, setM, stv, qVar, qFrz, qPk, qCon, qB2, qB2s, qU, qNil, qCons, qTup, qLst, qCall, qIf, qTru, qNotB, qAndB, qOrB, qAnd, qOr, qNot, qAsB, qChain, qIsT, qSl, qNo, qSo, pOI, qRun, qArgs, mOk, isMs, isM, setOuts, outS, qMut, qMut0, tyP, ptru, ptoB, pTy, isTy, pLen, pInt, atI, ixN, pAddI, pSub, pI, pDiv, pMod, pNeg, pGt, pGe, pLe, pLt, pIsN, pNotN, pTup, pLst, pSet, pAppend, pExtend, qNewT, qNewK, qYes, ofP, PR.bind, PR.toFl, PFl.seq, PR.ne, tRaise], j3, _, _, _, rfl, hj3, rfl, rfl, fun t h => ?_, by simp; omega⟩
        rcases List.mem_append.mp h with h | h
        · exact hA' t h
        · have w1 := (sm_many (xs := ms.take a ++ v :: ms.drop a) (fun x h => by
            rcases List.mem_append.mp h with h | h
            · exact od_t3 (ht x (List.mem_of_mem_take h))
            · rcases List.mem_cons.mp h with rfl | h
              · exact ov
              · exact od_t3 (ht x (List.mem_of_mem_drop h))) (by simp; omega)).1
          have w2 := (sm_many (xs := ms') (fun x h => (h2 x h).elim (fun h => od_t3 (ht x h)) fun e => by subst e; exact ov) (by omega)).1
          simp only [List.mem_cons, List.not_mem_nil, or_false] at h
          rcases h with rfl | rfl
          · refine gt_tup (fun x h => ?_) (by simp)
            simp only [List.mem_cons, List.not_mem_nil, or_false] at h
            rcases h with rfl | rfl | rfl
            · exact sm_int _
            · exact w1
            · exact sm_int _
          · refine gt_tup (fun x h => ?_) (by simp)
            simp only [List.mem_cons, List.not_mem_nil, or_false] at h
            rcases h with rfl | rfl | rfl
            · exact sm_int _
            · exact w2
            · exact sm_int _)
    refine seq_ex (R := RT (c + 200)) ⟨_, by simp only [tFor]; rw [er]; simp only [PR.toFl_ok]; exact ef2, ?_⟩
    have hj2' : JO (c + 23) j2 := hj2.mono (by omega)
    have hB2' : A2.length ≤ 83 := by omega
    have la2 : A2.length < PySem.sizeLine := Nat.lt_of_le_of_lt (show A2.length ≤ 100 by omega) (by decide)
    have la3 : A2.length + 1 + 2 ≤ PySem.sizeLine := Nat.le_trans (show A2.length + 1 + 2 ≤ 100 by omega) (by decide)
    have p3 := addT (xs := [.non]) (ys := ms) (by simp; omega)
    have p4 := addT (xs := [.non] ++ ms) (ys := [.tup [.int 0, .int 0, .int 0]]) (by simp; omega)
    simp at p3 p4
    refine seq_ex (R := RT (c + 200)) ⟨_, by simp [s0, s3, p3, p4, la2, pRunOf, entP, mkSl, outsP, slv, PSl.val, tSeq, tNil, tRet, tRetN, tRetO, tIf, tAsg, tAsgF, tDrop, tAsgT, tgP, tgPs, noMu, tPar, inst, tSt, setM, stv, qVar, qFrz, qPk, qCon, qB2, qB2s, qU, qNil, qCons, qTup, qLst, qCall, qIf, qTru, qNotB, qAndB, qOrB, qAnd, qOr, qNot, qAsB, qChain, qIsT, qSl, qNo, qSo, pOI, qRun, qArgs, mOk, isMs, isM, setOuts, outS, qMut, qMut0, tyP, ptru, ptoB, pTy, isTy, pLen, pInt, atI, ixN, pAddI, pSub, pI, pDiv, pMod, pNeg, pGt, pGe, pLe, pLt, pIsN, pNotN, pTup, pLst, pSet, pAppend, pExtend, qNewT, qNewK, qYes, ofP, PR.bind, PR.toFl, PFl.seq, PR.ne, tRaise] <;> rfl, ?_⟩
    have gnet : Gd 4 (.tup [.int nn, .tup ms, .int p]) := by
      intro x hx
      simp only [List.mem_cons, List.not_mem_nil, or_false] at hx
      rcases hx with rfl | rfl | rfl
      · trivial
      · exact fun y hy => (gd_t3 (ht y hy).t3)
      · trivial
    have wnet : wt (.tup [.int nn, .tup ms, .int p]) ≤ 300000 := by
      have := m1.1.2
      have h5 := wtL_le fun x hx => (od_t3 (ht x hx)).2
      have : ms.length * 20 ≤ 60 * 20 := Nat.mul_le_mul_right _ hl
      simp [wt, wtL]; omega
    obtain ⟨b1, j3, e1, hj3, g1, w1⟩ := bent_p 4 8 _ (c + 23) j2 (by decide) (by decide) gnet (by omega) hj2' (by omega)
    obtain ⟨b2, j4, e2, hj4, g2, w2⟩ := bent_p 4 8 _ (c + 23 + 12) j3 (by decide) (by decide) gnet (by omega) hj3 (by omega)
    obtain ⟨b3, j5, e3, hj5, g3, w3⟩ := bent_p 6 8 b2 (c + 23 + 12 + 12) j4 (by decide) (by decide) g2 (by omega) hj4 (by omega)
    refine ⟨A2 ++ [.tup [.int nn, .tup (.non :: (ms ++ [.tup [.int 0, .int 0, .int 0]])), .int 49], b1, b3], [some (PSl.mu j5), some (PSl.sh (PV.tup [PV.int nn, PV.tup ms, PV.int p])), some (PSl.sh (PV.int nn)), some (PSl.sh (PV.tup ms)), some (PSl.sh (PV.int p)), some (PSl.sh (PV.int L)), none, none, none, some (PSl.sh (PV.lst (A2 ++ [.tup [.int nn, .tup (.non :: (ms ++ [.tup [.int 0, .int 0, .int 0]])), .int 49]]))), s10, some (PSl.sh (PV.lst OM)), s12, s13], j5, ?_, rfl, hj5.mono (by omega), fun t h => ?_⟩
    · simp [e1, e2, e3, s2, la3, pAddL, pRunOf, entP, mkSl, outsP, slv, PSl.val, tSeq, tNil, tRet, tRetN, tRetO, tIf, tAsg, tAsgF, tDrop, tAsgT, tgP, tgPs, noMu, tPar, inst, tSt, setM, stv, qVar, qFrz, qPk, qCon, qB2, qB2s, qU, qNil, qCons, qTup, qLst, qCall, qIf, qTru, qNotB, qAndB, qOrB, qAnd, qOr, qNot, qAsB, qChain, qIsT, qSl, qNo, qSo, pOI, qRun, qArgs, mOk, isMs, isM, setOuts, outS, qMut, qMut0, tyP, ptru, ptoB, pTy, isTy, pLen, pInt, pIx, atI, ixN, pAdd, pSub, pI, pDiv, pMod, pNeg, pGt, pGe, pLe, pLt, pIsN, pNotN, pTup, pLst, pSet, pAppend, pExtend, qNewT, qNewK, qYes, ofP, PR.bind, PR.toFl, PFl.seq, PR.ne, tRaise]
    · rcases List.mem_append.mp h with h | h
      · exact hA2 t h
      · simp only [List.mem_cons, List.not_mem_nil, or_false] at h
        rcases h with rfl | rfl | rfl
        · refine gt_tup (fun x h => ?_) (by simp)
          simp only [List.mem_cons, List.not_mem_nil, or_false] at h
          rcases h with rfl | rfl | rfl
          · exact sm_int _
          · refine (sm_many (fun x h => ?_) (by simp; omega)).1
            rcases List.mem_cons.mp h with rfl | h
            · exact od_non
            · rcases List.mem_append.mp h with h | h
              · exact od_t3 (ht x h)
              · simp only [List.mem_singleton] at h
                subst h; exact od_int3 _ _ _
          · exact sm_int _
        · exact ⟨g1.mono (by decide), by omega⟩
        · exact ⟨g3.mono (by decide), by omega⟩
  obtain ⟨L, π', j', e, e0, hj', hL⟩ := key
  refine ⟨L, j', ?_, hj', hL⟩
  unfold P__law_n1_things pRunOf
  simp only [entP, List.length_cons, List.length_nil, if_pos]
  simp [mkSl, e, outsP, e0]
end K01

set_option maxRecDepth 100000
set_option maxHeartbeats 4000000
namespace K01
open G P
open L2 (atI ixN)
def gdB : Nat → PV → Bool
  | 0, _ => false
  | _ + 1, .str x => PySem.PyData.strOk x
  | n + 1, .tup xs => xs.all (gdB n)
  | n + 1, .lst xs => xs.all (gdB n)
  | _ + 1, .dK _ _ => false
  | _ + 1, .dT _ _ => false
  | _ + 1, _ => true
theorem gd_of : ∀ {n : Nat} {v : PV}, gdB n v = true → Gd n v
  | 0, _, h => by cases h
  | n + 1, .non, _ => trivial
  | n + 1, .bl _, _ => trivial
  | n + 1, .int _, _ => trivial
  | n + 1, .str _, h => h
  | n + 1, .tup xs, h => fun x hx => gd_of (List.all_eq_true.mp h x hx)
  | n + 1, .lst xs, h => fun x hx => gd_of (List.all_eq_true.mp h x hx)
  | n + 1, .dK _ _, h => by cases h
  | n + 1, .dT _ _, h => by cases h
def gm : List PV := (List.range 60).map fun i => .tup [.int ((i / 2 : Nat) : Int), .int (((i / 2 + 1) % 30 : Nat) : Int), .int ((1 + i % 2 : Nat) : Int)]
def gB (w : PySem.Str) (x : PV) : PV := .tup [.str w, x]
def i3 (a b c : Int) : PV := .tup [.int a, .int b, .int c]
def n3 (n : Int) (ms : List PV) (p : Int) : PV := .tup [.int n, .tup ms, .int p]
def pr (a b : PV) : PV := .tup [a, b]
def handL : List PV := [pr (n3 30 gm 0) .non, pr (n3 30 gm 5) .non, pr (n3 30 gm 4) (gB "BadNet" (.int 2)), pr (n3 30 gm 49) (gB "BadNet" (.int 2)),
  pr (n3 30 (gm ++ gm.take 1) 0) (gB "TooMany" (.int 61)), pr (.tup [.int 30, .tup (rep 61 [.non]), .non]) (gB "TooMany" (.int 61)),
  pr (n3 2 [i3 0 1 0, i3 1 0 0] 0) (gB "BadNet" (.tup [.int 1, .int 1])), pr (n3 2 [i3 0 1 0, i3 1 0 1] 3) .non,
  pr (n3 2 [i3 0 1 0, i3 1 0 1] 2) (gB "BadNet" (.int 2)), pr (n3 1 [i3 0 0 0] 0) (gB "BadNet" (.tup [.int 1, .int 0])),
  pr (n3 1 [i3 0 0 20] 41) .non, pr (n3 1 [i3 0 0 20] 40) (gB "BadNet" (.int 2)), pr (n3 0 [] 1) .non,
  pr (n3 1 [i3 0 0 21] 0) (gB "BadNet" (.tup [.int 1, .int 0])), pr (n3 0 [] 49) (gB "BadNet" (.int 2)), pr (n3 0 [] 48) .non,
  pr (n3 3 [i3 0 1 0, i3 1 2 0, i3 2 0 0] 1) .non, pr (n3 2 [i3 1 0 0, i3 0 1 0] 9) (gB "BadNet" (.tup [.int 1, .int 1]))]
def okP (x : PV) : Bool := match x with
  | .tup [t, f] => (match pEqB (faultV t) f with | some true => true | _ => false) && (gdB 10 t && decide (wt t ≤ 4000000))
  | _ => false
theorem hand_ok : handL.all okP = true := by decide +kernel
theorem gm_len : gm.length = 60 := by decide +kernel
theorem gm_t3 : ∀ x ∈ gm, isT3 x := fun x hx => by
  obtain ⟨i, _, rfl⟩ := List.mem_map.mp hx
  exact ⟨_, _, _, rfl⟩
theorem lc_gm : lcP (.nm 1) qYes (qTup (qCons (qB2 pDiv (qVar 1) (qCon (.int 2))) (qCons (qB2 pMod (qU pInt (qB2 pAdd (qB2 pDiv (qVar 1) (qCon (.int 2))) (qCon (.int 1)))) (qCon (.int 30))) (qCons (qB2 pAdd (qCon (.int 1)) (qB2 pMod (qU pInt (qPk 1)) (qCon (.int 2)))) (qNil))))) [1] (rng 0 60) [none, none, none] = .ok gm [none, none, none] := by
  have := lcP_map (t := .nm 1) (pt := qYes) (pe := (qTup (qCons (qB2 pDiv (qVar 1) (qCon (.int 2))) (qCons (qB2 pMod (qU pInt (qB2 pAdd (qB2 pDiv (qVar 1) (qCon (.int 2))) (qCon (.int 1)))) (qCon (.int 30))) (qCons (qB2 pAdd (qCon (.int 1)) (qB2 pMod (qU pInt (qPk 1)) (qCon (.int 2)))) (qNil)))))) (own := [1]) (π := [none, none, none])
    (onInt fun i => .tup [.int (i / 2), .int ((i / 2 + 1) % 30), .int (1 + i % 2)]) (rng 0 60) (by
      intro x hx
      obtain ⟨i, hi, rfl⟩ := mem_rng hx
      have lg : Nat.log2 2 < 9000 := by decide
      have s3 : 3 ≤ PySem.sizeLine := by decide
      exact ⟨[none, some (.sh (.int i)), none], by simp [pRunOf, entP, mkSl, outsP, slv, PSl.val, tSeq, tNil, tRet, tRetN, tRetO, tIf, tAsg, tAsgF, tDrop, tAsgT, tgP, tgPs, noMu, tPar, inst, tSt, setM, stv, qVar, qFrz, qPk, qCon, qB2, qB2s, qU, qNil, qCons, qTup, qLst, qCall, qIf, qTru, qNotB, qAndB, qOrB, qAnd, qOr, qNot, qAsB, qChain, qIsT, qSl, qNo, qSo, pOI, qRun, qArgs, mOk, isMs, isM, setOuts, outS, qMut, qMut0, tyP, ptru, ptoB, pTy, isTy, pLen, pInt, pIx, atI, ixN, pAdd, pSub, pI, pDiv, pMod, pNeg, pGt, pGe, pLe, pLt, pIsN, pNotN, pTup, pLst, pSet, pAppend, pExtend, qNewT, qNewK, qYes, ofP, PR.bind, PR.toFl, PFl.seq, PR.ne, tRaise], by simp [pRunOf, entP, mkSl, outsP, slv, PSl.val, tSeq, tNil, tRet, tRetN, tRetO, tIf, tAsg, tAsgF, tDrop, tAsgT, tgP, tgPs, noMu, tPar, inst, tSt, setM, stv, qVar, qFrz, qPk, qCon, qB2, qB2s, qU, qNil, qCons, qTup, qLst, qCall, qIf, qTru, qNotB, qAndB, qOrB, qAnd, qOr, qNot, qAsB, qChain, qIsT, qSl, qNo, qSo, pOI, qRun, qArgs, mOk, isMs, isM, setOuts, outS, qMut, qMut0, tyP, ptru, ptoB, pTy, isTy, pLen, pInt, pIx, atI, ixN, pAdd, pSub, pI, pDiv, pMod, pNeg, pGt, pGe, pLe, pLt, pIsN, pNotN, pTup, pLst, pSet, pAppend, pExtend, qNewT, qNewK, qYes, ofP, PR.bind, PR.toFl, PFl.seq, PR.ne, tRaise], by simp [onInt, lg, s3, pRunOf, entP, mkSl, outsP, slv, PSl.val, tSeq, tNil, tRet, tRetN, tRetO, tIf, tAsg, tAsgF, tDrop, tAsgT, tgP, tgPs, noMu, tPar, inst, tSt, setM, stv, qVar, qFrz, qPk, qCon, qB2, qB2s, qU, qNil, qCons, qTup, qLst, qCall, qIf, qTru, qNotB, qAndB, qOrB, qAnd, qOr, qNot, qAsB, qChain, qIsT, qSl, qNo, qSo, pOI, qRun, qArgs, mOk, isMs, isM, setOuts, outS, qMut, qMut0, tyP, ptru, ptoB, pTy, isTy, pLen, pInt, pIx, atI, ixN, pAdd, pSub, pI, pDiv, pMod, pNeg, pGt, pGe, pLe, pLt, pIsN, pNotN, pTup, pLst, pSet, pAppend, pExtend, qNewT, qNewK, qYes, ofP, PR.bind, PR.toFl, PFl.seq, PR.ne, tRaise], by simp [wipeP]⟩)
  rw [this]
  congr 1
theorem gm_sorted : pSort gm = gm := by
  unfold pSort
  apply List.mergeSort_of_pairwise
  decide +kernel
theorem hand_p : P__law_n1_hand [] = .ok (.lst handL) [] := by
  have e0 : pR1 (.int 60) = some (rng 0 60) := pR1_nat (n := 60) (by decide)
  have e1 : pSorted (.lst gm) = some (.lst gm) := by
    simp only [pSorted, pSeqOf]
    rw [if_pos (sort_t3 gm_t3 (by rw [gm_len]; decide)), gm_sorted]
  have k1 := cut_any (xs := gm) (a := 1)
  have A1 := addT (xs := gm) (ys := gm.take 1) (by simp [gm_len])
  have N61 := mul_rep (xs := [.non]) (k := 61) (by decide) (by decide)
  simp only [Int.cast_ofNat_Int] at k1 N61
  have gl : 60 ≤ PySem.sizeLine := by decide
  have sl : ∀ n, n ≤ 1000 → n ≤ PySem.sizeLine := fun n h => Nat.le_trans h (by decide)
  have sl' : ∀ n, n < 1000 → n < PySem.sizeLine := fun n h => Nat.lt_trans h (by decide)
  have s1 := sl 1 (by decide); have s2 := sl 2 (by decide); have s3 := sl 3 (by decide); have s4 := sl 4 (by decide); have s5 := sl 5 (by decide); have s6 := sl 6 (by decide); have s8 := sl 8 (by decide)
  have s10 := sl 10 (by decide); have s12 := sl 12 (by decide); have s13 := sl 13 (by decide); have s15 := sl 15 (by decide); have s16 := sl 16 (by decide); have s17 := sl 17 (by decide); have s18 := sl 18 (by decide); have s19 := sl 19 (by decide)
  have t3 := sl' 3 (by decide); have t16 := sl' 16 (by decide); have t17 := sl' 17 (by decide); have t18 := sl' 18 (by decide); have t13 := sl' 13 (by decide); have t15 := sl' 15 (by decide)
  simp [P__law_n1_hand, p__law_n1_hand, qLc, qR1, e0, okOwn, wipeP, backP, lc_gm, gm_len, gl, e1, k1, A1, N61, s1, s2, s3, s4, s5, s6, s8, s10, s12, s13, s15, s16, s17, s18, s19, t3, t13, t15, t16, t17, t18, handL, pr, n3, gB, i3, pRunOf, entP, mkSl, outsP, slv, PSl.val, tSeq, tNil, tRet, tRetN, tRetO, tIf, tAsg, tAsgF, tDrop, tAsgT, tgP, tgPs, noMu, tPar, inst, tSt, setM, stv, qVar, qFrz, qPk, qCon, qB2, qB2s, qU, qNil, qCons, qTup, qLst, qCall, qIf, qTru, qNotB, qAndB, qOrB, qAnd, qOr, qNot, qAsB, qChain, qIsT, qSl, qNo, qSo, pOI, qRun, qArgs, mOk, isMs, isM, setOuts, outS, qMut, qMut0, tyP, ptru, ptoB, pTy, isTy, pLen, pInt, atI, ixN, pAddI, pSub, pI, pDiv, pMod, pNeg, pGt, pGe, pLe, pLt, pIsN, pNotN, pTup, pLst, pSet, pAppend, pExtend, qNewT, qNewK, qYes, ofP, PR.bind, PR.toFl, PFl.seq, PR.ne, tRaise]
theorem right_gt {t : PV} (h : GT t) : P__law_n1_right [t] = .ok (.bl true) [] := right_p h.1 h.2
theorem law_p {j : PV} (hj : JO 0 j) : ∃ π', p_law [none, some (.ow j), none, none, none] = .ret (.bl true) π' := by
  have e5 : pR1 (.int 5) = some (rng 0 5) := pR1_nat (n := 5) (by decide)
  obtain ⟨π1, ef1, j1, s2, s3, rfl, hj1, o2, o3⟩ := forP_keep (body := ptgt (.nm 2) (tSeq (tFor (qSeq (qRun (.m 1 :: .v (qRun (.m 1 :: []) P__law_xp_net) :: []) P__law_n1_things)) (.nm 3) (tSeq (tIf (qNotB (qTru (qRun (.v (qVar 3) :: []) P__law_n1_right))) (tSeq (tRet (qCon (.bl false))) (tNil)) (tNil)) (tNil))) (tNil))) (fun i π => ∃ j' s2 s3, π = [none, some (.ow j'), s2, s3, none] ∧ JO (450 * i) j' ∧ okS s2 = true ∧ okS s3 = true) (rng 0 5) 0 _ ⟨j, none, none, rfl, hj, rfl, rfl⟩ (by
    rintro v hv i π hi ⟨j', s2, s3, rfl, hj', o2, o3⟩
    have hi : i < 5 := by simpa [rng] using hi
    have n2 := nm_of_ok o2
    have n3 := nm_of_ok o3
    obtain ⟨nn, ms, p, j2, e1, hj2, hl, ht⟩ := net_p hj' (by omega)
    obtain ⟨L, j3, e2, hj3, hL⟩ := things_p (nn := nn) (p := p) hj2 (by omega) hl ht
    obtain ⟨π2, ef2, s3', rfl, o3'⟩ := forP_keep (body := ptgt (.nm 3) (tSeq (tIf (qNotB (qTru (qRun (.v (qVar 3) :: []) P__law_n1_right))) (tSeq (tRet (qCon (.bl false))) (tNil)) (tNil)) (tNil))) (fun i π => ∃ s3', π = [none, some (.ow j3), some (.sh v), s3', none] ∧ okS s3' = true) L 0 _ ⟨s3, rfl, o3⟩ (by
      rintro t ht i π _ ⟨s3', rfl, o3'⟩
      have n3' := nm_of_ok o3'
      exact ⟨_, by simp [ptgt, n3', right_gt (hL t ht), pRunOf, entP, mkSl, outsP, slv, PSl.val, tSeq, tNil, tRet, tRetN, tRetO, tIf, tAsg, tAsgF, tDrop, tAsgT, tgP, tgPs, noMu, tPar, inst, tSt, setM, stv, qVar, qFrz, qPk, qCon, qB2, qB2s, qU, qNil, qCons, qTup, qLst, qCall, qIf, qTru, qNotB, qAndB, qOrB, qAnd, qOr, qNot, qAsB, qChain, qIsT, qSl, qNo, qSo, pOI, qRun, qArgs, mOk, isMs, isM, setOuts, outS, qMut, qMut0, tyP, ptru, ptoB, pTy, isTy, pLen, pInt, pIx, atI, ixN, pAdd, pSub, pI, pDiv, pMod, pNeg, pGt, pGe, pLe, pLt, pIsN, pNotN, pTup, pLst, pSet, pAppend, pExtend, qNewT, qNewK, qYes, ofP, PR.bind, PR.toFl, PFl.seq, PR.ne, tRaise] <;> rfl, _, rfl, rfl⟩)
    refine ⟨_, by simp [ptgt, n2, tFor, qSeq, pItems, e1, e2, ef2, pRunOf, entP, mkSl, outsP, slv, PSl.val, tSeq, tNil, tRet, tRetN, tRetO, tIf, tAsg, tAsgF, tDrop, tAsgT, tgP, tgPs, noMu, tPar, inst, tSt, setM, stv, qVar, qFrz, qPk, qCon, qB2, qB2s, qU, qNil, qCons, qTup, qLst, qCall, qIf, qTru, qNotB, qAndB, qOrB, qAnd, qOr, qNot, qAsB, qChain, qIsT, qSl, qNo, qSo, pOI, qRun, qArgs, mOk, isMs, isM, setOuts, outS, qMut, qMut0, tyP, ptru, ptoB, pTy, isTy, pLen, pInt, pIx, atI, ixN, pAdd, pSub, pI, pDiv, pMod, pNeg, pGt, pGe, pLe, pLt, pIsN, pNotN, pTup, pLst, pSet, pAppend, pExtend, qNewT, qNewK, qYes, ofP, PR.bind, PR.toFl, PFl.seq, PR.ne, tRaise] <;> rfl, j3, _, _, rfl, hj3.mono (by omega), rfl, o3'⟩)
  obtain ⟨π2, ef2, s3', s4', rfl, o3', o4'⟩ := forP_keep (body := ptgt (.tp ((.nm 3) :: (.nm 4) :: [])) (tSeq (tIf (qOrB (qAsB (qB2 pNe (qRun (.v (qVar 3) :: []) P__law_xp_net_fault) (qPk 4))) (qNotB (qTru (qRun (.v (qVar 3) :: []) P__law_n1_right)))) (tSeq (tRet (qCon (.bl false))) (tNil)) (tNil)) (tNil))) (fun i π => ∃ s3' s4', π = [none, some (.ow j1), s2, s3', s4'] ∧ okS s3' = true ∧ okS s4' = true) handL 0 _ ⟨s3, none, rfl, o3, rfl⟩ (by
    rintro x hx i π _ ⟨s3', s4', rfl, o3', o4'⟩
    have n3' := nm_of_ok o3'
    have n4' := nm_of_ok o4'
    have hk := List.all_eq_true.mp hand_ok x hx
    unfold okP at hk
    split at hk
    · rename_i t f
      simp only [Bool.and_eq_true, decide_eq_true_eq] at hk
      obtain ⟨h1, h2, h3⟩ := hk
      have e : pNe (faultV t) f = some (.bl false) := by
        unfold pNe
        split at h1
        · rename_i he; rw [he]; rfl
        · cases h1
      exact ⟨[none, some (.ow j1), s2, some (.sh t), some (.sh f)], by simp [ptgt, n3', n4', fault_p, e, right_gt ⟨gd_of h2, h3⟩, pRunOf, entP, mkSl, outsP, slv, PSl.val, tSeq, tNil, tRet, tRetN, tRetO, tIf, tAsg, tAsgF, tDrop, tAsgT, tgP, tgPs, noMu, tPar, inst, tSt, setM, stv, qVar, qFrz, qPk, qCon, qB2, qB2s, qU, qNil, qCons, qTup, qLst, qCall, qIf, qTru, qNotB, qAndB, qOrB, qAnd, qOr, qNot, qAsB, qChain, qIsT, qSl, qNo, qSo, pOI, qRun, qArgs, mOk, isMs, isM, setOuts, outS, qMut, qMut0, tyP, ptru, ptoB, pTy, isTy, pLen, pInt, pIx, atI, ixN, pAdd, pSub, pI, pDiv, pMod, pNeg, pGt, pGe, pLe, pLt, pIsN, pNotN, pTup, pLst, pSet, pAppend, pExtend, qNewT, qNewK, qYes, ofP, PR.bind, PR.toFl, PFl.seq, PR.ne, tRaise], _, _, rfl, rfl, rfl⟩
    · cases hk)
  refine ⟨[none, some (.ow j1), s2, s3', s4'], ?_⟩
  simp [p_law, tFor, qR1, e5, ef1, qSeq, hand_p, pItems, ef2, pRunOf, entP, mkSl, outsP, slv, PSl.val, tSeq, tNil, tRet, tRetN, tRetO, tIf, tAsg, tAsgF, tDrop, tAsgT, tgP, tgPs, noMu, tPar, inst, tSt, setM, stv, qVar, qFrz, qPk, qCon, qB2, qB2s, qU, qNil, qCons, qTup, qLst, qCall, qIf, qTru, qNotB, qAndB, qOrB, qAnd, qOr, qNot, qAsB, qChain, qIsT, qSl, qNo, qSo, pOI, qRun, qArgs, mOk, isMs, isM, setOuts, outS, qMut, qMut0, tyP, ptru, ptoB, pTy, isTy, pLen, pInt, pIx, atI, ixN, pAdd, pSub, pI, pDiv, pMod, pNeg, pGt, pGe, pLe, pLt, pIsN, pNotN, pTup, pLst, pSet, pAppend, pExtend, qNewT, qNewK, qYes, ofP, PR.bind, PR.toFl, PFl.seq, PR.ne, tRaise]
end K01

set_option maxRecDepth 100000
set_option maxHeartbeats 4000000
namespace K01
open G P
theorem forGo_keep {w : Wk} {body : D → G.Env → Store → Fl} {S : Store} (I : G.Env → Prop) (hw : ∀ i, i < w.n → ∃ d, w.get S i = some d ∧ ∀ ρ, I ρ → ∃ ρ', body d ρ S = .nx ρ' S ∧ I ρ') (hf : w.fin S = true) : ∀ (k i : Nat) (ρ : G.Env), i + k = w.n → I ρ → ∃ ρ', forGo w body k i ρ S = .nx ρ' S ∧ I ρ'
  | 0, i, ρ, _, h => ⟨ρ, by simp [forGo, hf], h⟩
  | k + 1, i, ρ, e, h => by
    obtain ⟨d, g, hb⟩ := hw i (by omega)
    obtain ⟨ρ1, e1, h1⟩ := hb ρ h
    obtain ⟨ρ2, e2, h2⟩ := forGo_keep I hw hf k (i + 1) ρ1 (by omega) h1
    exact ⟨ρ2, by simp only [forGo, g, e1, forK]; exact e2, h2⟩
/-- what the pool reads of its script -/
structure Scr (d : D) (S : Store) (ns : List Int) : Prop where
  len : cLen [d] S = some (.int ns.length, S)
  ix : ∀ i : Nat, i < ns.length → ∃ z, dIx d (.int i) S = some (.int z, S)
theorem atI_ok' {xs : List D} {i : Nat} (h : i < xs.length) : L2.atI xs (i : Int) = some (xs.getD i .non) := by
  unfold L2.atI L2.ixN
  rw [if_pos (by omega), if_pos (by omega)]
  simp [h]
theorem scr_of {d : D} {S : Store} {ns : List Int} (h : ScrD d S ns) : Scr d S ns := by
  rcases h with ⟨rfl, rfl⟩ | ⟨rfl, rfl⟩ | ⟨a, rfl, rfl⟩
  · refine ⟨by simp [cLen], fun i hi => ⟨ns.getD i 0, ?_⟩⟩
    simp only [dIx, List.getElem?_cons_zero]
    rw [atI_ok' (by simpa using hi)]
    simp [hi]
  · refine ⟨by simp [cLen], fun i hi => ⟨ns.getD i 0, ?_⟩⟩
    simp only [dIx, List.getElem?_cons_zero]
    rw [atI_ok' (by simpa using hi)]
    simp [hi]
  · refine ⟨by simp [cLen], fun i hi => ⟨ns.getD i 0, ?_⟩⟩
    simp only [dIx]
    unfold L2.atI L2.ixN
    rw [if_pos (by omega), if_pos (by omega)]
    simp [hi]
def PI (d : D) (ρ : G.Env) : Prop := ∃ dg st s3 s4, ρ = [some d, some (.int dg), some (.int st), s3, s4] ∧ 0 ≤ dg ∧ 0 ≤ st ∧ st < 2147483647
theorem pool_p {d : D} {S : Store} {ns : List Int} (h : Scr d S ns) (hl : ns.length ≤ 63) : ∃ dg st : Int, R__law_pool [d] S = .ok (.loc S.length) (S ++ [.lst [.int dg, .int st, .int 0]]) ∧ 0 ≤ st ∧ st < 2147483647 := by
  have l60 : (10 : Int) ^ 60 = 1000000000000000000000000000000000000000000000000000000000000 := by decide
  have hp12 : dPow (.int 10) (.int 12) S = some (.int 1000000000000, S) := by simp [dPow]
  have hp60 : dPow (.int 10) (.int 60) S = some (.int 1000000000000000000000000000000000000000000000000000000000000, S) := by simp [dPow]
  have step : ∀ i : Nat, i < ns.length → ∀ ρ, PI d ρ → ∃ ρ', tgt (gT (.nm 3)) (sSeq (sAsg (fCall cInt (fCons (fCall cMax (fCons (fB2 dIx (fVar 0) (fVar 3)) (fCons (fB2 dSub (fU dNeg (fCon (.int 1))) (fB2 dIx (fVar 0) (fVar 3))) (fNil)))) (fNil))) (gNm 4)) (sSeq (sAsg (fB2 dMod (fCall cInt (fCons (fB2 dAdd (fB2 dAdd (fB2 dMul (fVar 2) (fCon (.int 48271))) (fB2 dMod (fVar 4) (fCon (.int 2147483629)))) (fCon (.int 11))) (fNil))) (fCon (.int 2147483647))) (gNm 2)) (sSeq (sAsg (fIf (fAndB (fAsB (fB2 dGe (fVar 4) (fB2 dPow (fCon (.int 10)) (fCon (.int 12))))) (fAsB (fB2 dLt (fVar 1) (fB2 dPow (fCon (.int 10)) (fCon (.int 60)))))) (fCall cInt (fCons (fB2 dAdd (fB2 dMul (fVar 1) (fB2 dPow (fCon (.int 10)) (fCon (.int 60)))) (fB2 dMod (fVar 4) (fB2 dPow (fCon (.int 10)) (fCon (.int 60))))) (fNil))) (fVar 1)) (gNm 1)) (sNil)))) (.int ((0 : Int) + i)) ρ S = .nx ρ' S ∧ PI d ρ' := by
    rintro i hi ρ ⟨dg, st, s3, s4, rfl, h0, h1, h2⟩
    obtain ⟨z, hz⟩ := h.ix i hi
    have b1 : st.natAbs.log2 < 31 := log_lt (by omega) (by decide)
    have b2 : Nat.log2 48271 < 16 := by decide
    have hm : dMul (.int st) (.int 48271) S = some (.int (st * 48271), S) := by
      simp only [dMul]
      rw [if_pos (by simp; omega)]
    have cm : cMax [.int z, .int (-1 - z)] S = some (.int (maxI z (-1 - z)), S) := rfl
    rw [Int.zero_add]
    generalize maxI z (-1 - z) = cell at *
    have q0 : 0 ≤ (st * 48271 + cell % 2147483629 + 11) % 2147483647 := Int.emod_nonneg _ (by decide)
    have q1 : (st * 48271 + cell % 2147483629 + 11) % 2147483647 < 2147483647 := Int.emod_lt_of_pos _ (by decide)
    by_cases c1 : 1000000000000 ≤ cell
    · by_cases c2 : dg < 1000000000000000000000000000000000000000000000000000000000000
      · have b3 : dg.natAbs.log2 < 200 := log_lt (by omega) (by decide)
        have b4 : Nat.log2 1000000000000000000000000000000000000000000000000000000000000 < 200 := log_lt (by decide) (by decide)
        have hm2 : dMul (.int dg) (.int 1000000000000000000000000000000000000000000000000000000000000) S = some (.int (dg * 1000000000000000000000000000000000000000000000000000000000000), S) := by
          simp only [dMul]
          rw [if_pos (by simp; omega)]
        refine ⟨[some d, some (.int (dg * 1000000000000000000000000000000000000000000000000000000000000 + cell % 1000000000000000000000000000000000000000000000000000000000000)), some (.int ((st * 48271 + cell % 2147483629 + 11) % 2147483647)), some (.int i), some (.int cell)], by simp [tgt, hz, cm, hm, hp12, hp60, hm2, c1, c2, runOf, enter, sSeq, sNil, sRet, sAsg, fAsB, fAndB, fIf, fB2, fU, fVar, fCon, fRun, fCons, fNil, fCall, fTup, fLst, gNm, gT, tgE, tgEs, dAdd, dSub, dGe, dLt, iB, dMod, dNeg, cInt, ofO, toB, Fl.out, R.bind, R.toFl, Fl.seq], _, _, _, _, rfl, ?_, q0, q1⟩
        have := Int.emod_nonneg cell (show (1000000000000000000000000000000000000000000000000000000000000 : Int) ≠ 0 by decide)
        omega
      · exact ⟨[some d, some (.int dg), some (.int ((st * 48271 + cell % 2147483629 + 11) % 2147483647)), some (.int i), some (.int cell)], by simp [tgt, hz, cm, hm, hp12, hp60, c1, c2, runOf, enter, sSeq, sNil, sRet, sAsg, fAsB, fAndB, fIf, fB2, fU, fVar, fCon, fRun, fCons, fNil, fCall, fTup, fLst, gNm, gT, tgE, tgEs, dAdd, dSub, dGe, dLt, iB, dMod, dNeg, cInt, ofO, toB, Fl.out, R.bind, R.toFl, Fl.seq], _, _, _, _, rfl, h0, q0, q1⟩
    · exact ⟨[some d, some (.int dg), some (.int ((st * 48271 + cell % 2147483629 + 11) % 2147483647)), some (.int i), some (.int cell)], by simp [tgt, hz, cm, hm, hp12, c1, runOf, enter, sSeq, sNil, sRet, sAsg, fAsB, fAndB, fIf, fB2, fU, fVar, fCon, fRun, fCons, fNil, fCall, fTup, fLst, gNm, gT, tgE, tgEs, dAdd, dSub, dGe, dLt, iB, dMod, dNeg, cInt, ofO, toB, Fl.out, R.bind, R.toFl, Fl.seq], _, _, _, _, rfl, h0, q0, q1⟩
  obtain ⟨ρ', e, dg, st, s3, s4, rfl, h0, h1, h2⟩ := forGo_keep (w := wkN 0 ns.length) (body := tgt (gT (.nm 3)) (sSeq (sAsg (fCall cInt (fCons (fCall cMax (fCons (fB2 dIx (fVar 0) (fVar 3)) (fCons (fB2 dSub (fU dNeg (fCon (.int 1))) (fB2 dIx (fVar 0) (fVar 3))) (fNil)))) (fNil))) (gNm 4)) (sSeq (sAsg (fB2 dMod (fCall cInt (fCons (fB2 dAdd (fB2 dAdd (fB2 dMul (fVar 2) (fCon (.int 48271))) (fB2 dMod (fVar 4) (fCon (.int 2147483629)))) (fCon (.int 11))) (fNil))) (fCon (.int 2147483647))) (gNm 2)) (sSeq (sAsg (fIf (fAndB (fAsB (fB2 dGe (fVar 4) (fB2 dPow (fCon (.int 10)) (fCon (.int 12))))) (fAsB (fB2 dLt (fVar 1) (fB2 dPow (fCon (.int 10)) (fCon (.int 60)))))) (fCall cInt (fCons (fB2 dAdd (fB2 dMul (fVar 1) (fB2 dPow (fCon (.int 10)) (fCon (.int 60)))) (fB2 dMod (fVar 4) (fB2 dPow (fCon (.int 10)) (fCon (.int 60))))) (fNil))) (fVar 1)) (gNm 1)) (sNil))))) (S := S) (PI d) (fun i hi => ⟨.int (0 + i), rfl, step i hi⟩) rfl ns.length 0 [some d, some (.int 0), some (.int 7), none, none] (by simp [wkN]) ⟨0, 7, none, none, rfl, by decide, by decide, by decide⟩
  refine ⟨dg, st, ?_, h1, h2⟩
  have hr : -(2 ^ 62) ≤ (ns.length : Int) ∧ (ns.length : Int) < 2 ^ 62 := ⟨by omega, by omega⟩
  have s3' : 3 ≤ PySem.sizeLine := by decide
  have s2' : 2 ≤ PySem.sizeLine := by decide
  have ew : wR1 (fCons (fCall cLen (fCons (fVar 0) (fNil))) (fNil)) [some d, some (.int 0), some (.int 7), none, none] S = .ok (wkN 0 ns.length) S := by
    simp [wR1, h.len, fCons, fCall, fVar, fNil, R.bind, ofO]
    omega
  have es : sFor (wR1 (fCons (fCall cLen (fCons (fVar 0) (fNil))) (fNil))) (gT (.nm 3)) (sSeq (sAsg (fCall cInt (fCons (fCall cMax (fCons (fB2 dIx (fVar 0) (fVar 3)) (fCons (fB2 dSub (fU dNeg (fCon (.int 1))) (fB2 dIx (fVar 0) (fVar 3))) (fNil)))) (fNil))) (gNm 4)) (sSeq (sAsg (fB2 dMod (fCall cInt (fCons (fB2 dAdd (fB2 dAdd (fB2 dMul (fVar 2) (fCon (.int 48271))) (fB2 dMod (fVar 4) (fCon (.int 2147483629)))) (fCon (.int 11))) (fNil))) (fCon (.int 2147483647))) (gNm 2)) (sSeq (sAsg (fIf (fAndB (fAsB (fB2 dGe (fVar 4) (fB2 dPow (fCon (.int 10)) (fCon (.int 12))))) (fAsB (fB2 dLt (fVar 1) (fB2 dPow (fCon (.int 10)) (fCon (.int 60)))))) (fCall cInt (fCons (fB2 dAdd (fB2 dMul (fVar 1) (fB2 dPow (fCon (.int 10)) (fCon (.int 60)))) (fB2 dMod (fVar 4) (fB2 dPow (fCon (.int 10)) (fCon (.int 60))))) (fNil))) (fVar 1)) (gNm 1)) (sNil)))) [some d, some (.int 0), some (.int 7), none, none] S = .nx [some d, some (.int dg), some (.int st), s3, s4] S := by
    unfold sFor
    rw [ew]
    exact e
  unfold R__law_pool f__law_pool
  generalize sFor (wR1 (fCons (fCall cLen (fCons (fVar 0) (fNil))) (fNil))) (gT (.nm 3)) (sSeq (sAsg (fCall cInt (fCons (fCall cMax (fCons (fB2 dIx (fVar 0) (fVar 3)) (fCons (fB2 dSub (fU dNeg (fCon (.int 1))) (fB2 dIx (fVar 0) (fVar 3))) (fNil)))) (fNil))) (gNm 4)) (sSeq (sAsg (fB2 dMod (fCall cInt (fCons (fB2 dAdd (fB2 dAdd (fB2 dMul (fVar 2) (fCon (.int 48271))) (fB2 dMod (fVar 4) (fCon (.int 2147483629)))) (fCon (.int 11))) (fNil))) (fCon (.int 2147483647))) (gNm 2)) (sSeq (sAsg (fIf (fAndB (fAsB (fB2 dGe (fVar 4) (fB2 dPow (fCon (.int 10)) (fCon (.int 12))))) (fAsB (fB2 dLt (fVar 1) (fB2 dPow (fCon (.int 10)) (fCon (.int 60)))))) (fCall cInt (fCons (fB2 dAdd (fB2 dMul (fVar 1) (fB2 dPow (fCon (.int 10)) (fCon (.int 60)))) (fB2 dMod (fVar 4) (fB2 dPow (fCon (.int 10)) (fCon (.int 60))))) (fNil))) (fVar 1)) (gNm 1)) (sNil)))) = lp at *
  simp [s2', s3', es, runOf, enter, sSeq, sNil, sRet, sAsg, fAsB, fAndB, fIf, fB2, fU, fVar, fCon, fRun, fCons, fNil, fCall, fTup, fLst, gNm, gT, tgE, tgEs, dAdd, dSub, dGe, dLt, iB, dMod, dNeg, cInt, ofO, toB, Fl.out, R.bind, R.toFl, Fl.seq]
theorem law_run {d : D} {S : Store} {ns : List Int} (h : ScrD d S ns) (hl : ns.length ≤ 63) : ∃ S', R_law [d] S = .ok (.bl true) S' := by
  obtain ⟨dg, st, e1, h1, h2⟩ := pool_p (scr_of h) hl
  have hj : JO 0 (J dg st 0) := ⟨dg, st, 0, rfl, h1, h2, by decide, by decide⟩
  obtain ⟨π', ep⟩ := law_p hj
  obtain ⟨g, eg, ss⟩ := pok_law
  have hsl : S.length < (S ++ [Cell.lst [.int dg, .int st, .int 0]]).length := by simp
  have rl : Rel (fun _ => False) (fun _ => False) [some d, some (.loc S.length), none, none, none] (S ++ [.lst [.int dg, .int st, .int 0]]) [none, some (.ow (J dg st 0)), none, none, none] := by
    refine ⟨rfl, fun k z => z.elim False.elim False.elim, fun i s e => ?_, fun i j s t l hne e1 m1 e2 m2 => ?_⟩
    · have : i = 1 ∧ s = .ow (J dg st 0) := by
        match i, e with
        | 0, e => simp at e
        | 1, e => simp at e; exact ⟨rfl, e.symm⟩
        | 2, e => simp at e
        | 3, e => simp at e
        | 4, e => simp at e
        | n + 5, e => simp at e
      obtain ⟨rfl, rfl⟩ := this
      refine ⟨S.length, rfl, ⟨[.int dg, .int st, .int 0], by simp, ?_⟩, id, id⟩
      exact DenL.cons Den.int (DenL.cons Den.int (DenL.cons Den.int DenL.nil))
    · have one : ∀ (i : Nat) (s : PSl), ([none, some (.ow (J dg st 0)), none, none, none] : PEnv)[i]? = some (some s) → i = 1 := by
        intro i s e
        match i, e with
        | 0, e => simp at e
        | 1, e => rfl
        | 2, e => simp at e
        | 3, e => simp at e
        | 4, e => simp at e
        | n + 5, e => simp at e
      exact absurd ((one _ _ e1).trans (one _ _ e2).symm) hne
  have z := ss _ _ _ _ _ rl
  rw [ep] at z
  obtain ⟨d', S', e2, _, q, _⟩ := z
  have := Den.bl_inv q
  subst this
  refine ⟨S', ?_⟩
  unfold R_law runOf
  rw [eg]
  simp only [enter, List.map_cons, List.map_nil, List.length_cons, List.length_nil, sSeq, sAsg, fRun, fCons, fVar, fNil, List.cons_append, List.nil_append, List.getElem?_cons_zero, R.bind_ok, if_pos, e1, R.toFl, gNm]
  simp only [List.replicate, List.set, Fl.seq, e2]
  rfl
end K01

set_option maxRecDepth 100000
set_option maxHeartbeats 0
namespace K01
open PySem PySem.Spec PyProof.Rows L2 HotX G
/-- the plain law -/
def Plain : Prop := ∀ (ns : List Int), ns.length ≤ 63 → (∀ z ∈ ns, Builtin.Int.intBits z ≤ 1048576) → ∀ d S, ScrD d S ns → ∃ S', R_law [d] S = .ok (.bl true) S'
theorem law_at (hp : Plain) (w : World) (mg : PySem.Str → Option Value) (fA : Addr) (h : Heap) (Y : hk.says w h) (G0 : h.Ns mainGlobals mg) (hmg : mg "law" = some (.ref fA)) :
    ∃ K : PySem.W.Frag, K.In h ∧ LamX.LawAtS PySem.Challenge.rw_turnsonce_k01_nets_by_form w K (L2N.CX (PySem.Challenge.rw_turnsonce_k01_nets_by_form).prog w) 12 63 "script" mg fA h := by
  obtain ⟨K, KX, c⟩ := Y
  have B0 : Facts K mg fa fn := facts_of KX G0 c.t.d
  have hex := c.more
  unfold ex at hex
  rw [Bool.and_eq_true] at hex
  have B2 : Exs K mg cls := exs_of B0 hex.1 (by
    intro x hx
    have : ∀ x ∈ cls, fa.any (fun f => match f with | .glo y => y == x | _ => false) = true := by decide +kernel
    obtain ⟨f, hf, e⟩ := List.any_eq_true.mp (this x hx)
    obtain ⟨i, hi, e2⟩ := List.mem_iff_getElem.mp hf
    refine ⟨i, ?_⟩
    rw [List.getElem?_eq_getElem hi, e2]
    cases f <;> simp at e
    rw [e]) (by decide)
  have z : mg "law" = some (.ref (He.ga K "law")) := B0.glo 23 rfl
  have eA : fA = He.ga K "law" := by
    have q := hmg.symm.trans z
    injection q with q
    injection q
  subst eA
  obtain ⟨fd, F0⟩ := B0.says.def_ 23 (d := d_law) rfl
  obtain ⟨oc, od, _, _, _, _, _, _, _, osl, _, lk, _⟩ := id F0.ex
  refine ⟨K, KX, fd, tf.map (He.cT K), spG K (TT K) (caOf K cls) 1 R_law, ?_, ?_, ?_, fun s u => ?_, fun H a ns hl hbits hT hS => ?_, fun base hb hN hT => ?_⟩
  · intro p hp
    obtain ⟨q, hq, rfl⟩ := List.mem_map.mp hp
    exact c.empty q hq
  · intro p hp
    obtain ⟨q, hq, rfl⟩ := List.mem_map.mp hp
    exact c.out q hq
  · intro p hp
    obtain ⟨q, hq, rfl⟩ := List.mem_map.mp hp
    exact PySem.W.codeHd_of_K KX (c.hd q hq)
  · exact FunD.bindsA (ps := ["script"]) F0 (fun _ _ _ _ _ _ us hl => match us, hl with | [_], _ => rfl) s [u] rfl
  · refine sp_of rfl rfl rfl (fun p hp => ?_) hS (hp ns hl hbits)
    have e : p = ((He.cT K ("_law_n1_right", none)).2, (("_law_n1_right" : PySem.Str) ++ ".<locals>.") ++ "<lambda>") := by
      have hp' : p ∈ tbs K := hp
      unfold tbs at hp'
      exact List.mem_singleton.mp hp'
    subst e
    exact LamX.TabS.nil (hT (He.cT K ("_law_n1_right", none)) (List.mem_map.mpr ⟨_, List.mem_of_getElem? (i := 0) rfl, rfl⟩))
  · obtain ⟨fd', ⟨oc', od', osl', lk'⟩, F', _⟩ := (ok_law (P := (PySem.Challenge.rw_turnsonce_k01_nets_by_form).prog) (w := w) (base := base) B0 B2 hT hex.2).ex
    have ef : fd' = fd := by
      have q := lk'.symm.trans lk
      injection q with q
      injection q with _ _ q _
      injection q
    subst ef
    exact F'
end K01
open PySem PySem.W PySem.Calls PyProof.Rows
theorem k01_holds (hp : K01.Plain) : PySem.Challenge.rw_turnsonce_k01_nets_by_form.Holds := by
  w_on; o_law
  refine HandSHeadRun.head_any (r := OpenLaw.row PySem.Challenge.rw_turnsonce_k01_nets_by_form) (q := view (OpenLaw.row PySem.Challenge.rw_turnsonce_k01_nets_by_form).prog [33]) (H := K01.hk) (ob := K01.ob) (M := 6000) (loose := K01.loose) (d := HandSHeadRun.topDef (OpenLaw.row PySem.Challenge.rw_turnsonce_k01_nets_by_form).prog 33) (kwd := []) K01.ob_eq
    (by kernel_rfl) (fun s => by kernel_rfl) K01.run (by kernel_rfl) (by kernel_rfl) (by kernel_rfl) (by rfl) (by first | assumption | decide +kernel) (by decide +kernel) ⟨rfl, rfl, rfl, rfl, rfl, by decide +kernel⟩ ?hw ?hc
  case hw => w_witness2
  case hc =>
    refine LamX.walk_ofTsE (l := PySem.Challenge.rw_turnsonce_k01_nets_by_form) (n := 63) (k := 12) (x := "script") (CX := fun w => L2N.CX (PySem.Challenge.rw_turnsonce_k01_nets_by_form).prog w) rfl (by decide) (by kernel_rfl) ⟨rfl, by decide, by decide⟩ ?F ?X
    case F =>
      intro w mg fA h Y G hmg0
      refine K01.law_at hp w mg fA h Y G ?_
      have e : (HandSHeadRun.topDef (OpenLaw.row PySem.Challenge.rw_turnsonce_k01_nets_by_form).prog 33).name = ("law" : PySem.Str) := by kernel_rfl
      rw [← e]
      exact hmg0
    case X =>
      intro w H s e s' ⟨_, _, _, _, _, _, _, _, _, _, _, _, z⟩
      exact z.elim

set_option maxRecDepth 100000 in
set_option maxHeartbeats 8000000 in
theorem PySem.Challenge.cw_turnsonce_k01_nets_by_form_holds : PySem.Challenge.rw_turnsonce_k01_nets_by_form.Holds := by
  exact k01_holds fun ns hl _ d S h => K01.law_run h hl
