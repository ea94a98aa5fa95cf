import PyProof.Rows.All
import Wide.All
import OpenK.AllK
import Wide.FinOn
import HandS.ForMost
import HandS.ForExc
import HandS.TupAny
import HandS.Style
import HandS.TupLe
import HandS.TupLen
import HandS.Conv
import HandS.Deep
import HandS.NoneIn
import KE.SortData
import KE.KDictSum
import HandS.WordsDict
import HandS.WordsExc
import HandS.ExcOwn
import HandS.EndBits
import KE.KExcSuper
import HandS.ExcSuper
import PySem.Challenge.RW_heightfloors_k07_lexemes_and_wrong_place
section
set_option Elab.async false
set_option linter.all false
set_option maxRecDepth 100000
set_option autoImplicit false
/-! A small pure machine (values as trees, live lists and dicts in a store of places) and the relation of its states to the hand layer's abstract heaps. -/
namespace Mp
open PySem PySem.Spec PyProof.Rows L2

abbrev D := PyData
/-- what a name holds: data that stand still, a live object by its place, a def by its number, the script -/
inductive R where
  | dat (d : D)
  | loc (n : Nat)
  | fn (i : Nat)
  | scr (ns : List Int)
/-- a live object; lck: while a loop walks it; dead: it has become data -/
inductive MO where
  | lst (rs : List R)
  | dK (kvs : List (Key × R))
  | dT (kvs : List (List Key × R))
  | lckL (rs : List R)
  | lckK (kvs : List (Key × R))
  | lckT (kvs : List (List Key × R))
  | dead
abbrev Sto := List MO
inductive Out (α : Type) where
  | ok (a : α) (st : Sto)
  | exc (c : Nat) (as : List D) (st : Sto)
  | stk
abbrev Rho := List (Option R)
abbrev Cal := Nat → List R → Sto → Out R
abbrev M := Cal → Rho → Sto → Out R
abbrev MB := Cal → Rho → Sto → Out Bool
abbrev ML := Cal → Rho → Sto → Out (List R)
inductive Flw where
  | nx (ρ : Rho)
  | rt (r : R)
  | bk (ρ : Rho)
  | ct (ρ : Rho)
abbrev MS := Cal → Rho → Sto → Out Flw

def Out.bind {α β : Type} (o : Out α) (f : α → Sto → Out β) : Out β := match o with
  | .ok a st => f a st
  | .exc c as st => .exc c as st
  | .stk => .stk
@[simp] theorem Out.bind_ok {α β : Type} (a : α) (st : Sto) (f : α → Sto → Out β) : (Out.ok a st).bind f = f a st := rfl
@[simp] theorem Out.bind_exc {α β : Type} (c : Nat) (as : List D) (st : Sto) (f : α → Sto → Out β) : (Out.exc c as st).bind f = .exc c as st := rfl
@[simp] theorem Out.bind_stk {α β : Type} (f : α → Sto → Out β) : (Out.stk : Out α).bind f = .stk := rfl

/-! ### keys as data -/
def kD : Key → D
  | .inl i => .int i
  | .inr x => .str x
def tD (ks : List Key) : D := .tuple (ks.map kD)
def keyOf : D → Option Key
  | .int i => some (.inl i)
  | .str x => some (.inr x)
  | _ => none
def keysOf : List D → Option (List Key)
  | [] => some []
  | d :: ds => match keyOf d, keysOf ds with
    | some k, some ks => some (k :: ks)
    | _, _ => none
def tkeyOf : D → Option (List Key)
  | .tuple ds => keysOf ds
  | _ => none

/-! ### what stands for what -/
section
variable (F : Hp)
mutual
def RD : D → V → Prop
  | .none, v => v = .non
  | .bool b, v => v = .bl b
  | .int i, v => v = .int i
  | .str x, v => v = .str x
  | .list ds, v => ∃ a xs, v = .ref a ∧ F a = some (.lst xs) ∧ RDs ds xs
  | .tuple ds, v => ∃ a xs, v = .ref a ∧ F a = some (.tup xs) ∧ RDs ds xs
  | .dict kvs, v => ∃ a es, v = .ref a ∧ F a = some (.dT es) ∧ RDt kvs es
def RDs : List D → List V → Prop
  | [], xs => xs = []
  | d :: ds, xs => ∃ v vs, xs = v :: vs ∧ RD d v ∧ RDs ds vs
def RDt : List (D × D) → List (List Key × V) → Prop
  | [], es => es = []
  | (k, d) :: r, es => ∃ q v er, es = (q, v) :: er ∧ k = tD q ∧ RD d v ∧ RDt r er
end
end

/-- where the program's defs and classes stand -/
structure Pm where
  fnA : Nat → Option Addr
  clA : Nat → Option Addr
  kS : Addr → List Int → Prop

def RR (P : Pm) (F : Hp) (ι : List Addr) : R → V → Prop
  | .dat d, v => RD F d v
  | .loc n, v => ∃ a, ι[n]? = some a ∧ v = .ref a
  | .fn i, v => ∃ a, P.fnA i = some a ∧ v = .ref a
  | .scr ns, v => ∃ a, v = .ref a ∧ ((∃ o, F a = some (.frz o (.lst (ns.map V.int)))) ∨ P.kS a ns)
def RRs (P : Pm) (F : Hp) (ι : List Addr) (rs : List R) (vs : List V) : Prop := Paired (RR P F ι) rs vs
def RKs {κ : Type} (P : Pm) (F : Hp) (ι : List Addr) (rs : List (κ × R)) (vs : List (κ × V)) : Prop := Paired (fun p q => p.1 = q.1 ∧ RR P F ι p.2 q.2) rs vs

def RO (P : Pm) (F : Hp) (ι : List Addr) (H : Hp) (a : Addr) : MO → Prop
  | .lst rs => ∃ xs, H a = some (.lst xs) ∧ RRs P F ι rs xs
  | .dK kvs => ∃ es, H a = some (.dK es) ∧ RKs P F ι kvs es
  | .dT kvs => ∃ es, H a = some (.dT es) ∧ RKs P F ι kvs es
  | .lckL rs => ∃ xs, Rd H a (.lst xs) ∧ RRs P F ι rs xs
  | .lckK kvs => ∃ od es, H a = some (.frz od (.dK es)) ∧ RKs P F ι kvs es
  | .lckT kvs => ∃ od es, H a = some (.frz od (.dT es)) ∧ RKs P F ι kvs es
  | .dead => ∃ u, F a = some u
def Live : MO → Prop
  | .dead => False
  | _ => True
def isDct : HO → Prop
  | .dK _ => True
  | .dT _ => True
  | _ => False
/-- H a is u, or u locked (dicts) -/
def Holds (H : Hp) (a : Addr) (u : HO) : Prop := H a = some u ∨ (isDct u ∧ ∃ od, H a = some (.frz od u))

structure Sm (P : Pm) (F : Hp) (ι : List Addr) (st : Sto) (H : Hp) : Prop where
  le : ∀ a u, F a = some u → Holds H a u
  len : ι.length = st.length
  obj : ∀ n o, st[n]? = some o → ∃ a, ι[n]? = some a ∧ RO P F (ι.take n) H a o ∧ (Live o → F a = none)
  inj : ∀ (n m : Nat) (a : Addr) (o u : MO), st[n]? = some o → Live o → st[m]? = some u → Live u → ι[n]? = some a → ι[m]? = some a → n = m
structure Up (F : Hp) (ι : List Addr) (H : Hp) (F' : Hp) (ι' : List Addr) (H' : Hp) : Prop where
  le : ∀ a u, F a = some u → F' a = some u
  pre : ι <+: ι'
  fr : ∀ a u, H a = some u → a ∉ ι → H' a = some u
  new : ∀ a, a ∈ ι' → a ∈ ι ∨ H a = none
  nf : ∀ a u, F' a = some u → F a = some u ∨ H a = none ∨ a ∈ ι ∨ ∃ xs, u = .tup xs
def EnvR (P : Pm) (F : Hp) (ι : List Addr) (ρ : Rho) (σ : L2.St) : Prop :=
  ρ.length = σ.length ∧ ∀ (i : Nat) (r : R), ρ[i]? = some (some r) → ∃ v, σ[i]? = some (some v) ∧ RR P F ι r v

/-- the exception of class c with the attributes as -/
def XR (P : Pm) (F : Hp) (c : Nat) (as : List D) (H : Hp) (cls : Value) (dx : Option Addr) : Prop :=
  ∃ C, P.clA c = some C ∧ cls = .ref C ∧ match as with
    | [] => dx = none
    | d :: _ => ∃ p v, dx = some p ∧ H p = some (.xd [(("place" : Str), v)]) ∧ RD F d v

def Post {α : Type} (P : Pm) (E : XK) (F : Hp) (ι : List Addr) (H : Hp) (o : Out α) (φ : α → Sto → Hp → List Addr → Hp → Prop) : Prop := match o with
  | .ok a st' => ∀ F' ι' H', Up F ι H F' ι' H' → Sm P F' ι' st' H' → φ a st' F' ι' H'
  | .exc c as st' => ∀ F' ι' H' cls dx, Up F ι H F' ι' H' → Sm P F' ι' st' H' → XR P F' c as H' cls dx → E cls dx H'
  | .stk => False

/-! ### monotone -/
section
variable {P : Pm} {F F' F'' : Hp} {ι ι' ι'' : List Addr} {H H' H'' : Hp} {st st' : Sto}
mutual
theorem RD.mono (h : ∀ a u, F a = some u → F' a = some u) : ∀ (d : D) (v : V), RD F d v → RD F' d v
  | .none, _, e => by simpa [RD] using e
  | .bool _, _, e => by simpa [RD] using e
  | .int _, _, e => by simpa [RD] using e
  | .str _, _, e => by simpa [RD] using e
  | .list ds, v, e => by
    simp only [RD] at e ⊢
    obtain ⟨a, xs, e1, e2, e3⟩ := e
    exact ⟨a, xs, e1, h _ _ e2, RDs.mono h ds xs e3⟩
  | .tuple ds, v, e => by
    simp only [RD] at e ⊢
    obtain ⟨a, xs, e1, e2, e3⟩ := e
    exact ⟨a, xs, e1, h _ _ e2, RDs.mono h ds xs e3⟩
  | .dict kvs, v, e => by
    simp only [RD] at e ⊢
    obtain ⟨a, es, e1, e2, e3⟩ := e
    exact ⟨a, es, e1, h _ _ e2, RDt.mono h kvs es e3⟩
theorem RDs.mono (h : ∀ a u, F a = some u → F' a = some u) : ∀ (ds : List D) (vs : List V), RDs F ds vs → RDs F' ds vs
  | [], _, e => by simpa [RDs] using e
  | d :: ds, _, e => by
    simp only [RDs] at e ⊢
    obtain ⟨v, vs, e1, e2, e3⟩ := e
    exact ⟨v, vs, e1, RD.mono h d v e2, RDs.mono h ds vs e3⟩
theorem RDt.mono (h : ∀ a u, F a = some u → F' a = some u) : ∀ (ds : List (D × D)) (vs : List (List Key × V)), RDt F ds vs → RDt F' ds vs
  | [], _, e => by simpa [RDt] using e
  | (k, d) :: ds, _, e => by
    simp only [RDt] at e ⊢
    obtain ⟨q, v, vs, e1, e0, e2, e3⟩ := e
    exact ⟨q, v, vs, e1, e0, RD.mono h d v e2, RDt.mono h ds vs e3⟩
end
theorem pre_get {n : Nat} {a : Addr} (h : ι <+: ι') (e : ι[n]? = some a) : ι'[n]? = some a := by
  obtain ⟨t, rfl⟩ := h
  have hn : n < ι.length := (List.getElem?_eq_some_iff.mp e).1
  rw [List.getElem?_append_left hn]
  exact e
theorem RR.mono (h : ∀ a u, F a = some u → F' a = some u) (hp : ι <+: ι') {r : R} {v : V} (q : RR P F ι r v) : RR P F' ι' r v := by
  cases r with
  | dat d => exact RD.mono h d v q
  | loc n =>
    obtain ⟨a, e, e2⟩ := q
    exact ⟨a, pre_get hp e, e2⟩
  | fn i => exact q
  | scr ns =>
    obtain ⟨a, e, e2⟩ := q
    exact ⟨a, e, e2.imp (fun ⟨o, z⟩ => ⟨o, h _ _ z⟩) id⟩
theorem forall2_imp {α β : Type} {p q : α → β → Prop} (h : ∀ a b, p a b → q a b) : ∀ {l : List α} {m : List β}, Paired p l m → Paired q l m
  | _, _, .nil => .nil
  | _, _, .cons a b => .cons (h _ _ a) (forall2_imp h b)
theorem RRs.mono (h : ∀ a u, F a = some u → F' a = some u) (hp : ι <+: ι') {rs : List R} {vs : List V} (q : RRs P F ι rs vs) : RRs P F' ι' rs vs := forall2_imp (fun _ _ z => z.mono h hp) q
theorem RKs.mono {κ : Type} (h : ∀ a u, F a = some u → F' a = some u) (hp : ι <+: ι') {rs : List (κ × R)} {vs : List (κ × V)} (q : RKs P F ι rs vs) : RKs P F' ι' rs vs := forall2_imp (fun _ _ z => ⟨z.1, z.2.mono h hp⟩) q
theorem EnvR.mono (h : ∀ a u, F a = some u → F' a = some u) (hp : ι <+: ι') {ρ : Rho} {σ : L2.St} (q : EnvR P F ι ρ σ) : EnvR P F' ι' ρ σ :=
  ⟨q.1, fun i r e => let ⟨v, e1, e2⟩ := q.2 i r e; ⟨v, e1, e2.mono h hp⟩⟩
theorem Up.refl : Up F ι H F ι H := ⟨fun _ _ e => e, List.prefix_refl _, fun _ _ e _ => e, fun _ e => .inl e, fun _ _ e => .inl e⟩
theorem Up.trans (a : Up F ι H F' ι' H') (b : Up F' ι' H' F'' ι'' H'') : Up F ι H F'' ι'' H'' where
  le := fun x u e => b.le x u (a.le x u e)
  pre := a.pre.trans b.pre
  fr := fun x u e n => b.fr x u (a.fr x u e n) fun hm => by
    rcases a.new x hm with z | z
    · exact n z
    · rw [e] at z; cases z
  new := fun x hm => by
    rcases b.new x hm with z | z
    · exact a.new x z
    · by_cases hx : x ∈ ι
      · exact .inl hx
      · refine .inr ?_
        cases q : H x with
        | none => rfl
        | some u =>
          rw [a.fr x u q hx] at z; cases z
  nf := fun x u e => by
    rcases b.nf x u e with z | z | z | z
    · exact a.nf x u z
    · by_cases hx : x ∈ ι
      · exact .inr (.inr (.inl hx))
      · refine .inr (.inl ?_)
        cases q : H x with
        | none => rfl
        | some w => rw [a.fr x w q hx] at z; cases z
    · rcases a.new x z with y | y
      · exact .inr (.inr (.inl y))
      · exact .inr (.inl y)
    · exact .inr (.inr (.inr z))
theorem Up.env {ρ : Rho} {σ : L2.St} (u : Up F ι H F' ι' H') (q : EnvR P F ι ρ σ) : EnvR P F' ι' ρ σ := q.mono u.le u.pre
theorem Up.rr {r : R} {v : V} (u : Up F ι H F' ι' H') (q : RR P F ι r v) : RR P F' ι' r v := q.mono u.le u.pre
theorem Up.rrs {r : List R} {v : List V} (u : Up F ι H F' ι' H') (q : RRs P F ι r v) : RRs P F' ι' r v := q.mono u.le u.pre

theorem Post.up {α : Type} {E : XK} {o : Out α} {φ : α → Sto → Hp → List Addr → Hp → Prop} (h : Post P E F ι H o φ) (u : Up F ι H F' ι' H') : Post P E F' ι' H' o φ := by
  cases o with
  | ok a st => exact fun F2 ι2 H2 u2 s => h F2 ι2 H2 (u.trans u2) s
  | exc c as st => exact fun F2 ι2 H2 cls dx u2 s x => h F2 ι2 H2 cls dx (u.trans u2) s x
  | stk => exact h
theorem Post.imp {α : Type} {E : XK} {o : Out α} {φ ψ : α → Sto → Hp → List Addr → Hp → Prop} (h : Post P E F ι H o φ)
    (w : ∀ a st' F' ι' H', Up F ι H F' ι' H' → Sm P F' ι' st' H' → φ a st' F' ι' H' → ψ a st' F' ι' H') : Post P E F ι H o ψ := by
  cases o with
  | ok a st => exact fun F2 ι2 H2 u2 s => w _ _ _ _ _ u2 s (h F2 ι2 H2 u2 s)
  | exc c as st => exact h
  | stk => exact h
/-- the first of two: what it gives is handed on -/
theorem Post.bind {α β : Type} {E : XK} {o : Out α} {f : α → Sto → Out β} {φ : β → Sto → Hp → List Addr → Hp → Prop} (h : Post P E F ι H (o.bind f) φ) :
    Post P E F ι H o fun a st' F' ι' H' => Post P E F' ι' H' (f a st') φ := by
  cases o with
  | ok a st => exact fun F2 ι2 H2 u2 s => Post.up h u2
  | exc c as st => exact h
  | stk => exact h
theorem Post.now {α : Type} {E : XK} {a : α} {st : Sto} {φ : α → Sto → Hp → List Addr → Hp → Prop} (h : Post P E F ι H (.ok a st) φ) (s : Sm P F ι st H) : φ a st F ι H := h F ι H .refl s

/-! ### the heap grows -/
theorem Sm.nin (s : Sm P F ι st H) {p : Addr} (hp : H p = none) : p ∉ ι := fun hm => by
  obtain ⟨n, e⟩ := List.getElem?_of_mem hm
  have hn : n < st.length := by rw [← s.len]; exact (List.getElem?_eq_some_iff.mp e).1
  obtain ⟨a, e1, ro, _⟩ := s.obj n st[n] (List.getElem?_eq_getElem hn)
  rw [e] at e1; cases e1
  have key : ∀ u, H p ≠ some u := fun u q => by rw [hp] at q; cases q
  cases q : st[n] with
  | lst rs => rw [q] at ro; obtain ⟨xs, z, _⟩ := ro; exact key _ z
  | dK rs => rw [q] at ro; obtain ⟨xs, z, _⟩ := ro; exact key _ z
  | dT rs => rw [q] at ro; obtain ⟨xs, z, _⟩ := ro; exact key _ z
  | lckL rs => rw [q] at ro; obtain ⟨xs, z | ⟨o, z⟩, _⟩ := ro <;> exact key _ z
  | lckK rs => rw [q] at ro; obtain ⟨od, xs, z, _⟩ := ro; exact key _ z
  | lckT rs => rw [q] at ro; obtain ⟨od, xs, z, _⟩ := ro; exact key _ z
  | dead =>
    rw [q] at ro
    obtain ⟨u, z⟩ := ro
    rcases s.le _ _ z with z | ⟨_, od, z⟩ <;> exact key _ z
theorem Sm.fnone (s : Sm P F ι st H) {p : Addr} (hp : H p = none) : F p = none := by
  cases q : F p with
  | none => rfl
  | some u => rcases s.le _ _ q with z | ⟨_, od, z⟩ <;> (rw [hp] at z; cases z)
theorem Holds.mono {a : Addr} {u : HO} (h : Holds H a u) (k : ∀ x, H a = some x → H' a = some x) : Holds H' a u := by
  rcases h with h | ⟨i, od, h⟩
  · exact .inl (k _ h)
  · exact .inr ⟨i, od, k _ h⟩
theorem rd_mono {a : Addr} {u : HO} (h : Rd H a u) (k : ∀ x, H a = some x → H' a = some x) : Rd H' a u := by
  rcases h with h | ⟨od, h⟩
  · exact .inl (k _ h)
  · exact .inr ⟨od, k _ h⟩
theorem RO.mono {a : Addr} {o : MO} (h : RO P F ι H a o) (hF : ∀ a u, F a = some u → F' a = some u) (hp : ι <+: ι') (k : ∀ x, H a = some x → H' a = some x) : RO P F' ι' H' a o := by
  cases o with
  | lst rs => obtain ⟨xs, e, q⟩ := h; exact ⟨xs, k _ e, q.mono hF hp⟩
  | dK rs => obtain ⟨xs, e, q⟩ := h; exact ⟨xs, k _ e, q.mono hF hp⟩
  | dT rs => obtain ⟨xs, e, q⟩ := h; exact ⟨xs, k _ e, q.mono hF hp⟩
  | lckL rs => obtain ⟨xs, e, q⟩ := h; exact ⟨xs, rd_mono e k, q.mono hF hp⟩
  | lckK rs => obtain ⟨od, xs, e, q⟩ := h; exact ⟨od, xs, k _ e, q.mono hF hp⟩
  | lckT rs => obtain ⟨od, xs, e, q⟩ := h; exact ⟨od, xs, k _ e, q.mono hF hp⟩
  | dead => obtain ⟨u, e⟩ := h; exact ⟨u, hF _ _ e⟩
/-- objects outside may come and change -/
theorem Sm.other (s : Sm P F ι st H) (k : ∀ a x, (a ∈ ι ∨ ∃ u, F a = some u) → H a = some x → H' a = some x) : Sm P F ι st H' where
  le := fun a u e => (s.le a u e).mono fun x => k a x (.inr ⟨u, e⟩)
  len := s.len
  obj := fun n o e => by
    obtain ⟨a, e1, ro, fa⟩ := s.obj n o e
    exact ⟨a, e1, ro.mono (fun _ _ z => z) (List.prefix_refl _) fun x => k a x (.inl (List.mem_of_getElem? e1)), fa⟩
  inj := s.inj
theorem Sm.out (s : Sm P F ι st H) {p : Addr} {o : HO} (h1 : p ∉ ι) (h2 : F p = none) : Sm P F ι st (upd H p o) := s.other fun a x ha e => by
  have : a ≠ p := by
    rintro rfl
    rcases ha with z | ⟨u, z⟩
    · exact h1 z
    · rw [h2] at z; cases z
  rw [upd_ne this]; exact e
theorem Sm.new (s : Sm P F ι st H) {p : Addr} {o : HO} (hp : H p = none) : Sm P F ι st (upd H p o) := s.out (s.nin hp) (s.fnone hp)
theorem Up.nw (s : Sm P F ι st H) {p : Addr} {o : HO} (hp : H p = none) : Up F ι H F ι (upd H p o) :=
  ⟨fun _ _ e => e, List.prefix_refl _, fun a u e _ => by rw [upd_ne (ne_of_none e hp)]; exact e, fun _ e => .inl e, fun _ _ e => .inl e⟩

/-- an object becomes data (p stands in H, and is not live) -/
theorem Sm.frz (s : Sm P F ι st H) {p : Addr} {o : HO} (hp : H p = some o) (hF : F p = none) (hl : p ∉ ι) : Sm P (upd F p o) ι st H where
  le := fun a u e => by
    by_cases h : a = p
    · subst h; rw [upd_same] at e; cases e; exact .inl hp
    · rw [upd_ne h] at e; exact s.le a u e
  len := s.len
  obj := fun n m e => by
    obtain ⟨a, e1, ro, fa⟩ := s.obj n m e
    have hne : a ≠ p := fun z => hl (z ▸ List.mem_of_getElem? e1)
    refine ⟨a, e1, ro.mono (fun b u z => ?_) (List.prefix_refl _) fun _ z => z, fun hm => by rw [upd_ne hne]; exact fa hm⟩
    rw [upd_ne (show b ≠ p by rintro rfl; rw [hF] at z; cases z)]; exact z
  inj := s.inj
theorem le_upd {p : Addr} {o : HO} (hF : F p = none) : ∀ a u, F a = some u → upd F p o a = some u := fun a u e => by
  rw [upd_ne (show a ≠ p by rintro rfl; rw [hF] at e; cases e)]; exact e
theorem nf_upd {p : Addr} {o : HO} (hq : H p = none ∨ p ∈ ι ∨ ∃ xs, o = .tup xs) : ∀ a u, upd F p o a = some u → F a = some u ∨ H a = none ∨ a ∈ ι ∨ ∃ xs, u = .tup xs := fun a u e => by
  by_cases h : a = p
  · subst h; rw [upd_same] at e; cases e; exact .inr hq
  · rw [upd_ne h] at e; exact .inl e
theorem Up.frz {p : Addr} {o : HO} (hF : F p = none) (hq : H p = none ∨ p ∈ ι ∨ ∃ xs, o = .tup xs) : Up F ι H (upd F p o) ι H := ⟨le_upd hF, List.prefix_refl _, fun _ _ e _ => e, fun _ e => .inl e, nf_upd hq⟩
/-- a new object that is data at once -/
theorem Sm.newF (s : Sm P F ι st H) {p : Addr} {o : HO} (hp : H p = none) : Sm P (upd F p o) ι st (upd H p o) := (s.new hp).frz upd_same (s.fnone hp) (s.nin hp)
theorem Up.newF (s : Sm P F ι st H) {p : Addr} {o : HO} (hp : H p = none) : Up F ι H (upd F p o) ι (upd H p o) :=
  ⟨le_upd (s.fnone hp), List.prefix_refl _, fun a u e _ => by rw [upd_ne (ne_of_none e hp)]; exact e, fun _ e => .inl e, nf_upd (.inl hp)⟩

theorem take_pre {l m : List Addr} (h : l <+: m) (n : Nat) : l.take n <+: m.take n := by
  obtain ⟨t, rfl⟩ := h
  rw [List.take_append]
  exact List.prefix_append _ _
/-- a live object is written anew -/
theorem Sm.set (s : Sm P F ι st H) {n : Nat} {o o' : MO} {a : Addr} {u : HO} (hn : st[n]? = some o) (hl : Live o) (ha : ι[n]? = some a) (hu : RO P F (ι.take n) (upd H a u) a o') (hl' : Live o') : Sm P F ι (st.set n o') (upd H a u) := by
  have hFa : F a = none := by
    obtain ⟨b, e1, _, fa⟩ := s.obj n o hn
    rw [ha] at e1; cases e1; exact fa hl
  have hlt : n < st.length := (List.getElem?_eq_some_iff.mp hn).1
  refine ⟨fun b v e => ?_, by rw [List.length_set]; exact s.len, fun m x e => ?_, fun m k b x y e1 l1 e2 l2 i1 i2 => ?_⟩
  · have : b ≠ a := by rintro rfl; rw [hFa] at e; cases e
    exact (s.le b v e).mono fun x z => by rw [upd_ne this]; exact z
  · by_cases hm : m = n
    · subst hm
      rw [List.getElem?_set_self hlt] at e; cases e
      exact ⟨a, ha, hu, fun _ => hFa⟩
    · rw [List.getElem?_set_ne (Ne.symm hm)] at e
      obtain ⟨b, e1, ro, fa⟩ := s.obj m x e
      by_cases hx : Live x
      · have hba : b ≠ a := fun z => hm (s.inj m n b x o e hx hn hl e1 (z ▸ ha))
        exact ⟨b, e1, ro.mono (fun _ _ z => z) (List.prefix_refl _) fun y z => by rw [upd_ne hba]; exact z, fa⟩
      · cases x with
        | dead => exact ⟨b, e1, ro, fun z => z.elim⟩
        | _ => exact absurd trivial hx
  · have liveAt : ∀ m x, (st.set n o')[m]? = some x → Live x → ∃ x', st[m]? = some x' ∧ Live x' := fun m x e l => by
      by_cases hm : m = n
      · subst hm; exact ⟨o, hn, hl⟩
      · rw [List.getElem?_set_ne (Ne.symm hm)] at e; exact ⟨x, e, l⟩
    obtain ⟨x', e1', l1'⟩ := liveAt m x e1 l1
    obtain ⟨y', e2', l2'⟩ := liveAt k y e2 l2
    exact s.inj m k b x' y' e1' l1' e2' l2' i1 i2
theorem Up.set (s : Sm P F ι st H) {n : Nat} {a : Addr} {u : HO} (ha : ι[n]? = some a) : Up F ι H F ι (upd H a u) :=
  ⟨fun _ _ e => e, List.prefix_refl _, fun b v e hb => by rw [upd_ne (show b ≠ a by rintro rfl; exact hb (List.mem_of_getElem? ha))]; exact e, fun _ e => .inl e, fun _ _ e => .inl e⟩
/-- a new live object -/
theorem Sm.push (s : Sm P F ι st H) {p : Addr} {u : HO} {o : MO} (hp : H p = none) (hu : RO P F ι (upd H p u) p o) (hl : Live o) : Sm P F (ι ++ [p]) (st ++ [o]) (upd H p u) := by
  have hF := s.fnone hp
  have hn := s.nin hp
  refine ⟨(s.new hp).le, by simp [s.len], fun n x e => ?_, fun n m a x y e1 l1 e2 l2 i1 i2 => ?_⟩
  · by_cases h : n < st.length
    · rw [List.getElem?_append_left h] at e
      obtain ⟨a, e1, ro, fa⟩ := (s.new (o := u) hp).obj n x e
      refine ⟨a, ?_, ?_, fa⟩
      · rw [List.getElem?_append_left (by rw [s.len]; exact h)]; exact e1
      · exact ro.mono (fun _ _ z => z) (take_pre (List.prefix_append _ _) n) fun _ z => z
    · rw [List.getElem?_append_right (by omega)] at e
      have h0 : n - st.length = 0 := by
        cases q : n - st.length with
        | zero => rfl
        | succ k => rw [q] at e; simp at e
      have hn' : n = ι.length := by have := s.len; omega
      rw [h0] at e; cases e
      refine ⟨p, by rw [hn']; simp, ?_, fun _ => hF⟩
      rw [hn', List.take_left]; exact hu
  · have cases' : ∀ n x, (st ++ [o])[n]? = some x → (ι ++ [p])[n]? = some a → (n < st.length ∧ st[n]? = some x ∧ ι[n]? = some a) ∨ (n = st.length ∧ a = p) := fun n x e i => by
      by_cases h : n < st.length
      · rw [List.getElem?_append_left h] at e
        rw [List.getElem?_append_left (by rw [s.len]; exact h)] at i
        exact .inl ⟨h, e, i⟩
      · rw [List.getElem?_append_right (by omega)] at e
        have h0 : n - st.length = 0 := by
          cases q : n - st.length with
          | zero => rfl
          | succ k => rw [q] at e; simp at e
        have hn' : n = ι.length := by have := s.len; omega
        rw [hn'] at i
        simp at i
        exact .inr ⟨by omega, i.symm⟩
    rcases cases' n x e1 i1 with ⟨a1, a2, a3⟩ | ⟨a1, a2⟩ <;> rcases cases' m y e2 i2 with ⟨b1, b2, b3⟩ | ⟨b1, b2⟩
    · exact s.inj n m a x y a2 l1 b2 l2 a3 b3
    · exact absurd (b2 ▸ List.mem_of_getElem? a3) hn
    · exact absurd (a2 ▸ List.mem_of_getElem? b3) hn
    · omega
theorem Up.push (s : Sm P F ι st H) {p : Addr} {u : HO} (hp : H p = none) : Up F ι H F (ι ++ [p]) (upd H p u) :=
  ⟨fun _ _ e => e, List.prefix_append _ _, fun b v e hb => by rw [upd_ne (ne_of_none e hp)]; exact e, fun a e => by
    rcases List.mem_append.mp e with e | e
    · exact .inl e
    · exact .inr (by rw [List.mem_singleton.mp e]; exact hp), fun _ _ e => .inl e⟩
/-- what was made since is let go -/
theorem Sm.drop (s : Sm P F ι st H) (n : Nat) : Sm P F (ι.take n) (st.take n) H := by
  refine ⟨s.le, by simp [s.len], fun m x e => ?_, fun m k a x y e1 l1 e2 l2 i1 i2 => ?_⟩
  · have hm : m < n := by
      have := (List.getElem?_eq_some_iff.mp e).1
      rw [List.length_take] at this; omega
    rw [List.getElem?_take_of_lt hm] at e
    obtain ⟨a, e1, ro, fa⟩ := s.obj m x e
    refine ⟨a, by rw [List.getElem?_take_of_lt hm]; exact e1, ?_, fa⟩
    rw [List.take_take, Nat.min_eq_left (Nat.le_of_lt hm)]; exact ro
  · have lt : ∀ {m x}, (st.take n)[m]? = some x → m < n := fun {m x} e => by
      have := (List.getElem?_eq_some_iff.mp e).1
      rw [List.length_take] at this; omega
    have h1 := lt e1
    have h2 := lt e2
    rw [List.getElem?_take_of_lt h1] at e1 i1
    rw [List.getElem?_take_of_lt h2] at e2 i2
    exact s.inj m k a x y e1 l1 e2 l2 i1 i2
theorem Sm.nolive (s : Sm P F ι st H) {b : Addr} {xs : List V} (hb : H b = some (.tup xs)) (hF : F b = none) : b ∉ ι := fun hm => by
  obtain ⟨n, e⟩ := List.getElem?_of_mem hm
  have hn : n < st.length := by rw [← s.len]; exact (List.getElem?_eq_some_iff.mp e).1
  obtain ⟨a, e1, ro, _⟩ := s.obj n st[n] (List.getElem?_eq_getElem hn)
  rw [e] at e1; cases e1
  cases q : st[n] with
  | lst rs => rw [q] at ro; obtain ⟨xs, z, _⟩ := ro; rw [hb] at z; cases z
  | dK rs => rw [q] at ro; obtain ⟨xs, z, _⟩ := ro; rw [hb] at z; cases z
  | dT rs => rw [q] at ro; obtain ⟨xs, z, _⟩ := ro; rw [hb] at z; cases z
  | lckL rs => rw [q] at ro; obtain ⟨xs, z | ⟨o, z⟩, _⟩ := ro <;> (rw [hb] at z; cases z)
  | lckK rs => rw [q] at ro; obtain ⟨od, xs, z, _⟩ := ro; rw [hb] at z; cases z
  | lckT rs => rw [q] at ro; obtain ⟨od, xs, z, _⟩ := ro; rw [hb] at z; cases z
  | dead =>
    rw [q] at ro
    obtain ⟨u, z⟩ := ro
    rw [hF] at z; cases z
/-- a tuple that stands is data -/
theorem Sm.tupData (s : Sm P F ι st H) {b : Addr} {xs : List V} (hb : H b = some (.tup xs)) : ∃ F', Up F ι H F' ι H ∧ Sm P F' ι st H ∧ F' b = some (.tup xs) := by
  cases q : F b with
  | none => exact ⟨_, Up.frz q (.inr (.inr ⟨_, rfl⟩)), s.frz hb q (s.nolive hb q), upd_same⟩
  | some u =>
    refine ⟨F, .refl, s, ?_⟩
    rcases s.le _ _ q with z | ⟨_, od, z⟩
    · rw [hb] at z; cases z; exact q
    · rw [hb] at z; cases z
end
end Mp
end
section
set_option Elab.async false
set_option linter.all false
set_option maxRecDepth 100000
set_option autoImplicit false
/-! Operations of the small machine, by values, each with its place in the hand layer. -/
namespace Mp
open PySem PySem.Spec PyProof.Rows L2

section
variable {P : Pm} {F F' : Hp} {ι ι' : List Addr} {H H' : Hp} {st st' : Sto} {E : XK}

/-! ### lists of data -/
theorem RDs.len : ∀ (ds : List D) (vs : List V), RDs F ds vs → ds.length = vs.length
  | [], _, e => by simp only [RDs] at e; rw [e]; rfl
  | d :: ds, _, e => by
    simp only [RDs] at e
    obtain ⟨v, vs, rfl, _, h⟩ := e
    simp [RDs.len ds vs h]
theorem RDs.rrs : ∀ (ds : List D) (vs : List V), RDs F ds vs → RRs P F ι (ds.map R.dat) vs
  | [], _, e => by simp only [RDs] at e; rw [e]; exact .nil
  | d :: ds, _, e => by
    simp only [RDs] at e
    obtain ⟨v, vs, rfl, h1, h⟩ := e
    exact .cons h1 (RDs.rrs ds vs h)
theorem RDs.of_rrs : ∀ (ds : List D) (vs : List V), RRs P F ι (ds.map R.dat) vs → RDs F ds vs
  | [], _, e => by cases e; simp only [RDs]
  | d :: ds, _, e => by
    cases e with
    | cons h1 h => simp only [RDs]; exact ⟨_, _, rfl, h1, RDs.of_rrs ds _ h⟩
theorem RDs.nil : RDs F [] [] := by simp only [RDs]
theorem RDs.cons {d : D} {v : V} {ds : List D} {vs : List V} (a : RD F d v) (b : RDs F ds vs) : RDs F (d :: ds) (v :: vs) := by
  simp only [RDs]; exact ⟨_, _, rfl, a, b⟩
theorem RDs.app : ∀ {ds es : List D} {vs ws : List V}, RDs F ds vs → RDs F es ws → RDs F (ds ++ es) (vs ++ ws)
  | [], es, _, ws, a, b => by simp only [RDs] at a; rw [a]; exact b
  | d :: ds, es, _, ws, a, b => by
    simp only [RDs] at a
    obtain ⟨v, vs, rfl, h1, h⟩ := a
    exact .cons h1 (RDs.app h b)
theorem RDs.take : ∀ {ds : List D} {vs : List V} (n : Nat), RDs F ds vs → RDs F (ds.take n) (vs.take n)
  | [], _, n, a => by simp only [RDs] at a; rw [a]; simpa using RDs.nil
  | d :: ds, _, 0, a => by simpa using RDs.nil
  | d :: ds, _, n + 1, a => by
    simp only [RDs] at a
    obtain ⟨v, vs, rfl, h1, h⟩ := a
    exact .cons h1 (RDs.take n h)
theorem RDs.drop : ∀ {ds : List D} {vs : List V} (n : Nat), RDs F ds vs → RDs F (ds.drop n) (vs.drop n)
  | [], _, n, a => by simp only [RDs] at a; rw [a]; simpa using RDs.nil
  | d :: ds, _, 0, a => a
  | d :: ds, _, n + 1, a => by
    simp only [RDs] at a
    obtain ⟨v, vs, rfl, h1, h⟩ := a
    exact RDs.drop n h
theorem RDs.rev : ∀ {ds : List D} {vs : List V}, RDs F ds vs → RDs F ds.reverse vs.reverse
  | [], _, a => by simp only [RDs] at a; rw [a]; exact RDs.nil
  | d :: ds, _, a => by
    simp only [RDs] at a
    obtain ⟨v, vs, rfl, h1, h⟩ := a
    rw [List.reverse_cons, List.reverse_cons]
    exact RDs.app (RDs.rev h) (.cons h1 .nil)
theorem RDs.get : ∀ {ds : List D} {vs : List V} {i : Nat} {d : D}, RDs F ds vs → ds[i]? = some d → ∃ v, vs[i]? = some v ∧ RD F d v
  | [], _, _, _, _, e => by simp at e
  | d :: ds, _, 0, _, a, e => by
    simp only [RDs] at a
    obtain ⟨v, vs, rfl, h1, h⟩ := a
    simp at e; subst e
    exact ⟨v, rfl, h1⟩
  | d :: ds, _, i + 1, _, a, e => by
    simp only [RDs] at a
    obtain ⟨v, vs, rfl, h1, h⟩ := a
    obtain ⟨w, e2, r⟩ := RDs.get (i := i) h (by simpa using e)
    exact ⟨w, by simpa using e2, r⟩
theorem RDs.rep {ds : List D} {vs : List V} (a : RDs F ds vs) : ∀ n : Nat, RDs F (List.replicate n ds).flatten (List.replicate n vs).flatten
  | 0 => by simpa using RDs.nil
  | n + 1 => by
    rw [List.replicate_succ, List.replicate_succ, List.flatten_cons, List.flatten_cons]
    exact a.app (RDs.rep a n)
theorem RRs.len {rs : List R} {vs : List V} (h : RRs P F ι rs vs) : rs.length = vs.length := Paired.length h
theorem RRs.get : ∀ {rs : List R} {vs : List V} {i : Nat} {r : R}, RRs P F ι rs vs → rs[i]? = some r → ∃ v, vs[i]? = some v ∧ RR P F ι r v
  | _, _, _, _, .nil, e => by simp at e
  | _, _, 0, _, .cons a _, e => by simp at e; subst e; exact ⟨_, rfl, a⟩
  | _, _, i + 1, _, .cons _ b, e => by
    obtain ⟨v, e2, r⟩ := RRs.get (i := i) b (by simpa using e)
    exact ⟨v, by simpa using e2, r⟩
theorem RRs.app {rs qs : List R} {vs ws : List V} (a : RRs P F ι rs vs) (b : RRs P F ι qs ws) : RRs P F ι (rs ++ qs) (vs ++ ws) := by
  induction a with
  | nil => exact b
  | cons h _ ih => exact .cons h ih
theorem RRs.take : ∀ {rs : List R} {vs : List V} (n : Nat), RRs P F ι rs vs → RRs P F ι (rs.take n) (vs.take n)
  | _, _, 0, _ => .nil
  | _, _, _ + 1, .nil => .nil
  | _, _, n + 1, .cons a b => .cons a (RRs.take n b)
theorem RRs.drop : ∀ {rs : List R} {vs : List V} (n : Nat), RRs P F ι rs vs → RRs P F ι (rs.drop n) (vs.drop n)
  | _, _, 0, a => a
  | _, _, _ + 1, .nil => .nil
  | _, _, n + 1, .cons a b => RRs.drop n b
theorem RRs.erase : ∀ {rs : List R} {vs : List V} (n : Nat), RRs P F ι rs vs → RRs P F ι (rs.eraseIdx n) (vs.eraseIdx n)
  | _, _, _, .nil => .nil
  | _, _, 0, .cons a b => b
  | _, _, n + 1, .cons a b => .cons a (RRs.erase n b)

/-- every item is data -/
def datsOf : List R → Option (List D)
  | [] => some []
  | .dat d :: rs => (datsOf rs).map (d :: ·)
  | _ :: _ => none
theorem datsOf_map (ds : List D) : datsOf (ds.map R.dat) = some ds := by
  induction ds with
  | nil => rfl
  | cons d ds ih => simp [datsOf, ih]
theorem datsOf_eq : ∀ {rs : List R} {ds : List D}, datsOf rs = some ds → rs = ds.map R.dat
  | [], _, e => by simp [datsOf] at e; subst e; rfl
  | .dat d :: rs, ds, e => by
    simp only [datsOf, Option.map_eq_some_iff] at e
    obtain ⟨r, e1, rfl⟩ := e
    rw [datsOf_eq e1]; rfl
  | .loc _ :: _, _, e => by simp [datsOf] at e
  | .fn _ :: _, _, e => by simp [datsOf] at e
  | .scr _ :: _, _, e => by simp [datsOf] at e

/-! ### reading a list, a tuple -/
/-- the items of a list -/
def lstOf (st : Sto) : R → Option (List R)
  | .dat (.list ds) => some (ds.map R.dat)
  | .loc n => match st[n]? with
    | some (.lst rs) => some rs
    | some (.lckL rs) => some rs
    | _ => none
  | _ => none
def tupOf : R → Option (List D)
  | .dat (.tuple ds) => some ds
  | _ => none
theorem Sm.loc (s : Sm P F ι st H) {n : Nat} {o : MO} {v : V} (e : st[n]? = some o) (r : RR P F ι (.loc n) v) : ∃ a, v = .ref a ∧ ι[n]? = some a ∧ RO P F (ι.take n) H a o := by
  obtain ⟨a, h1, rfl⟩ := r
  obtain ⟨b, h2, ro, _⟩ := s.obj n o e
  rw [h1] at h2; cases h2
  exact ⟨a, rfl, h1, ro⟩
theorem RRs.untake {rs : List R} {vs : List V} {n : Nat} (h : RRs P F (ι.take n) rs vs) : RRs P F ι rs vs := h.mono (fun _ _ e => e) (List.take_prefix n ι)
theorem Sm.lstF (s : Sm P F ι st H) {a : Addr} {xs : List V} (e : F a = some (.lst xs)) : H a = some (.lst xs) := by
  rcases s.le _ _ e with h | ⟨i, _⟩
  · exact h
  · exact i.elim
/-- a list is there -/
theorem Sm.lstR (s : Sm P F ι st H) {r : R} {v : V} {rs : List R} (e : lstOf st r = some rs) (q : RR P F ι r v) : ∃ a xs, v = .ref a ∧ Rd H a (.lst xs) ∧ RRs P F ι rs xs := by
  unfold lstOf at e
  split at e
  · rename_i ds
    cases e
    simp only [RR, RD] at q
    obtain ⟨a, xs, rfl, e2, h⟩ := q
    exact ⟨a, xs, rfl, .inl (s.lstF e2), RDs.rrs _ _ h⟩
  · rename_i n
    split at e
    · rename_i q' h1
      cases e
      obtain ⟨a, rfl, _, xs, e3, h⟩ := s.loc h1 q
      exact ⟨a, xs, rfl, .inl e3, h.untake⟩
    · rename_i q' h1
      cases e
      obtain ⟨a, rfl, _, xs, e3, h⟩ := s.loc h1 q
      exact ⟨a, xs, rfl, e3, h.untake⟩
    · cases e
  · cases e
/-- a list that is not the walked one -/
def lstX (st : Sto) : R → Option (List R)
  | .dat (.list ds) => some (ds.map R.dat)
  | .loc n => match st[n]? with
    | some (.lst rs) => some rs
    | _ => none
  | _ => none
theorem Sm.lstX (s : Sm P F ι st H) {r : R} {v : V} {rs : List R} (e : lstX st r = some rs) (q : RR P F ι r v) : ∃ a xs, v = .ref a ∧ H a = some (.lst xs) ∧ RRs P F ι rs xs := by
  unfold Mp.lstX at e
  split at e
  · rename_i ds
    cases e
    simp only [RR, RD] at q
    obtain ⟨a, xs, rfl, e2, h⟩ := q
    exact ⟨a, xs, rfl, s.lstF e2, RDs.rrs _ _ h⟩
  · rename_i n
    split at e
    · rename_i q' h1
      cases e
      obtain ⟨a, rfl, _, xs, e3, h⟩ := s.loc h1 q
      exact ⟨a, xs, rfl, e3, h.untake⟩
    · cases e
  · cases e
theorem Holds.tup {a : Addr} {xs : List V} (h : Holds H a (.tup xs)) : H a = some (.tup xs) := by
  rcases h with h | ⟨i, _⟩
  · exact h
  · exact i.elim
theorem Holds.rd {a : Addr} {u : HO} (h : Holds H a u) : Rd H a u := by
  rcases h with h | ⟨_, od, h⟩
  · exact .inl h
  · exact .inr ⟨od, h⟩
theorem Sm.tupF (s : Sm P F ι st H) {a : Addr} {xs : List V} (q : F a = some (.tup xs)) : H a = some (.tup xs) := (s.le _ _ q).tup
theorem Sm.tupR (s : Sm P F ι st H) {r : R} {v : V} {ds : List D} (e : tupOf r = some ds) (q : RR P F ι r v) : ∃ a xs, v = .ref a ∧ H a = some (.tup xs) ∧ RDs F ds xs := by
  unfold tupOf at e
  split at e
  · cases e
    simp only [RR, RD] at q
    obtain ⟨a, xs, rfl, e2, h⟩ := q
    exact ⟨a, xs, rfl, s.tupF e2, h⟩
  · cases e

/-! ### what is made -/
abbrev Ret (P : Pm) (Q : VK) : R → Sto → Hp → List Addr → Hp → Prop := fun r _ F' ι' H' => ∀ v, RR P F' ι' r v → Q v H'
theorem Post.val {r : R} {v : V} {Q : VK} (h : Post P E F ι H (.ok r st) (Ret P Q)) (s : Sm P F ι st H) (q : RR P F ι r v) : Q v H := h.now s v q
theorem Post.mkLst {ds : List D} {vs : List V} {p : Addr} {Q : VK} (h : Post P E F ι H (.ok (.dat (.list ds)) st) (Ret P Q)) (s : Sm P F ι st H) (hp : H p = none) (q : RDs F ds vs) : Q (.ref p) (upd H p (.lst vs)) := by
  refine h _ _ _ (Up.newF s hp) (s.newF hp) (.ref p) ?_
  simp only [RR, RD]
  exact ⟨p, vs, rfl, upd_same, RDs.mono (le_upd (s.fnone hp)) _ _ q⟩
theorem Post.mkTup {ds : List D} {vs : List V} {p : Addr} {Q : VK} (h : Post P E F ι H (.ok (.dat (.tuple ds)) st) (Ret P Q)) (s : Sm P F ι st H) (hp : H p = none) (q : RDs F ds vs) : Q (.ref p) (upd H p (.tup vs)) := by
  refine h _ _ _ (Up.newF s hp) (s.newF hp) (.ref p) ?_
  simp only [RR, RD]
  exact ⟨p, vs, rfl, upd_same, RDs.mono (le_upd (s.fnone hp)) _ _ q⟩
theorem Post.mkLoc {rs : List R} {vs : List V} {p : Addr} {Q : VK} (h : Post P E F ι H (.ok (.loc st.length) (st ++ [.lst rs])) (Ret P Q)) (s : Sm P F ι st H) (hp : H p = none) (q : RRs P F ι rs vs) : Q (.ref p) (upd H p (.lst vs)) := by
  refine h _ _ _ (Up.push s hp) (s.push hp ⟨vs, upd_same, q⟩ trivial) (.ref p) ⟨p, ?_, rfl⟩
  rw [← s.len]; simp
/-- a list is made, data or live -/
def mkL (live : Bool) (rs : List R) (st : Sto) : Out R := if live then .ok (.loc st.length) (st ++ [.lst rs]) else match datsOf rs with
  | some ds => .ok (.dat (.list ds)) st
  | none => .stk
theorem Post.mkL {live : Bool} {rs : List R} {vs : List V} {p : Addr} {Q : VK} (h : Post P E F ι H (mkL live rs st) (Ret P Q)) (s : Sm P F ι st H) (hp : H p = none) (q : RRs P F ι rs vs) : Q (.ref p) (upd H p (.lst vs)) := by
  unfold Mp.mkL at h
  split at h
  · exact Post.mkLoc h s hp q
  · split at h
    · rename_i ds e
      rw [datsOf_eq e] at q
      exact Post.mkLst h s hp (RDs.of_rrs _ _ q)
    · exact h.elim
end

/-! ### two-place operations -/
abbrev Sem2 := R → R → Sto → Out R
def rSem (P : Pm) (sem : Sem2) : R2 := fun vx vy H Q => ∃ F ι st x y E, Sm P F ι st H ∧ RR P F ι x vx ∧ RR P F ι y vy ∧ Post P E F ι H (sem x y st) (Ret P Q)
abbrev Op2 (X : Cx) (P : Pm) (f : Value → Value → Sem Value) (sem : Sem2) : Prop := OpR X f (rSem P sem)

def semAdd (live : Bool) : Sem2 := fun x y st => match x, y with
  | .dat (.int i), .dat (.int j) => .ok (.dat (.int (i + j))) st
  | .dat (.str a), .dat (.str b) => if a.length + b.length ≤ sizeLine then .ok (.dat (.str (a ++ b))) st else .stk
  | .dat (.tuple a), .dat (.tuple b) => if a.length + b.length ≤ sizeLine then .ok (.dat (.tuple (a ++ b))) st else .stk
  | _, _ => match lstX st x, lstX st y with
    | some a, some b => if a.length + b.length ≤ sizeLine then mkL live (a ++ b) st else .stk
    | _, _ => .stk
def semSub : Sem2 := fun x y st => match x, y with
  | .dat (.int i), .dat (.int j) => .ok (.dat (.int (i - j))) st
  | _, _ => .stk
instance (i j : Int) : Decidable (CMul i j) := by unfold CMul; infer_instance
instance (i j : Int) : Decidable (CDiv i j) := by unfold CDiv; infer_instance
def semMul (live : Bool) : Sem2 := fun x y st => match x, y with
  | .dat (.int i), .dat (.int j) => if CMul i j then .ok (.dat (.int (i * j))) st else .stk
  | .dat (.str z), .dat (.int k) => if 1 ≤ k ∧ k < 2 ^ 32 ∧ z.length * k.toNat ≤ sizeLine then .ok (.dat (.str (PySem.Txt.mul z k))) st else .stk
  | _, .dat (.int k) => match lstX st x with
    | some a => if -(2 ^ 63) ≤ k ∧ k < 2 ^ 63 ∧ a.length * k.toNat ≤ sizeLine then mkL live (List.replicate k.toNat a).flatten st else .stk
    | none => .stk
  | _, _ => .stk
def semDiv : Sem2 := fun x y st => match x, y with
  | .dat (.int i), .dat (.int j) => if CDiv i j then .ok (.dat (.int (i / j))) st else .stk
  | _, _ => .stk
def semMod : Sem2 := fun x y st => match x, y with
  | .dat (.int i), .dat (.int j) => if 0 < j then .ok (.dat (.int (i % j))) st else .stk
  | _, _ => .stk

section
variable {X : Cx} {P : Pm}
theorem Sm.rrs_rep {F : Hp} {ι : List Addr} {rs : List R} {vs : List V} (a : RRs P F ι rs vs) : ∀ n : Nat, RRs P F ι (List.replicate n rs).flatten (List.replicate n vs).flatten
  | 0 => by simp; exact .nil
  | n + 1 => by
    rw [List.replicate_succ, List.replicate_succ, List.flatten_cons, List.flatten_cons]
    exact a.app (Sm.rrs_rep a n)
theorem o_sub : Op2 X P (binaryOp .Sub) semSub := by
  rintro pins s σ H vx vy v u Q I rx ry ⟨F, ι, st, x, y, E, S, hx, hy, h⟩
  unfold semSub at h
  split at h
  · simp only [RR, RD] at hx hy
    subst hx hy
    exact op_sub pins s σ H _ _ v u Q I rx ry ⟨_, _, rfl, rfl, h.val S (by simp only [RR, RD])⟩
  · exact h.elim
theorem o_div : Op2 X P (binaryOp .FloorDiv) semDiv := by
  rintro pins s σ H vx vy v u Q I rx ry ⟨F, ι, st, x, y, E, S, hx, hy, h⟩
  unfold semDiv at h
  split at h
  · simp only [RR, RD] at hx hy
    subst hx hy
    split at h
    · rename_i c
      exact op_fdiv pins s σ H _ _ v u Q I rx ry ⟨_, _, rfl, rfl, c, h.val S (by simp only [RR, RD])⟩
    · exact h.elim
  · exact h.elim
theorem o_mod : Op2 X P (binaryOp .Mod) semMod := by
  rintro pins s σ H vx vy v u Q I rx ry ⟨F, ι, st, x, y, E, S, hx, hy, h⟩
  unfold semMod at h
  split at h
  · simp only [RR, RD] at hx hy
    subst hx hy
    split at h
    · rename_i c
      exact op_mod pins s σ H _ _ v u Q I rx ry ⟨_, _, rfl, rfl, c, h.val S (by simp only [RR, RD])⟩
    · exact h.elim
  · exact h.elim
theorem o_add (live : Bool) : Op2 X P (binaryOp .Add) (semAdd live) := by
  rintro pins s σ H vx vy v u Q I rx ry ⟨F, ι, st, x, y, E, S, hx, hy, h⟩
  unfold semAdd at h
  split at h
  · simp only [RR, RD] at hx hy
    subst hx hy
    exact op_add pins s σ H _ _ v u Q I rx ry ⟨_, _, rfl, rfl, h.val S (by simp only [RR, RD])⟩
  · simp only [RR, RD] at hx hy
    subst hx hy
    split at h
    · rename_i c
      exact op_add_str pins s σ H _ _ v u Q I rx ry ⟨_, _, rfl, rfl, c, h.val S (by simp only [RR, RD])⟩
    · exact h.elim
  · rename_i ds es
    split at h
    · rename_i c
      obtain ⟨a, xs, rfl, q1, d1⟩ := S.tupR rfl hx
      obtain ⟨b, ys, rfl, q2, d2⟩ := S.tupR rfl hy
      have l1 := RDs.len _ _ d1
      have l2 := RDs.len _ _ d2
      refine op_catA pins s σ H _ _ v u Q I rx ry ⟨a, b, xs, ys, rfl, rfl, SqT.of q1, SqT.of q2, by omega, fun z => ?_, fun z1 z2 => ?_, fun _ _ p hp => Post.mkTup h S hp (d1.app d2)⟩
      · subst z
        have e : ds = [] := List.eq_nil_of_length_eq_zero l1
        subst e
        exact h.val S hy
      · subst z2
        have e : es = [] := List.eq_nil_of_length_eq_zero l2
        subst e
        rw [List.append_nil] at h
        exact h.val S hx
    · exact h.elim
  · split at h
    · rename_i a b e1 e2
      split at h
      · rename_i c
        obtain ⟨p, xs, rfl, q1, d1⟩ := S.lstX e1 hx
        obtain ⟨q, ys, rfl, q2, d2⟩ := S.lstX e2 hy
        have l1 := d1.len
        have l2 := d2.len
        exact op_cat pins s σ H _ _ v u Q I rx ry ⟨p, q, xs, ys, rfl, rfl, q1, q2, by omega, fun z hz => Post.mkL h S hz (d1.app d2)⟩
      · exact h.elim
    · exact h.elim
theorem mulOk_of {z : Str} {k : Int} (c : 1 ≤ k ∧ k < 2 ^ 32 ∧ z.length * k.toNat ≤ sizeLine) : PySem.MulOk z k := by
  obtain ⟨c1, c2, c3⟩ := c
  have hs : sizeLine = 16777216 := sizeLine_eq
  refine ⟨?_, fun _ _ hq => ?_, fun _ _ => ?_⟩
  · rw [decide_eq_false (by omega), decide_eq_false (by omega)]; rfl
  · have h1 : (2 ^ 63 - 1 : Int) / k ≥ 2 ^ 30 := by
      rw [ge_iff_le, Int.le_ediv_iff_mul_le (by omega)]
      have : (2 ^ 30 : Int) * k ≤ 2 ^ 30 * 2 ^ 32 := Int.mul_le_mul_of_nonneg_left (by omega) (by decide)
      omega
    have h2 : z.length ≤ 16777216 := by
      have : z.length * 1 ≤ z.length * k.toNat := Nat.mul_le_mul_left _ (by omega)
      omega
    omega
  · show decide (z.length * k.toNat > sizeLine) = false
    exact decide_eq_false (by omega)
theorem o_mul (live : Bool) : Op2 X P (binaryOp .Mult) (semMul live) := by
  rintro pins s σ H vx vy v u Q I rx ry ⟨F, ι, st, x, y, E, S, hx, hy, h⟩
  unfold semMul at h
  split at h
  · simp only [RR, RD] at hx hy
    subst hx hy
    split at h
    · rename_i c
      exact op_mul pins s σ H _ _ v u Q I rx ry ⟨_, _, rfl, rfl, c, h.val S (by simp only [RR, RD])⟩
    · exact h.elim
  · rename_i z k
    simp only [RR, RD] at hx hy
    subst hx hy
    split at h
    · rename_i c
      obtain ⟨t, rfl⟩ := rx
      obtain ⟨t', rfl⟩ := ry
      exact PySem.SB.mul (mulOk_of c) fun t'' tk => ⟨.str (PySem.Txt.mul z k), H, I.tok tk, ⟨_, rfl⟩, h.val S (by simp only [RR, RD])⟩
    · exact h.elim
  · rename_i k _ _
    split at h
    · rename_i a e
      split at h
      · rename_i c
        obtain ⟨p, xs, rfl, q1, d1⟩ := S.lstX e hx
        simp only [RR, RD] at hy
        subst hy
        have l1 := d1.len
        exact op_rep pins s σ H _ _ v u Q I rx ry ⟨p, k, xs, rfl, rfl, q1, c.1, c.2.1, by rw [← l1]; exact c.2.2, fun z hz => Post.mkL h S hz (Sm.rrs_rep d1 _)⟩
      · exact h.elim
    · exact h.elim
  · exact h.elim
end
end Mp
end
section
set_option Elab.async false
set_option linter.all false
set_option maxRecDepth 100000
set_option autoImplicit false
/-! Data as the library reads it: ==, <, <=, in, repr, sorted. -/
namespace Mp
open PySem PySem.Spec PyProof.Rows L2

/-! ### a value as data -/
def datF : Nat → Sto → R → Option D
  | 0, _, .dat d => some d
  | _ + 1, _, .dat d => some d
  | _, _, .fn _ => none
  | _, _, .scr _ => none
  | 0, _, .loc _ => none
  | k + 1, st, .loc n => match st[n]? with
    | some (.lst rs) => (rs.mapM (datF k st)).map PyData.list
    | some (.lckL rs) => (rs.mapM (datF k st)).map PyData.list
    | _ => none
abbrev datOf : Sto → R → Option D := datF 2
@[simp] theorem datF_dat (k : Nat) (st : Sto) (d : D) : datF k st (.dat d) = some d := by cases k <;> rfl
mutual
def okD : D → Bool
  | .none | .bool _ | .int _ | .str _ => true
  | .list ds => okDs ds
  | .tuple ds => okDs ds
  | .dict kvs => kvs.isEmpty
def okDs : List D → Bool
  | [] => true
  | d :: ds => okD d && okDs ds
end
mutual
theorem okD_of_lay : ∀ d : D, d.canLay0 = true → okD d = true
  | .none, _ => by simp [okD]
  | .bool _, _ => by simp [okD]
  | .int _, _ => by simp [okD]
  | .str _, _ => by simp [okD]
  | .list ds, h => by simp only [okD]; exact okDs_of_lay ds (by simpa [PyData.canLay0] using h)
  | .tuple ds, h => by simp only [okD]; exact okDs_of_lay ds (by simpa [PyData.canLay0] using h)
  | .dict _, h => by simp [PyData.canLay0] at h
theorem okDs_of_lay : ∀ ds : List D, PyData.canLayAll0 ds = true → okDs ds = true
  | [], _ => by simp [okDs]
  | d :: ds, h => by
    have h' : d.canLay0 = true ∧ PyData.canLayAll0 ds = true := by simpa [PyData.canLayAll0] using h
    simp only [okDs, okD_of_lay d h'.1, okDs_of_lay ds h'.2, Bool.and_self]
end

section
variable {X : Cx} {pins : List (Addr × Obj)} {σ : L2.St} {H : Hp} {s : Shared} {P : Pm} {F : Hp} {ι : List Addr} {st : Sto}
theorem list_notSys (hs : H sysModules = none) {a : Addr} {u : HO} (h : H a = some u) : a ≠ sysModules := by
  rintro rfl; rw [hs] at h; cases h
mutual
theorem RD.reads (I : Inv X pins σ H s) (hs : H sysModules = none) (le : ∀ a u, F a = some u → Holds H a u) : ∀ (d : D) (v : V) (u : Value), okD d = true → RD F d v → RelV v u → ∃ as, Reads s.heap u d as ∧ sysModules ∉ as
  | .none, v, u, _, q, r => by
    simp only [RD] at q; subst q; cases r
    exact ⟨_, Reads.none, by simp⟩
  | .bool b, v, u, _, q, r => by
    simp only [RD] at q; subst q; cases r
    exact ⟨_, Reads.bool b, by simp⟩
  | .int i, v, u, _, q, r => by
    simp only [RD] at q; subst q; obtain ⟨t, rfl⟩ := r
    exact ⟨_, Reads.int i t, by simp⟩
  | .str x, v, u, _, q, r => by
    simp only [RD] at q; subst q; obtain ⟨t, rfl⟩ := r
    exact ⟨_, Reads.str x t, by simp⟩
  | .list ds, v, u, o, q, r => by
    simp only [RD] at q
    obtain ⟨a, xs, rfl, e, h⟩ := q
    cases r
    have e' : H a = some (.lst xs) := by
      rcases le _ _ e with z | ⟨i, _⟩
      · exact z
      · exact i.elim
    obtain ⟨its, rv, ⟨ob, n, ho, hc, _, hd⟩, _⟩ := I.list (SqL.of e')
    obtain ⟨as, hr, hn⟩ := RDs.reads I hs le ds xs its (by simpa [okD] using o) h rv
    refine ⟨_, Reads.list ho hc hd hr, ?_⟩
    simp only [List.mem_cons, not_or]
    exact ⟨(list_notSys hs e').symm, hn⟩
  | .tuple ds, v, u, o, q, r => by
    simp only [RD] at q
    obtain ⟨a, xs, rfl, e, h⟩ := q
    cases r
    have e' : SqT X.K H a xs := SqT.of (le _ _ e).tup
    obtain ⟨its, rv, ⟨ob, ho, hc, n, hd⟩, _⟩ := I.tuple e'
    obtain ⟨as, hr, hn⟩ := RDs.reads I hs le ds xs its (by simpa [okD] using o) h rv
    exact ⟨_, Reads.tuple ho hc hd hr, hn⟩
  | .dict kvs, v, u, o, q, r => by
    have hkv : kvs = [] := by simpa [okD] using o
    subst hkv
    simp only [RD] at q
    obtain ⟨a, es, rfl, e, z⟩ := q
    cases r
    simp only [RDt] at z
    subst z
    obtain ⟨_, hsm, xs, kv, ob, es, ep, ho, hx, hd, hl, _⟩ := (le _ _ e).rd.ok I.hok
    cases kv
    have he : es = #[] := by simpa using hl
    rw [he] at hd
    refine ⟨_, Reads.dict (as := []) (bs := []) ho hx.1 hd .nil .nil, ?_⟩
    simp at hsm ⊢
    exact fun z => hsm z.symm
theorem RDs.reads (I : Inv X pins σ H s) (hs : H sysModules = none) (le : ∀ a u, F a = some u → Holds H a u) : ∀ (ds : List D) (vs : List V) (us : List Value), okDs ds = true → RDs F ds vs → Vals vs us → ∃ as, ReadsAll s.heap us ds as ∧ sysModules ∉ as
  | [], vs, us, _, q, r => by
    simp only [RDs] at q; subst q; cases r
    exact ⟨_, .nil, by simp⟩
  | d :: ds, vs, us, o, q, r => by
    simp only [RDs] at q
    obtain ⟨v, vs, rfl, h1, h⟩ := q
    have o' : okD d = true ∧ okDs ds = true := by simpa [okDs] using o
    cases r with
    | cons r1 r2 =>
      obtain ⟨as, q1, n1⟩ := RD.reads I hs le d v _ o'.1 h1 r1
      obtain ⟨bs, q2, n2⟩ := RDs.reads I hs le ds vs _ o'.2 h r2
      exact ⟨_, .cons q1 q2, by simp only [List.mem_append, not_or]; exact ⟨n1, n2⟩⟩
end
theorem okDs_mem : ∀ {ds : List D}, okDs ds = true → ∀ d ∈ ds, okD d = true
  | [], _, _, h => by cases h
  | d :: ds, o, x, h => by
    have o' : okD d = true ∧ okDs ds = true := by simpa [okDs] using o
    rcases List.mem_cons.mp h with rfl | h
    · exact o'.1
    · exact okDs_mem o'.2 x h
/-- what a live list reads as -/
theorem Sm.reads (S : Sm P F ι st H) (I : Inv X pins σ H s) (hs : H sysModules = none) : ∀ (k : Nat) (r : R) (v : V) (u : Value) (d : D), RR P F ι r v → datF k st r = some d → okD d = true → RelV v u → ∃ as, Reads s.heap u d as ∧ sysModules ∉ as := by
  intro k
  induction k with
  | zero =>
    intro r v u d q e o rv
    cases r with
    | dat x => simp [datF] at e; subst e; exact RD.reads I hs S.le _ v u o q rv
    | loc n => simp [datF] at e
    | fn n => simp [datF] at e
    | scr n => simp [datF] at e
  | succ k ih =>
    intro r v u d q e o rv
    cases r with
    | dat x => simp [datF] at e; subst e; exact RD.reads I hs S.le _ v u o q rv
    | fn n => simp [datF] at e
    | scr n => simp [datF] at e
    | loc n =>
      have each : ∀ (rs : List R) (vs : List V) (us : List Value) (ds : List D), RRs P F ι rs vs → rs.mapM (datF k st) = some ds → okDs ds = true → Vals vs us → ∃ as, ReadsAll s.heap us ds as ∧ sysModules ∉ as := by
        intro rs
        induction rs with
        | nil =>
          intro vs us ds a b _ c
          cases a; cases c
          simp at b; subst b
          exact ⟨_, .nil, by simp⟩
        | cons r rs ih2 =>
          intro vs us ds a b oo c
          cases a with
          | cons a1 a2 =>
            cases c with
            | cons c1 c2 =>
              rw [List.mapM_cons] at b
              obtain ⟨x, hx, b⟩ := Option.bind_eq_some_iff.mp b
              obtain ⟨y, hy, b⟩ := Option.bind_eq_some_iff.mp b
              cases b
              have o' : okD x = true ∧ okDs y = true := by simpa [okDs] using oo
              obtain ⟨as, q1, n1⟩ := ih r _ _ x a1 hx o'.1 c1
              obtain ⟨bs, q2, n2⟩ := ih2 _ _ y a2 hy o'.2 c2
              exact ⟨_, .cons q1 q2, by simp only [List.mem_append, not_or]; exact ⟨n1, n2⟩⟩
      have fin : ∀ rs, lstOf st (.loc n) = some rs → (rs.mapM (datF k st)).map PyData.list = some d → ∃ as, Reads s.heap u d as ∧ sysModules ∉ as := fun rs e1 e2 => by
        obtain ⟨ds, hd, rfl⟩ := Option.map_eq_some_iff.mp e2
        obtain ⟨a, xs, rfl, rd, hr⟩ := S.lstR e1 q
        cases rv
        obtain ⟨its, rv, ⟨ob, m, ho, hc, _, hdt⟩, _⟩ := I.list (.inl rd)
        obtain ⟨as, hra, hn⟩ := each rs xs its ds hr hd (by simpa [okD] using o) rv
        refine ⟨_, Reads.list ho hc hdt hra, ?_⟩
        simp only [List.mem_cons, not_or]
        refine ⟨?_, hn⟩
        rcases rd with z | ⟨ob, z⟩
        · exact (list_notSys hs z).symm
        · exact (list_notSys hs z).symm
      simp only [datF] at e
      split at e
      · rename_i rs h1; exact fin rs (by simp [lstOf, h1]) e
      · rename_i rs h1; exact fin rs (by simp [lstOf, h1]) e
      · cases e
end
end Mp
end
section
set_option Elab.async false
set_option linter.all false
set_option maxRecDepth 100000
set_option autoImplicit false
/-! Comparisons. -/
namespace Mp
open PySem PySem.Spec PyProof.Rows L2

abbrev SemB := R → R → Sto → Option Bool
def rSemB (P : Pm) (sem : SemB) : R2 := fun vx vy H Q => ∃ F ι st x y b, Sm P F ι st H ∧ RR P F ι x vx ∧ RR P F ι y vy ∧ sem x y st = some b ∧ Q (.bl b) H
abbrev OpB (X : Cx) (P : Pm) (f : Value → Value → Sem Value) (sem : SemB) : Prop := OpR X f (rSemB P sem)

def semEqD : SemB := fun x y st => match datOf st x, datOf st y with
  | some d, some e => if SeqAt.shaped d && SeqAt.shaped e then some (PyData.eqv d e) else none
  | _, _ => none
def semEq : SemB := fun x y st => match x, y with
  | .dat (.str a), .dat (.str b) => some (decide (a = b))
  | x, y => semEqD x y st
def semNe : SemB := fun x y st => (semEq x y st).map (!·)
def ltD (d e : D) : Option Bool := if okD d && okD e && PySem.W.alike d e then (match d with | .none => none | _ => if d.depth ≤ 64 then some (PySem.W.dataLt d e) else none) else none
mutual
/-- numbers, and tuples of such -/
def numD : D → Bool
  | .int _ => true
  | .tuple ds => numDs ds
  | _ => false
def numDs : List D → Bool
  | [] => true
  | d :: ds => numD d && numDs ds
end
def leD (d e : D) : Option Bool := if okD e && numD d && PySem.W.alike d e && decide (d.depth ≤ 64) then some (PySem.W.dataLt d e || PyData.eqv d e) else none
def semLt : SemB := fun x y _ => match x, y with
  | .dat d, .dat e => ltD d e
  | _, _ => none
def semGt : SemB := fun x y _ => match x, y with
  | .dat (.int i), .dat (.int j) => some (decide (j < i))
  | _, _ => none
def semGe : SemB := fun x y _ => match x, y with
  | .dat (.int i), .dat (.int j) => some (decide (j ≤ i))
  | _, _ => none
def semLe : SemB := fun x y _ => match x, y with
  | .dat d, .dat e => leD d e
  | _, _ => none
/-- is one written sign or text in another -/
def strIn (x y : Str) : Bool := !(Builtin.Str.occurrences y x 0 y.length 1).isEmpty
def keyAt {κ : Type} [DecidableEq κ] (kvs : List (κ × R)) (k : κ) : Option R := (kvs.find? fun kv => decide (kv.1 = k)).map (·.2)
def datAtT (kvs : List (D × D)) (k : List Key) : Option D := (kvs.find? fun kv => decide (tkeyOf kv.1 = some k)).map (·.2)
def dLook (o : MO) (d : D) : Option (Option R) := match o with
  | .dK kvs => (keyOf d).map fun k => keyAt kvs k
  | .lckK kvs => (keyOf d).map fun k => keyAt kvs k
  | .dT kvs => (tkeyOf d).map fun k => keyAt kvs k
  | .lckT kvs => (tkeyOf d).map fun k => keyAt kvs k
  | _ => none
/-- what a dict holds at a key; none: no such dict or key -/
def dGet (st : Sto) (r : R) (y : R) : Option (Option R) := match r, y with
  | .loc n, .dat d => (st[n]?).bind fun o => dLook o d
  | .dat (.dict kvs), .dat d => (tkeyOf d).map fun k => (datAtT kvs k).map R.dat
  | _, _ => none
def semIn : SemB := fun x y st => match x, y with
  | .dat (.str a), .dat (.str b) => some (strIn a b)
  | _, _ => match dGet st y x with
    | some o => some o.isSome
    | none => match datOf st x, datOf st y with
      | some d, some (.list es) => if SeqAt.shaped d && SeqAt.shaped (.list es) then some (es.any fun z => PyData.eqv z d) else none
      | some d, some (.tuple es) => if SeqAt.shaped d && SeqAt.shaped (.tuple es) then some (es.any fun z => PyData.eqv z d) else none
      | _, _ => none
def semNotIn : SemB := fun x y st => (semIn x y st).map (!·)

/-- the interpreter's own table of modules stands -/
def Sys (X : Cx) : Prop := ∃ o, X.base.get? sysModules = some o
theorem Sys.none {X : Cx} (h : Sys X) {pins : List (Addr × Obj)} {σ : L2.St} {H : Hp} {s : Shared} (I : Inv X pins σ H s) : H sysModules = none := let ⟨o, e⟩ := h; (I.bs _ o e).2
section
variable {X : Cx} {P : Pm}
theorem shaped_of {d e : D} (h : (SeqAt.shaped d && SeqAt.shaped e) = true) : SeqAt.shaped d = true ∧ SeqAt.shaped e = true := by simpa using h
theorem shaped_ok {d : D} (h : SeqAt.shaped d = true) : okD d = true := okD_of_lay d (SeqAt.canLay_of_shaped h)
theorem o_eq (hb : Sys X) (hu : X.A.units + 64 < cLine) : OpB X P (compareOp .Eq) semEq := by
  rintro pins s σ H vx vy v u Q I rx ry ⟨F, ι, st, x, y, b, S, hx, hy, h, q⟩
  have hs := hb.none I
  have main : semEqD x y st = some b → wpAny (model X.prog X.w) X.A (compareOp .Eq v u) (EP X pins σ Q) X.xe s := fun h => by
    unfold semEqD at h
    split at h
    · rename_i d e e1 e2
      split at h
      · rename_i c
        cases h
        obtain ⟨as, r1, _⟩ := S.reads I hs 2 x vx v d hx e1 (shaped_ok (shaped_of c).1) rx
        obtain ⟨bs, r2, _⟩ := S.reads I hs 2 y vy u e hy e2 (shaped_ok (shaped_of c).2) ry
        exact SeqAt.compareEq_shaped r1 r2 (shaped_of c).1 (shaped_of c).2 hu ⟨.bl _, H, I, rfl, q⟩
      · cases h
    · cases h
  unfold semEq at h
  split at h
  · rename_i a c
    cases h
    simp only [RR, RD] at hx hy
    subst hx hy
    refine op_eq pins s σ H _ _ v u Q I rx ry ⟨rfl, ?_⟩
    have e : decide (V.str a = V.str c) = decide (a = c) := by simp
    rw [e]; exact q
  · exact main h
theorem o_ne (hb : Sys X) (hu : X.A.units + 64 < cLine) : OpB X P (compareOp .NotEq) semNe := by
  rintro pins s σ H vx vy v u Q I rx ry ⟨F, ι, st, x, y, b, S, hx, hy, h, q⟩
  have hs := hb.none I
  have main : (semEqD x y st).map (!·) = some b → wpAny (model X.prog X.w) X.A (compareOp .NotEq v u) (EP X pins σ Q) X.xe s := fun h => by
    unfold semEqD at h
    split at h
    · rename_i d e e1 e2
      split at h
      · rename_i c
        cases h
        obtain ⟨as, r1, _⟩ := S.reads I hs 2 x vx v d hx e1 (shaped_ok (shaped_of c).1) rx
        obtain ⟨bs, r2, _⟩ := S.reads I hs 2 y vy u e hy e2 (shaped_ok (shaped_of c).2) ry
        exact SeqAt.compareNe_shaped r1 r2 (shaped_of c).1 (shaped_of c).2 hu ⟨.bl _, H, I, rfl, q⟩
      · cases h
    · cases h
  unfold semNe semEq at h
  split at h
  · rename_i a c
    cases h
    simp only [RR, RD] at hx hy
    subst hx hy
    refine op_ne pins s σ H _ _ v u Q I rx ry ⟨rfl, ?_⟩
    have e : decide (V.str a = V.str c) = decide (a = c) := by simp
    rw [e]; exact q
  · exact main h
theorem o_gt : OpB X P (compareOp .Gt) semGt := by
  rintro pins s σ H vx vy v u Q I rx ry ⟨F, ι, st, x, y, b, S, hx, hy, h, q⟩
  unfold semGt at h
  split at h
  · cases h
    simp only [RR, RD] at hx hy
    subst hx hy
    exact op_gt pins s σ H _ _ v u Q I rx ry ⟨_, _, rfl, rfl, q⟩
  · cases h
theorem o_ge : OpB X P (compareOp .GtE) semGe := by
  rintro pins s σ H vx vy v u Q I rx ry ⟨F, ι, st, x, y, b, S, hx, hy, h, q⟩
  unfold semGe at h
  split at h
  · cases h
    simp only [RR, RD] at hx hy
    subst hx hy
    exact op_ge pins s σ H _ _ v u Q I rx ry ⟨_, _, rfl, rfl, q⟩
  · cases h
mutual
theorem numD_ok : ∀ d : D, numD d = true → okD d = true
  | .int _, _ => by simp [okD]
  | .tuple ds, h => by simp only [okD]; exact numDs_ok ds (by simpa [numD] using h)
  | .none, h => by simp [numD] at h
  | .bool _, h => by simp [numD] at h
  | .str _, h => by simp [numD] at h
  | .list _, h => by simp [numD] at h
  | .dict _, h => by simp [numD] at h
theorem numDs_ok : ∀ ds : List D, numDs ds = true → okDs ds = true
  | [], _ => by simp [okDs]
  | d :: ds, h => by
    have h' : numD d = true ∧ numDs ds = true := by simpa [numDs] using h
    simp only [okDs, numD_ok d h'.1, numDs_ok ds h'.2, Bool.and_self]
end
theorem lexAt_shift (e r : Nat → Bool) (z : Bool) : ∀ (k i : Nat), Ob.lexAt e r z (i + 1) k = Ob.lexAt (fun j => e (j + 1)) (fun j => r (j + 1)) z i k
  | 0, _ => rfl
  | k + 1, i => by rw [Ob.lexAt_succ, Ob.lexAt_succ, lexAt_shift e r z k (i + 1)]
theorem lexAt_le : ∀ (xs ys : List D), PySem.W.alikeAll xs ys = true →
    Ob.lexAt (fun j => SeqAt.pairEq xs ys j) (fun j => PySem.W.dataLt (xs.getD j .none) (ys.getD j .none) || PyData.eqv (xs.getD j .none) (ys.getD j .none)) (decide (xs.length ≤ ys.length)) 0 (min xs.length ys.length) =
      (PySem.W.dataLt (.tuple xs) (.tuple ys) || PyData.eqvAll xs ys)
  | [], [], _ => by simp [Ob.lexAt, PyData.eqvAll]
  | [], y :: ys, _ => by
    simp only [List.length_nil, Nat.zero_le, Nat.min_eq_left, Ob.lexAt, decide_true]
    rw [PySem.W.dataLt_tuple]
    have : PyProof.Rows.lexLt itemOrd (PySem.W.keyToksAll []) (PySem.W.keyToksAll (y :: ys)) = true := by
      simp only [PySem.W.keyToksAll]
      rfl
    rw [this]; rfl
  | x :: xs, [], _ => by
    simp only [List.length_nil, Nat.zero_le, Nat.min_eq_right, Ob.lexAt, List.length_cons]
    rw [PySem.W.dataLt_tuple]
    have : PyProof.Rows.lexLt itemOrd (PySem.W.keyToksAll (x :: xs)) (PySem.W.keyToksAll []) = false := by
      simp only [PySem.W.keyToksAll]
      rfl
    rw [this]
    simp [PyData.eqvAll]
  | x :: xs, y :: ys, h => by
    obtain ⟨h1, h2⟩ := PySem.W.alike_all_cons h
    have ih := lexAt_le xs ys h2
    have hm : min (x :: xs).length (y :: ys).length = min xs.length ys.length + 1 := by simp only [List.length_cons]; omega
    rw [hm, Ob.lexAt_succ, lexAt_shift, PySem.W.dataLt_tuple, PySem.W.eqv_all_cons]
    have hz : (decide ((x :: xs).length ≤ (y :: ys).length)) = decide (xs.length ≤ ys.length) := by simp
    cases e : PyData.eqv x y with
    | true =>
      have e0 : SeqAt.pairEq (x :: xs) (y :: ys) 0 = true := e
      rw [if_pos e0, PySem.W.dataLt_all_yes h1 e, hz]
      have := ih
      rw [PySem.W.dataLt_tuple] at this
      exact this
    | false =>
      have e0 : ¬ SeqAt.pairEq (x :: xs) (y :: ys) 0 = true := by show ¬ PyData.eqv x y = true; rw [e]; exact Bool.false_ne_true
      rw [if_neg e0, PySem.W.dataLt_all_no h1 e]
      simp [e]
mutual
theorem rcLe : ∀ (da db : D) (A : Around) (s : Shared) (a b : Value) (as bs : List Addr), Reads s.heap a da as → Reads s.heap b db bs → numD da = true → PySem.W.alike da db = true → A.units + min da.depth db.depth < cLine →
    Ob.RcOp .LtE A s a b (PySem.W.dataLt da db || PyData.eqv da db)
  | .int x, db, A, s, a, b, as, bs, ra, rb, _, h, _ => by
    cases db with
    | int y =>
      cases ra
      cases rb
      have : (PySem.W.dataLt (.int x) (.int y) || PyData.eqv (.int x) (.int y)) = decide (x ≤ y) := by
        rw [PySem.W.dataLt_int, PyData.eqv, Bool.eq_iff_iff]
        simp
        omega
      rw [this]
      exact Ob.RcOp.le_int _ _ _ _
    | _ => simp [PySem.W.alike] at h
  | .tuple xs, db, A, s, a, b, as, bs, ra, rb, hn, h, hu => by
    cases db with
    | tuple ys =>
      have hal : PySem.W.alikeAll xs ys = true := by simpa [PySem.W.alike] using h
      have hns : numDs xs = true := by simpa [numD] using hn
      cases ra with
      | @tuple l o vs n _ as₁ h1 h2 h3 h4 =>
        cases rb with
        | @tuple l' o' vs' n' _ bs₁ k1 k2 k3 k4 =>
          have n1 : vs.size = xs.length := by simpa using SeqAt.ReadsAll.length _ _ _ h4
          have n2 : vs'.size = ys.length := by simpa using SeqAt.ReadsAll.length _ _ _ k4
          have e : PyData.eqv (.tuple xs) (.tuple ys) = PyData.eqvAll xs ys := by rw [PyData.eqv]
          rw [e, ← lexAt_le xs ys hal, ← n1, ← n2]
          refine Ob.RcOp.tuples_le ⟨_, h1, h2, _, h3⟩ ⟨_, k1, k2, _, k3⟩ (SeqAt.room_here hu) (fun j j1 j2 => ?_) fun j j1 j2 hj => ?_
          · have := PySem.W.eqAt_alikeAll xs ys A.in1 s vs.toList vs'.toList _ _ h4 k4 hal (SeqAt.room_in hu) j (by simpa using j1) (by simpa using j2)
            simpa using this
          · have := rcLes xs ys A.in1 s vs.toList vs'.toList _ _ h4 k4 hns hal (SeqAt.room_in hu) j (by simpa using j1) (by simpa using j2)
            simpa using this
    | _ => simp [PySem.W.alike] at h
  | .none, _, _, _, _, _, _, _, _, _, h, _, _ => by simp [numD] at h
  | .bool _, _, _, _, _, _, _, _, _, _, h, _, _ => by simp [numD] at h
  | .str _, _, _, _, _, _, _, _, _, _, h, _, _ => by simp [numD] at h
  | .list _, _, _, _, _, _, _, _, _, _, h, _, _ => by simp [numD] at h
  | .dict _, _, _, _, _, _, _, _, _, _, h, _, _ => by simp [numD] at h
theorem rcLes : ∀ (xs ys : List D) (A : Around) (s : Shared) (vs ws : List Value) (as bs : List Addr), ReadsAll s.heap vs xs as → ReadsAll s.heap ws ys bs → numDs xs = true → PySem.W.alikeAll xs ys = true →
    A.units + min (PyData.depthAll xs) (PyData.depthAll ys) < cLine → ∀ (j : Nat) (h1 : j < vs.length) (h2 : j < ws.length),
      Ob.RcOp .LtE A s vs[j] ws[j] (PySem.W.dataLt (xs.getD j .none) (ys.getD j .none) || PyData.eqv (xs.getD j .none) (ys.getD j .none))
  | [], _, _, _, _, _, _, _, ra, _, _, _, _, j, h1, _ => by cases ra; exact absurd h1 (Nat.not_lt_zero _)
  | _ :: _, [], _, _, _, _, _, _, _, rb, _, _, _, j, _, h2 => by cases rb; exact absurd h2 (Nat.not_lt_zero _)
  | x :: xs, y :: ys, A, s, _, _, _, _, ra, rb, hn, h, hu, j, h1, h2 => by
    have hn' : numD x = true ∧ numDs xs = true := by simpa [numDs] using hn
    cases ra with
    | cons r rs =>
      cases rb with
      | cons r' rs' =>
        cases j with
        | zero => exact rcLe x y A s _ _ _ _ r r' hn'.1 (PySem.W.alike_all_cons h).1 (SeqAt.room_head hu)
        | succ j => exact rcLes xs ys A s _ _ _ _ rs rs' hn'.2 (PySem.W.alike_all_cons h).2 (SeqAt.room_tail hu) j (Nat.lt_of_succ_lt_succ h1) (Nat.lt_of_succ_lt_succ h2)
end
theorem o_le (hb : Sys X) (hu : X.A.units + 64 < cLine) : OpB X P (compareOp .LtE) semLe := by
  rintro pins s σ H vx vy v u Q I rx ry ⟨F, ι, st, x, y, b, S, hx, hy, h, q⟩
  have hs := hb.none I
  unfold semLe at h
  split at h
  · rename_i d e
    unfold leD at h
    split at h
    · rename_i c
      simp only [Bool.and_eq_true, decide_eq_true_eq] at c
      obtain ⟨⟨⟨o2, n1⟩, al⟩, n2⟩ := c
      cases h
      obtain ⟨as, r1, _⟩ := RD.reads I hs S.le d vx v (numD_ok d n1) hx rx
      obtain ⟨bs, r2, _⟩ := RD.reads I hs S.le e vy u o2 hy ry
      have hm : min d.depth e.depth ≤ d.depth := Nat.min_le_left _ _
      have R := rcLe d e X.A s v u as bs r1 r2 n1 al (by omega)
      have z : wpAny (model X.prog X.w) X.A (compareOp .LtE v u) (EP X pins σ Q) X.xe s := R X.prog X.w X.xe (EP X pins σ Q) ⟨.bl _, H, I, rfl, q⟩
      exact z
    · cases h
  · cases h
theorem o_lt (hb : Sys X) (hu : X.A.units + 64 < cLine) : OpB X P (compareOp .Lt) semLt := by
  rintro pins s σ H vx vy v u Q I rx ry ⟨F, ι, st, x, y, b, S, hx, hy, h, q⟩
  have hs := hb.none I
  unfold semLt at h
  split at h
  · rename_i d e
    unfold ltD at h
    split at h
    · rename_i al
      simp only [Bool.and_eq_true] at al
      obtain ⟨⟨o1, o2⟩, al⟩ := al
      have hn : d ≠ .none ∧ d.depth ≤ 64 ∧ PySem.W.dataLt d e = b := by
        split at h
        · cases h
        · rename_i hd
          split at h
          · rename_i c
            cases h
            exact ⟨hd, c, rfl⟩
          · cases h
      obtain ⟨n1, n2, n3⟩ := hn
      obtain ⟨as, r1, _⟩ := RD.reads I hs S.le d vx v o1 hx rx
      obtain ⟨bs, r2, _⟩ := RD.reads I hs S.le e vy u o2 hy ry
      have hm : min d.depth e.depth ≤ d.depth := Nat.min_le_left _ _
      have R := PySem.W.rcLt_alike d e X.A s v u as bs r1 r2 al n1 (by omega)
      rw [n3] at R
      have z : wpAny (model X.prog X.w) X.A (compareOp .Lt v u) (EP X pins σ Q) X.xe s := R X.prog X.w X.xe (EP X pins σ Q) ⟨.bl _, H, I, rfl, q⟩
      exact z
    · cases h
  · cases h

/-! ### dicts looked up -/
theorem keyOf_kV {F : Hp} {d : D} {k : Key} {v : V} (e : keyOf d = some k) (r : RD F d v) : v = kV k := by
  cases d <;> simp [keyOf] at e <;> (subst e; simpa [RD, kV] using r)
theorem keysOf_kV {F : Hp} : ∀ {ds : List D} {ks : List Key} {vs : List V}, keysOf ds = some ks → RDs F ds vs → vs = ks.map kV
  | [], ks, vs, e, r => by simp [keysOf] at e; simp only [RDs] at r; subst e r; rfl
  | d :: ds, ks, vs, e, r => by
    simp only [keysOf] at e
    split at e
    · rename_i k ks' h1 h2
      cases e
      simp only [RDs] at r
      obtain ⟨v, vs, rfl, r1, r2⟩ := r
      rw [keyOf_kV h1 r1, keysOf_kV h2 r2]; rfl
    · cases e
theorem Sm.tkey {F : Hp} {ι : List Addr} {st : Sto} {H : Hp} (S : Sm P F ι st H) {d : D} {k : List Key} {v : V} (e : tkeyOf d = some k) (r : RD F d v) : ∃ b, v = .ref b ∧ H b = some (.tup (k.map kV)) := by
  cases d with
  | tuple ds =>
    simp only [RD] at r
    obtain ⟨a, xs, rfl, h, q⟩ := r
    rw [keysOf_kV (by simpa [tkeyOf] using e) q] at h
    exact ⟨a, rfl, S.tupF h⟩
  | _ => simp [tkeyOf] at e
def ORel (P : Pm) (F : Hp) (ι : List Addr) : Option R → Option V → Prop
  | some r, some v => RR P F ι r v
  | none, none => True
  | _, _ => False
theorem RKs.at {κ : Type} [DecidableEq κ] {F : Hp} {ι : List Addr} {kvs : List (κ × R)} {es : List (κ × V)} (h : RKs P F ι kvs es) (k : κ) : ORel P F ι (keyAt kvs k) (valV es k) := by
  induction h with
  | nil => simp [keyAt, valV, ORel]
  | @cons p q ps qs h1 _ ih =>
    obtain ⟨e1, e2⟩ := h1
    by_cases z : p.1 = k
    · have z' : q.1 = k := e1 ▸ z
      simp [keyAt, valV, List.find?_cons, z, z', e2, ORel]
    · have z' : ¬ q.1 = k := fun x => z (e1 ▸ x)
      have a1 : keyAt (p :: ps) k = keyAt ps k := by simp [keyAt, List.find?_cons, z]
      have a2 : valV (q :: qs) k = valV qs k := by simp [valV, List.find?_cons, z']
      rw [a1, a2]; exact ih
theorem RDt.at {F : Hp} {ι : List Addr} : ∀ {kvs : List (D × D)} {es : List (List Key × V)}, RDt F kvs es → ∀ k : List Key, ORel P F ι ((datAtT kvs k).map R.dat) (valV es k)
  | [], es, h, k => by simp only [RDt] at h; subst h; simp [datAtT, valV, ORel]
  | (kd, d) :: r, es, h, k => by
    simp only [RDt] at h
    obtain ⟨q, v, er, rfl, e, h1, h2⟩ := h
    have hk : tkeyOf kd = some q := by
      subst e
      simp only [tD, tkeyOf]
      clear h1 h2
      induction q with
      | nil => rfl
      | cons x xs ih =>
        simp only [List.map_cons, keysOf, ih]
        cases x <;> simp [kD, keyOf]
    by_cases z : q = k
    · subst z
      simp [datAtT, valV, List.find?_cons, hk, ORel]
      exact h1
    · have z' : ¬ tkeyOf kd = some k := by rw [hk]; exact fun x => z (Option.some.inj x)
      have a1 : datAtT ((kd, d) :: r) k = datAtT r k := by simp [datAtT, List.find?_cons, z']
      have a2 : valV ((q, v) :: er) k = valV er k := by simp [valV, List.find?_cons, z]
      rw [a1, a2]; exact RDt.at h2 k
/-- the looked-up place -/
theorem Sm.dget {F : Hp} {ι : List Addr} {st : Sto} {H : Hp} (S : Sm P F ι st H) {r y : R} {v w : V} {o : Option R} (hr : RR P F ι r v) (hy : RR P F ι y w) (e : dGet st r y = some o) :
    ∃ a o', v = .ref a ∧ DGet H a w o' ∧ ORel P F ι o o' := by
  unfold dGet at e
  split at e
  · rename_i n d
    obtain ⟨ob, h1, e⟩ := Option.bind_eq_some_iff.mp e
    obtain ⟨a, ev, _, ro⟩ := S.loc h1 hr
    have key : ∀ (kvs : List (Key × R)) (es : List (Key × V)), Rd H a (.dK es) → RKs P F (ι.take n) kvs es → (keyOf d).map (fun k => keyAt kvs k) = some o → ∃ a o', v = .ref a ∧ DGet H a w o' ∧ ORel P F ι o o' := fun kvs es rd q ek => by
      obtain ⟨k, h1, rfl⟩ := Option.map_eq_some_iff.mp ek
      exact ⟨a, valV es k, ev, .inl ⟨es, k, rd, keyOf_kV h1 hy, rfl⟩, (q.mono (fun _ _ e => e) (List.take_prefix n ι)).at k⟩
    have tkey : ∀ (kvs : List (List Key × R)) (es : List (List Key × V)), Rd H a (.dT es) → RKs P F (ι.take n) kvs es → (tkeyOf d).map (fun k => keyAt kvs k) = some o → ∃ a o', v = .ref a ∧ DGet H a w o' ∧ ORel P F ι o o' := fun kvs es rd q ek => by
      obtain ⟨k, h1, rfl⟩ := Option.map_eq_some_iff.mp ek
      obtain ⟨b, rfl, hb⟩ := S.tkey h1 hy
      exact ⟨a, valV es k, ev, .inr ⟨es, k, b, rd, rfl, hb, rfl⟩, (q.mono (fun _ _ e => e) (List.take_prefix n ι)).at k⟩
    cases ob with
    | dK kvs => obtain ⟨es, e3, h⟩ := ro; exact key kvs es (.inl e3) h e
    | lckK kvs => obtain ⟨od, es, e3, h⟩ := ro; exact key kvs es (.inr ⟨od, e3⟩) h e
    | dT kvs => obtain ⟨es, e3, h⟩ := ro; exact tkey kvs es (.inl e3) h e
    | lckT kvs => obtain ⟨od, es, e3, h⟩ := ro; exact tkey kvs es (.inr ⟨od, e3⟩) h e
    | _ => simp [dLook] at e
  · rename_i kvs d
    obtain ⟨k, h1, rfl⟩ := Option.map_eq_some_iff.mp e
    simp only [RR, RD] at hr
    obtain ⟨a, es, rfl, e2, h⟩ := hr
    obtain ⟨b, rfl, hb⟩ := S.tkey h1 hy
    exact ⟨a, valV es k, rfl, .inr ⟨es, k, b, (S.le _ _ e2).rd, rfl, hb, rfl⟩, RDt.at h k⟩
  · cases e
theorem o_in (hb : Sys X) (hr : X.A.units + 65 < cLine) : OpB X P (compareOp .In) semIn := by
  rintro pins s σ H vx vy v u Q I rx ry ⟨F, ι, st, x, y, b, S, hx, hy, h, q⟩
  have hs := hb.none I
  unfold semIn at h
  split at h
  · cases h
    simp only [RR, RD] at hx hy
    subst hx hy
    exact op_in_str pins s σ H _ _ v u Q I rx ry ⟨_, _, rfl, rfl, q⟩
  · split at h
    · rename_i o e
      cases h
      obtain ⟨a, o', rfl, g, m⟩ := S.dget hy hx e
      cases ry
      have eo : o.isSome = o'.isSome := by cases o <;> cases o' <;> first | rfl | exact False.elim m
      rw [eo] at q
      exact d_in (by omega) I g rx fun s' I' => ⟨.bl _, H, I', rfl, q⟩
    · split at h
      · rename_i d es e1 e2
        split at h
        · rename_i c
          cases h
          obtain ⟨as, r1, _⟩ := S.reads I hs 2 x vx v d hx e1 (shaped_ok (shaped_of c).1) rx
          obtain ⟨bs, r2, _⟩ := S.reads I hs 2 y vy u _ hy e2 (shaped_ok (shaped_of c).2) ry
          exact SeqAt.in_list_reads r2 r1 (SeqAt.canLay_of_shaped (shaped_of c).2) (SeqAt.canLay_of_shaped (shaped_of c).1) (room_in_shaped (shaped_of c).1 hr) ⟨.bl _, H, I, rfl, q⟩
        · cases h
      · rename_i d es e1 e2
        split at h
        · rename_i c
          cases h
          obtain ⟨as, r1, _⟩ := S.reads I hs 2 x vx v d hx e1 (shaped_ok (shaped_of c).1) rx
          obtain ⟨bs, r2, _⟩ := S.reads I hs 2 y vy u _ hy e2 (shaped_ok (shaped_of c).2) ry
          exact SeqAt.in_tuple_reads r2 r1 (SeqAt.canLay_of_shaped (shaped_of c).2) (SeqAt.canLay_of_shaped (shaped_of c).1) (room_in_shaped (shaped_of c).1 hr) ⟨.bl _, H, I, rfl, q⟩
        · cases h
      · cases h
theorem o_notIn (hb : Sys X) (hr : X.A.units + 65 < cLine) : OpB X P (compareOp .NotIn) semNotIn := by
  rintro pins s σ H vx vy v u Q I rx ry ⟨F, ι, st, x, y, b, S, hx, hy, h, q⟩
  have hs := hb.none I
  unfold semNotIn semIn at h
  split at h
  · cases h
    simp only [RR, RD] at hx hy
    subst hx hy
    exact op_notin_str pins s σ H _ _ v u Q I rx ry ⟨_, _, rfl, rfl, q⟩
  · split at h
    · rename_i o e
      cases h
      obtain ⟨a, o', rfl, g, m⟩ := S.dget hy hx e
      cases ry
      have eo : o.isSome = o'.isSome := by cases o <;> cases o' <;> first | rfl | exact False.elim m
      rw [eo] at q
      exact d_notIn (by omega) I g rx fun s' I' => ⟨.bl _, H, I', rfl, q⟩
    · split at h
      · rename_i d es e1 e2
        split at h
        · rename_i c
          cases h
          obtain ⟨as, r1, _⟩ := S.reads I hs 2 x vx v d hx e1 (shaped_ok (shaped_of c).1) rx
          obtain ⟨bs, r2, _⟩ := S.reads I hs 2 y vy u _ hy e2 (shaped_ok (shaped_of c).2) ry
          exact SeqAt.notIn_list_reads r2 r1 (SeqAt.canLay_of_shaped (shaped_of c).2) (SeqAt.canLay_of_shaped (shaped_of c).1) (room_in_shaped (shaped_of c).1 hr) ⟨.bl _, H, I, rfl, q⟩
        · cases h
      · rename_i d es e1 e2
        split at h
        · rename_i c
          cases h
          obtain ⟨as, r1, _⟩ := S.reads I hs 2 x vx v d hx e1 (shaped_ok (shaped_of c).1) rx
          obtain ⟨bs, r2, _⟩ := S.reads I hs 2 y vy u _ hy e2 (shaped_ok (shaped_of c).2) ry
          exact SeqAt.notIn_tuple_reads r2 r1 (SeqAt.canLay_of_shaped (shaped_of c).2) (SeqAt.canLay_of_shaped (shaped_of c).1) (room_in_shaped (shaped_of c).1 hr) ⟨.bl _, H, I, rfl, q⟩
        · cases h
      · cases h
theorem rd_kD {F : Hp} (k : Key) : RD F (kD k) (kV k) := by cases k <;> simp only [kD, kV, RD]
theorem rd_kDs {F : Hp} : ∀ ks : List Key, RDs F (ks.map kD) (ks.map kV)
  | [] => by simp only [List.map_nil, RDs]
  | k :: ks => .cons (rd_kD k) (rd_kDs ks)
theorem rd_tD {F : Hp} {b : Addr} {ks : List Key} (h : F b = some (.tup (ks.map kV))) : RD F (tD ks) (.ref b) := by
  simp only [tD, RD]
  exact ⟨b, _, rfl, h, rd_kDs ks⟩
theorem rdt_keys {F : Hp} : ∀ {kvs : List (D × D)} {es : List (List Key × V)}, RDt F kvs es → kvs.map (·.1) = es.map fun e => tD e.1
  | [], _, h => by simp only [RDt] at h; subst h; rfl
  | (k, d) :: r, _, h => by
    simp only [RDt] at h
    obtain ⟨q, v, er, rfl, e, _, h2⟩ := h
    rw [List.map_cons, List.map_cons, rdt_keys h2, e]
/-- the keys of a dict as data -/
theorem Sm.keyData {F : Hp} {ι : List Addr} {st : Sto} {H : Hp} (S : Sm P F ι st H) {es : List (List Key × V)} {bs : List Addr} (h : IsKeys H es bs) : ∃ F', Up F ι H F' ι H ∧ Sm P F' ι st H ∧ RDs F' (es.map fun e => tD e.1) (bs.map V.ref) := by
  induction h generalizing F with
  | nil => exact ⟨F, .refl, S, by simp only [List.map_nil, RDs]⟩
  | cons h1 _ ih =>
    obtain ⟨F1, u1, s1, e1⟩ := S.tupData h1
    obtain ⟨F2, u2, s2, r2⟩ := ih s1
    exact ⟨F2, u1.trans u2, s2, .cons (rd_tD (u2.le _ _ e1)) r2⟩
end
end Mp
end
section
set_option Elab.async false
set_option linter.all false
set_option maxRecDepth 100000
set_option autoImplicit false
/-! Expressions, tests, argument lists of the small machine and their places in the hand layer. -/
namespace Mp
open PySem PySem.Spec PyProof.Rows L2

/-- the reading: in a state that stands for (ρ, st), m runs, and what comes stands for what m gives -/
def Td {α β : Type} (P : Pm) (W : WX) (cal : Cal) (m : Cal → Rho → Sto → Out α) (Rel : Hp → List Addr → α → β → Prop) : L2.St → Hp → (β → Hp → Prop) → Prop := fun σ H Q =>
  ∃ F ι ρ st, EnvR P F ι ρ σ ∧ Sm P F ι st H ∧ Post P (fun cls dx H' => W cls dx σ H') F ι H (m cal ρ st) (fun a _ F' ι' H' => ∀ b, Rel F' ι' a b → Q b H')
abbrev TEd (P : Pm) (W : WX) (cal : Cal) (m : M) : TE := Td P W cal m (RR P)
abbrev TTd (P : Pm) (W : WX) (cal : Cal) (m : MB) : TT := Td P W cal m fun _ _ a b => a = b
abbrev TAd (P : Pm) (W : WX) (cal : Cal) (m : ML) : TA := Td P W cal m (RRs P)
/-- a possible part of a slice -/
abbrev MO' := Cal → Rho → Sto → Out (Option Int)
abbrev TOd (P : Pm) (W : WX) (cal : Cal) (m : MO') : TO := Td P W cal m fun _ _ a b => a = b

abbrev PEd (X : Cx) (P : Pm) (W : WX) (cal : Cal) (e : Expr) (m : M) : Prop := PE X e (TEd P W cal m)
abbrev PTd (X : Cx) (P : Pm) (W : WX) (cal : Cal) (e : Expr) (m : MB) : Prop := PT X e (TTd P W cal m)
abbrev PWd (X : Cx) (P : Pm) (W : WX) (cal : Cal) (e : Expr) (m : MB) : Prop := PW X e (TTd P W cal m)
abbrev PAd (X : Cx) (P : Pm) (W : WX) (cal : Cal) (es : List Expr) (m : ML) : Prop := PA X es (TAd P W cal m)
abbrev POd (X : Cx) (P : Pm) (W : WX) (cal : Cal) (e : Option Expr) (m : MO') : Prop := PO X e (TOd P W cal m)

theorem pe_weak {X : Cx} {e : Expr} {t t' : TE} (h : PE X e t) (w : ∀ σ H Q, t' σ H Q → t σ H Q) : PE X e t' := ⟨fun pins s σ H Q I q => h.run pins s σ H Q I (w σ H Q q)⟩
theorem pt_weak {X : Cx} {e : Expr} {t t' : TT} (h : PT X e t) (w : ∀ σ H Q, t' σ H Q → t σ H Q) : PT X e t' := ⟨fun pins s σ H Q I q => h.run pins s σ H Q I (w σ H Q q)⟩
theorem pw_weak {X : Cx} {e : Expr} {t t' : TT} (h : PW X e t) (w : ∀ σ H Q, t' σ H Q → t σ H Q) : PW X e t' := ⟨fun wh pins s σ H Q I q => h.run wh pins s σ H Q I (w σ H Q q)⟩
theorem pa_weak {X : Cx} {es : List Expr} {t t' : TA} (h : PA X es t) (w : ∀ σ H Q, t' σ H Q → t σ H Q) : PA X es t' := ⟨fun pos pins s σ H Q I q => h.run pos pins s σ H Q I (w σ H Q q)⟩
theorem po_weak {X : Cx} {e : Option Expr} {t t' : TO} (h : PO X e t) (w : ∀ σ H Q, t' σ H Q → t σ H Q) : PO X e t' := ⟨fun pins s σ H Q I q => h.run pins s σ H Q I (w σ H Q q)⟩

/-- one step, then another by what it gave -/
def mBind {α β : Type} (m : Cal → Rho → Sto → Out α) (f : α → Cal → Rho → Sto → Out β) : Cal → Rho → Sto → Out β := fun cal ρ st => (m cal ρ st).bind fun a st1 => f a cal ρ st1
section
variable {P : Pm} {W : WX} {cal : Cal} {σ : L2.St} {H : Hp}
/-- a step that gives its value at once -/
theorem Td.run {α β : Type} {m : Cal → Rho → Sto → Out α} {Rel : Hp → List Addr → α → β → Prop} {Q : β → Hp → Prop} (h : Td P W cal m Rel σ H Q) :
    ∃ F ι ρ st, EnvR P F ι ρ σ ∧ Sm P F ι st H ∧ Post P (fun cls dx H' => W cls dx σ H') F ι H (m cal ρ st) (fun a _ F' ι' H' => ∀ b, Rel F' ι' a b → Q b H') := h
/-- the first of two steps; the second stands in its state -/
theorem Td.then {α β γ δ : Type} {m : Cal → Rho → Sto → Out α} {f : α → Cal → Rho → Sto → Out γ} {RelA : Hp → List Addr → α → β → Prop} {RelC : Hp → List Addr → γ → δ → Prop} {Q : δ → Hp → Prop} {Q' : β → Hp → Prop}
    (h : Td P W cal (mBind m f) RelC σ H Q)
    (k : ∀ F ι ρ st H1 a b, EnvR P F ι ρ σ → Sm P F ι st H1 → RelA F ι a b → Post P (fun cls dx H' => W cls dx σ H') F ι H1 (f a cal ρ st) (fun c _ F' ι' H' => ∀ d, RelC F' ι' c d → Q d H') → Q' b H1) :
    Td P W cal m RelA σ H Q' := by
  obtain ⟨F, ι, ρ, st, hE, hS, hP⟩ := h
  refine ⟨F, ι, ρ, st, hE, hS, (Post.bind hP).imp fun a st1 F1 ι1 H1 u1 s1 h1 b rb => ?_⟩
  exact k F1 ι1 ρ st1 H1 a b (u1.env hE) s1 rb h1
end

/-! ### names and constants -/
def mVar (i : Nat) : M := fun _ ρ st => match ρ[i]? with
  | some (some r) => .ok r st
  | _ => .stk
def mDat (d : D) : M := fun _ _ st => .ok (.dat d) st
abbrev mInt (i : Int) : M := mDat (.int i)
abbrev mStr (x : Str) : M := mDat (.str x)
abbrev mBool (b : Bool) : M := mDat (.bool b)
abbrev mNon : M := mDat .none
def mFn (i : Nat) : M := fun _ _ st => .ok (.fn i) st
section
variable {X : Cx} {P : Pm} {W : WX} {cal : Cal} {pos : Pos}
theorem pd_var {i : Nat} {x : Str} (hN : X.N[i]? = some x) (hv : Vis X.env.scope x) (hd : (x == ("__debug__" : Str)) = false := by decide) (hcd : (x == ("__classdict__" : Str)) = false := by decide) : PEd X P W cal (.Name x pos) (mVar i) := by
  refine pe_weak (pe_var hN hv hd hcd) fun σ H Q ⟨F, ι, ρ, st, hE, hS, hP⟩ => ?_
  unfold mVar at hP
  split at hP
  · rename_i r e
    obtain ⟨v, e2, rr⟩ := hE.2 i r e
    exact ⟨v, e2, hP.val hS rr⟩
  · exact hP.elim
/-- a written thing -/
theorem pd_c {e : Expr} {v : V} {d : D} (h : PE X e (tC v)) (hd : ∀ F, RD F d v) : PEd X P W cal e (mDat d) :=
  pe_weak h fun σ H Q ⟨F, ι, ρ, st, hE, hS, hP⟩ => Post.val hP hS (hd F)
theorem pd_int {i : Int} {j : Nat} : PEd X P W cal (.Constant (.int i) j pos) (mInt i) := pd_c pe_int fun F => by simp only [RD]
theorem pd_str {x : Str} {j : Nat} : PEd X P W cal (.Constant (.str x) j pos) (mStr x) := pd_c pe_str fun F => by simp only [RD]
theorem pd_bool {b : Bool} {j : Nat} : PEd X P W cal (.Constant (.bool b) j pos) (mBool b) := pd_c pe_bl fun F => by simp only [RD]
theorem pd_non {j : Nat} : PEd X P W cal (.Constant .none j pos) mNon := pd_c pe_non fun F => by simp only [RD]
/-- a module's constant -/
theorem pd_globI {x : Str} {i : Int} {t : Tok} (hg : Gl X x) (hm : X.mg x = some (.int i t)) (hd : (x == ("__debug__" : Str)) = false := by decide) : PEd X P W cal (.Name x pos) (mInt i) := pd_c (pe_glob (v := .int i) hg hm ⟨t, rfl⟩ hd) fun F => by simp only [RD]
theorem pd_globS {x : Str} {y : Str} {t : Tok} (hg : Gl X x) (hm : X.mg x = some (.str y t)) (hd : (x == ("__debug__" : Str)) = false := by decide) : PEd X P W cal (.Name x pos) (mStr y) := pd_c (pe_glob (v := .str y) hg hm ⟨t, rfl⟩ hd) fun F => by simp only [RD]
/-- a def as a value -/
theorem pd_fn {x : Str} {a : Addr} {i : Nat} (hg : Gl X x) (hm : X.mg x = some (.ref a)) (hP : P.fnA i = some a) (hd : (x == ("__debug__" : Str)) = false := by decide) : PEd X P W cal (.Name x pos) (mFn i) :=
  pe_weak (pe_glob (v := .ref a) hg hm rfl hd) fun σ H Q ⟨F, ι, ρ, st, hE, hS, h⟩ => Post.val h hS ⟨a, hP, rfl⟩
end

/-! ### argument lists -/
def mNil : ML := fun _ _ st => .ok [] st
def mCons (m : M) (ms : ML) : ML := mBind m fun r => mBind ms fun rs _ _ st => .ok (r :: rs) st
section
variable {X : Cx} {P : Pm} {W : WX} {cal : Cal} {pos : Pos} {e : Expr} {es : List Expr} {m : M} {ms : ML}
theorem pd_nil : PAd X P W cal [] mNil := pa_weak pa_nil fun σ H Q ⟨F, ι, ρ, st, hE, hS, hP⟩ => Post.now hP hS [] .nil
theorem pd_cons (he : PEd X P W cal e m) (hr : PAd X P W cal es ms) (hs : starEach (e :: es) X.env = (false, eval e X.env) :: starEach es X.env := by rfl) : PAd X P W cal (e :: es) (mCons m ms) := by
  refine pa_weak (pa_cons he hr hs) fun σ H Q h => ?_
  refine Td.then h fun F ι ρ st H1 r v hE hS rr hP => ?_
  refine ⟨F, ι, ρ, st, hE, hS, (Post.bind hP).imp fun rs st2 F2 ι2 H2 u2 s2 h2 vs rv => ?_⟩
  exact Post.now h2 s2 (v :: vs) (.cons (u2.rr rr) rv)
end

/-! ### displays -/
def fTup (rs : List R) : M := fun _ _ st => match datsOf rs with
  | some ds => if ds.length ≤ sizeLine then .ok (.dat (.tuple ds)) st else .stk
  | none => .stk
def mTup (ms : ML) : M := mBind ms fTup
def fLst (live : Bool) (rs : List R) : M := fun _ _ st => if rs.length ≤ sizeLine then mkL live rs st else .stk
def mLst (live : Bool) (ms : ML) : M := mBind ms (fLst live)
section
variable {X : Cx} {P : Pm} {W : WX} {cal : Cal} {pos : Pos} {es : List Expr} {ms : ML}
theorem pd_tup {k : Nat} (h : PAd X P W cal es ms) : PEd X P W cal (.Tuple es k pos) (mTup ms) := by
  refine pe_weak (pe_tup h) fun σ H Q hq => ?_
  refine Td.then hq fun F ι ρ st H1 rs vs hE hS rr hP => ?_
  unfold fTup at hP
  split at hP
  · rename_i ds e
    rw [datsOf_eq e] at rr
    have rd := RDs.of_rrs _ _ rr
    split at hP
    · rename_i c
      exact ⟨by rw [← RDs.len _ _ rd]; exact c, fun p hp => Post.mkTup hP hS hp rd⟩
    · exact hP.elim
  · exact hP.elim
theorem pd_lst {live : Bool} (h : PAd X P W cal es ms) : PEd X P W cal (.List es pos) (mLst live ms) := by
  refine pe_weak (pe_lst h) fun σ H Q hq => ?_
  refine Td.then hq fun F ι ρ st H1 rs vs hE hS rr hP => ?_
  unfold fLst at hP
  split at hP
  · rename_i c
    exact ⟨by rw [← rr.len]; exact c, fun p hp => Post.mkL hP hS hp rr⟩
  · exact hP.elim
end

/-! ### operators -/
def mOp (sem : Sem2) (a b : M) : M := mBind a fun x => mBind b fun y _ _ st => sem x y st
def fNeg (x : R) : M := fun _ _ st => match x with
  | .dat (.int i) => .ok (.dat (.int (-i))) st
  | _ => .stk
def mNeg (a : M) : M := mBind a fNeg
def fCmp (sem : SemB) (x y : R) : MB := fun _ _ st => match sem x y st with
  | some c => .ok c st
  | none => .stk
def mCmpB (sem : SemB) (a b : M) : MB := mBind a fun x => mBind b fun y => fCmp sem x y
def fBool (b : Bool) : M := fun _ _ st => .ok (.dat (.bool b)) st
/-- a test's answer as a value -/
def mTst (t : MB) : M := mBind t fBool
theorem mBind_assoc {α β γ : Type} (m : Cal → Rho → Sto → Out α) (f : α → Cal → Rho → Sto → Out β) (g : β → Cal → Rho → Sto → Out γ) : mBind (mBind m f) g = mBind m fun a => mBind (f a) g := by
  funext cal ρ st
  unfold mBind
  cases m cal ρ st <;> rfl
section
variable {X : Cx} {P : Pm} {W : WX} {cal : Cal} {pos : Pos} {a b : Expr} {ma mb : M}
theorem pd_op {op : Operator} {sem : Sem2} (ho : Op2 X P (binaryOp op) sem) (ha : PEd X P W cal a ma) (hb : PEd X P W cal b mb) : PEd X P W cal (.BinOp a op b pos) (mOp sem ma mb) := by
  refine pe_weak (pe_op ho ha hb) fun σ H Q h => ?_
  refine Td.then h fun F ι ρ st H1 x vx hE hS rx hP => ?_
  refine ⟨F, ι, ρ, st, hE, hS, (Post.bind hP).imp fun y st2 F2 ι2 H2 u2 s2 h2 vy ry => ?_⟩
  exact ⟨F2, ι2, st2, x, y, _, s2, u2.rr rx, ry, h2⟩
theorem pd_neg (ha : PEd X P W cal a ma) : PEd X P W cal (.UnaryOp .USub a pos) (mNeg ma) := by
  refine pe_weak (pe_un un_neg ha) fun σ H Q h => ?_
  refine Td.then h fun F ι ρ st H1 x vx hE hS rx hP => ?_
  unfold fNeg at hP
  split at hP
  · simp only [RR, RD] at rx
    exact ⟨_, rx, hP.val hS (by simp only [RR, RD])⟩
  · exact hP.elim
theorem cmp_link {sem : SemB} {σ : L2.St} {H : Hp} {Q : VK} (h : Td P W cal (mTst (mCmpB sem ma mb)) (RR P) σ H Q) : tOp (rSemB P sem) (TEd P W cal ma) (TEd P W cal mb) σ H Q := by
  have h' : Td P W cal (mBind ma fun x => mBind mb fun y => mBind (fCmp sem x y) fBool) (RR P) σ H Q := by
    have e : mTst (mCmpB sem ma mb) = mBind ma fun x => mBind mb fun y => mBind (fCmp sem x y) fBool := by
      unfold mTst mCmpB
      rw [mBind_assoc]
      congr 1
      funext x
      rw [mBind_assoc]
    rw [e] at h
    exact h
  refine Td.then h' fun F ι ρ st H1 x vx hE hS rx hP => ?_
  refine ⟨F, ι, ρ, st, hE, hS, (Post.bind hP).imp fun y st2 F2 ι2 H2 u2 s2 h2 vy ry => ?_⟩
  simp only [mBind, fCmp] at h2
  split at h2
  · rename_i c e
    exact ⟨F2, ι2, st2, x, y, c, s2, u2.rr rx, ry, e, Post.val h2 s2 (by simp only [RR, RD])⟩
  · exact h2.elim
theorem pd_cmpV {op : CmpOp} {sem : SemB} (ho : OpB X P (compareOp op) sem) (ha : PEd X P W cal a ma) (hb : PEd X P W cal b mb) (hm : behindInMarks op b = false) : PEd X P W cal (.Compare a [op] [b] pos) (mTst (mCmpB sem ma mb)) :=
  pe_weak (pe_cmpR ho ha hb hm) fun σ H Q h => cmp_link h
theorem tst_of {t : MB} {σ : L2.St} {H : Hp} {Q : Bool → Hp → Prop} (h : Td P W cal t (fun _ _ a b => a = b) σ H Q) : Td P W cal (mTst t) (RR P) σ H fun v H' => ∃ k, v = .bl k ∧ Q k H' := by
  obtain ⟨F, ι, ρ, st, hE, hS, hP⟩ := h
  refine ⟨F, ι, ρ, st, hE, hS, ?_⟩
  unfold mTst mBind
  cases e : t cal ρ st with
  | ok b st1 =>
    rw [e] at hP
    exact fun F' ι' H' u s v rv => by simp only [RR, RD] at rv; exact ⟨b, rv, hP F' ι' H' u s b rfl⟩
  | exc c as st1 => rw [e] at hP; exact hP
  | stk => rw [e] at hP; exact hP
theorem pd_cmp {op : CmpOp} {sem : SemB} (ho : OpB X P (compareOp op) sem) (ha : PEd X P W cal a ma) (hb : PEd X P W cal b mb) (hm : behindInMarks op b = false) : PTd X P W cal (.Compare a [op] [b] pos) (mCmpB sem ma mb) :=
  pt_weak (pt_cmpR ho ha hb hm) fun σ H Q h => cmp_link (tst_of h)
end

/-! ### None -/
def isNon : R → Bool
  | .dat .none => true
  | _ => false
def mIsN (a : M) : MB := mBind a fun x _ _ st => .ok (isNon x) st
def fNot (b : Bool) : MB := fun _ _ st => .ok (!b) st
def mNotB (t : MB) : MB := mBind t fNot
section
variable {X : Cx} {P : Pm} {W : WX} {cal : Cal} {pos : Pos} {a b : Expr} {ma mb : M} {t t' : MB}
theorem rr_non {F : Hp} {ι : List Addr} {x : R} {v : V} (r : RR P F ι x v) : isNon x = decide (v = .non) := by
  cases x with
  | dat d =>
    cases d <;> simp only [RR, RD] at r
    · subst r; rfl
    · subst r; rfl
    · subst r; rfl
    · subst r; rfl
    · obtain ⟨_, _, rfl, _⟩ := r; rfl
    · obtain ⟨_, _, rfl, _⟩ := r; rfl
    · obtain ⟨_, _, rfl, _⟩ := r; rfl
  | loc n => obtain ⟨_, _, rfl⟩ := r; rfl
  | fn n => obtain ⟨_, _, rfl⟩ := r; rfl
  | scr n => obtain ⟨_, rfl, _⟩ := r; rfl
theorem pd_isN {j : Nat} {pos' : Pos} (ha : PEd X P W cal a ma) : PTd X P W cal (.Compare a [.Is] [.Constant .none j pos'] pos) (mIsN ma) := by
  refine pt_weak (pt_cmp (pc_isN ha)) fun σ H Q h => ?_
  refine Td.then h fun F ι ρ st H1 x vx hE hS rx hP => ?_
  exact ⟨_, rfl, Post.now hP hS _ (rr_non rx)⟩
theorem isN_not : mNotB (mIsN ma) = mBind ma fun x _ _ st => .ok (!isNon x) st := by
  unfold mNotB mIsN
  rw [mBind_assoc]
  rfl
theorem isN_tst : mTst (mIsN ma) = mBind ma fun x _ _ st => .ok (.dat (.bool (isNon x))) st := by
  unfold mTst mIsN
  rw [mBind_assoc]
  rfl
theorem isN_notTst : mTst (mNotB (mIsN ma)) = mBind ma fun x _ _ st => .ok (.dat (.bool (!isNon x))) st := by
  rw [isN_not]
  unfold mTst
  rw [mBind_assoc]
  rfl
theorem pd_notN {j : Nat} {pos' : Pos} (ha : PEd X P W cal a ma) : PTd X P W cal (.Compare a [.IsNot] [.Constant .none j pos'] pos) (mNotB (mIsN ma)) := by
  rw [isN_not]
  refine pt_weak (pt_cmp (pc_notN ha)) fun σ H Q h => ?_
  refine Td.then h fun F ι ρ st H1 x vx hE hS rx hP => ?_
  exact ⟨_, rfl, Post.now hP hS _ (congrArg (!·) (rr_non rx))⟩
theorem pd_isNV {j : Nat} {pos' : Pos} (ha : PEd X P W cal a ma) : PEd X P W cal (.Compare a [.Is] [.Constant .none j pos'] pos) (mTst (mIsN ma)) := by
  rw [isN_tst]
  refine pe_weak (pe_cmp (pc_isN ha)) fun σ H Q h => ?_
  refine Td.then h fun F ι ρ st H1 x vx hE hS rx hP => ?_
  exact Post.val hP hS (by simp only [RR, RD]; rw [rr_non rx])
theorem pd_notNV {j : Nat} {pos' : Pos} (ha : PEd X P W cal a ma) : PEd X P W cal (.Compare a [.IsNot] [.Constant .none j pos'] pos) (mTst (mNotB (mIsN ma))) := by
  rw [isN_notTst]
  refine pe_weak (pe_cmp (pc_notN ha)) fun σ H Q h => ?_
  refine Td.then h fun F ι ρ st H1 x vx hE hS rx hP => ?_
  exact Post.val hP hS (by simp only [RR, RD]; rw [rr_non rx])
theorem pd_not (ht : PTd X P W cal a t) : PTd X P W cal (.UnaryOp .Not a pos) (mNotB t) := by
  refine pt_weak (pt_not ht) fun σ H Q h => ?_
  refine Td.then h fun F ι ρ st H1 x b hE hS rx hP => ?_
  exact Post.now hP hS _ (congrArg (!·) rx)
end

/-! ### and, or, conditional -/
def fAnd (u : MB) (b : Bool) : MB := if b then u else fun _ _ st => .ok false st
def fOr (u : MB) (b : Bool) : MB := if b then fun _ _ st => .ok true st else u
def mAnd (t u : MB) : MB := mBind t (fAnd u)
def mOr (t u : MB) : MB := mBind t (fOr u)
def mIf (t : MB) (a b : M) : M := mBind t fun c => if c then a else b
section
variable {X : Cx} {P : Pm} {W : WX} {cal : Cal} {pos : Pos} {a b c : Expr} {rest : List Expr} {ma mb : M} {t u : MB}
theorem pd_and1 (h : PTd X P W cal a t) : PWd X P W cal (.BoolOp .And [a] pos) t := pw_and1 h
theorem pd_or1 (h : PTd X P W cal a t) : PWd X P W cal (.BoolOp .Or [a] pos) t := pw_or1 h
theorem pd_and (h : PTd X P W cal a t) (h2 : PWd X P W cal (.BoolOp .And (b :: rest) pos) u) : PWd X P W cal (.BoolOp .And (a :: b :: rest) pos) (mAnd t u) := by
  refine pw_weak (pw_and h h2) fun σ H Q hq => ?_
  refine Td.then hq fun F ι ρ st H1 x b hE hS rx hP => ?_
  subst rx
  cases x with
  | true => rw [if_pos rfl]; exact ⟨F, ι, ρ, st, hE, hS, hP⟩
  | false => rw [if_neg Bool.false_ne_true]; exact Post.now hP hS _ rfl
theorem pd_or (h : PTd X P W cal a t) (h2 : PWd X P W cal (.BoolOp .Or (b :: rest) pos) u) : PWd X P W cal (.BoolOp .Or (a :: b :: rest) pos) (mOr t u) := by
  refine pw_weak (pw_or h h2) fun σ H Q hq => ?_
  refine Td.then hq fun F ι ρ st H1 x b hE hS rx hP => ?_
  subst rx
  cases x with
  | true => rw [if_pos rfl]; exact Post.now hP hS _ rfl
  | false => rw [if_neg Bool.false_ne_true]; exact ⟨F, ι, ρ, st, hE, hS, hP⟩
theorem pd_w (h : PWd X P W cal a t) : PTd X P W cal a t := h.pt
theorem pd_if (h : PTd X P W cal c t) (ha : PEd X P W cal a ma) (hb : PEd X P W cal b mb) : PEd X P W cal (.IfExp c a b pos) (mIf t ma mb) := by
  refine pe_weak (pe_ifExp h ha hb) fun σ H Q hq => ?_
  refine Td.then hq fun F ι ρ st H1 x b hE hS rx hP => ?_
  subst rx
  cases x with
  | true => rw [if_pos rfl]; exact ⟨F, ι, ρ, st, hE, hS, hP⟩
  | false => rw [if_neg Bool.false_ne_true]; exact ⟨F, ι, ρ, st, hE, hS, hP⟩
/-- as values: all of them True or False -/
theorem pd_oneV {op : BoolOp} (h : PEd X P W cal a (mTst t)) : PEd X P W cal (.BoolOp op [a] pos) (mTst t) := pe_one h
theorem tst_and : mTst (mAnd t u) = mBind t fun b => if b then mTst u else fBool false := by
  unfold mTst mAnd
  rw [mBind_assoc]
  congr 1
  funext b
  cases b <;> rfl
theorem tst_or : mTst (mOr t u) = mBind t fun b => if b then fBool true else mTst u := by
  unfold mTst mOr
  rw [mBind_assoc]
  congr 1
  funext b
  cases b <;> rfl
theorem tst_not : mTst (mNotB t) = mBind t fun b => fBool (!b) := by
  unfold mTst mNotB
  rw [mBind_assoc]
  rfl
theorem pd_andV (h : PEd X P W cal a (mTst t)) (h2 : PEd X P W cal (.BoolOp .And (b :: rest) pos) (mTst u)) : PEd X P W cal (.BoolOp .And (a :: b :: rest) pos) (mTst (mAnd t u)) := by
  rw [tst_and]
  refine pe_weak (pe_and h h2) fun σ H Q hq => ?_
  refine tst_of (Td.then hq fun F ι ρ st H1 x b hE hS rx hP => ?_)
  subst rx
  cases x with
  | true => rw [if_pos rfl]; exact ⟨F, ι, ρ, st, hE, hS, hP⟩
  | false => rw [if_neg Bool.false_ne_true]; exact Post.val hP hS (by simp only [RR, RD])
theorem pd_orV (h : PEd X P W cal a (mTst t)) (h2 : PEd X P W cal (.BoolOp .Or (b :: rest) pos) (mTst u)) : PEd X P W cal (.BoolOp .Or (a :: b :: rest) pos) (mTst (mOr t u)) := by
  rw [tst_or]
  refine pe_weak (pe_or h h2) fun σ H Q hq => ?_
  refine tst_of (Td.then hq fun F ι ρ st H1 x b hE hS rx hP => ?_)
  subst rx
  cases x with
  | true => rw [if_pos rfl]; exact Post.val hP hS (by simp only [RR, RD])
  | false => rw [if_neg Bool.false_ne_true]; exact ⟨F, ι, ρ, st, hE, hS, hP⟩
theorem pd_notV (h : PEd X P W cal a (mTst t)) : PEd X P W cal (.UnaryOp .Not a pos) (mTst (mNotB t)) := by
  rw [tst_not]
  refine pe_weak (pe_not h) fun σ H Q hq => ?_
  refine tst_of (Td.then hq fun F ι ρ st H1 x b hE hS rx hP => ?_)
  subst rx
  exact Post.val hP hS (by simp only [RR, RD])
/-- a value that is True or False -/
def fB (x : R) : MB := fun _ _ st => match x with
  | .dat (.bool b) => .ok b st
  | _ => .stk
def mB (m : M) : MB := mBind m fB
theorem pd_bV (h : PEd X P W cal a ma) : PEd X P W cal a (mTst (mB ma)) := by
  refine pe_weak h fun σ H Q ⟨F, ι, ρ, st, hE, hS, hP⟩ => ?_
  refine ⟨F, ι, ρ, st, hE, hS, ?_⟩
  unfold mTst mB mBind at hP
  cases e : ma cal ρ st with
  | ok x st1 =>
    rw [e] at hP
    simp only [Out.bind_ok] at hP
    unfold fB at hP
    split at hP
    · exact hP
    · exact hP.elim
  | exc _ _ _ => rw [e] at hP; exact hP
  | stk => rw [e] at hP; exact hP
theorem pd_bT (h : PEd X P W cal a ma) (he : ∀ whole, isTrue a X.env whole = (do let v ← whole; standAt a.pos; holding [v] (truthy v)) := by intro _; rfl) : PTd X P W cal a (mB ma) := by
  refine pt_weak (pt_val h he) fun σ H Q hq => ?_
  refine Td.then hq fun F ι ρ st H1 x v hE hS rx hP => ?_
  unfold fB at hP
  split at hP
  · simp only [RR, RD] at rx
    exact ⟨_, rx, Post.now hP hS _ rfl⟩
  · exact hP.elim
end
end Mp
end
section
set_option Elab.async false
set_option linter.all false
set_option maxRecDepth 100000
set_option autoImplicit false
/-! sorted of lists, tuples and dicts of data. -/
namespace Mp
open PySem PySem.Spec PyProof.Rows L2

section
variable {prog : Program} {w : World} {A : Around} {E : Value → Shared → Prop} {s : Shared}
/-- the items of r, put together: all that stood is kept -/
def Gathers (prog : Program) (w : World) (A : Around) (s : Shared) (r : Value) (vs : List Value) : Prop :=
  ∀ (E : Value → Shared → Prop) (Q : List Value → Shared → Prop), (∀ h' tk, (∀ b o, s.heap.get? b = some o → h'.get? b = some o) → Q vs { s with heap := h', toks := tk }) → wpAny (model prog w) A (collect r) Q E s
theorem kept_upd_new {h : Heap} {f : Obj → Obj} {o' : Obj} : ∀ b o, h.get? b = some o → ((h.push o').update h.objs.size f).get? b = some o := fun b o e =>
  (Heap.get?_update_ne _ _ _ _ (Nat.ne_of_lt (Heap.lt_size e))).trans (Heap.get?_push_of_some _ e)
theorem Gathers.list {l : Addr} {vs : List Value} (hl : s.heap.IsList l vs.toArray) (hz : vs.length ≤ sizeLine) : Gathers prog w A s (.ref l) vs := fun E Q h =>
  collect_list hl (h _ s.toks kept_upd_new) hz
theorem Gathers.tuple {l : Addr} {vs : List Value} (hl : IsTup s.heap l vs.toArray) (hz : vs.length ≤ sizeLine) : Gathers prog w A s (.ref l) vs := fun E Q h => by
  obtain ⟨o, ho, hc, n, hd⟩ := id hl
  have hq := h ((s.heap.push (seqObj "list" #[] 0)).update s.heap.objs.size (Obj.mapSeq (· ++ vs.toArray))) s.toks kept_upd_new
  unfold collect
  refine wpAny_bind (wpAny_runValue (codeAny_builtin entry_proto_collect' ?_))
  show wpAny _ _ (newList [] >>= fun x => again (.builtin "list.__iadd__" ⟨[x, .ref l], []⟩)) _ _ s
  refine wpAny_bind (wpAny_newList (wpAny_pure ⟨Code.quiet_builtin _ (by decide +kernel), codeAny_builtin entry_list_iadd' ?_⟩))
  show wpAny _ _ (Builtin.List.listExtendWith (.ref s.heap.objs.size) (.ref l) (.ref s.heap.objs.size)) _ _ { s with heap := s.heap.push (seqObj "list" #[] 0) }
  unfold Builtin.List.listExtendWith
  have ho' : (s.heap.push (seqObj "list" #[] 0)).get? l = some o := Heap.get?_push_of_some _ ho
  refine wpAny_bind (wpAny_typeOf (T := "tuple") ⟨o, ho', hc⟩ ?_)
  have ht : (Value.type "tuple" == Value.type "tuple") = true := by rfl
  rw [if_pos (by rw [ht]; simp)]
  refine wpAny_bind (listItems_at ho' hd ?_)
  refine wpAny_bind (listItems_at (xs := #[]) (n := 0) (Heap.get?_push_size _ rfl) rfl ?_)
  rw [if_neg (by simp)]
  refine wpAny_bind (listUpdate_at (xs := #[]) (n := 0) (Heap.get?_push_size _ rfl) rfl ?_ (Nat.zero_le _) (by show (#[] ++ vs.toArray).size ≤ sizeLine + 1; simp only [Array.size_append, List.size_toArray, List.length_nil]; omega))
  refine wpAny_pure ?_
  show wpAny (model prog w) A (load s.heap.objs.size >>= fun o => match o.data with | .seq xs _ => pure xs.toList | _ => unsupported "internal:collect") Q E { s with heap := (s.heap.push (seqObj "list" #[] 0)).update s.heap.objs.size (Obj.mapSeq (· ++ vs.toArray)) }
  refine wpAny_bind (wpAny_load (get?_update_seq (Heap.get?_push_size _ rfl) _) ?_)
  show wpAny _ _ (pure ((#[] : Array Value) ++ vs.toArray).toList) Q E _
  rw [show ((#[] : Array Value) ++ vs.toArray).toList = vs by simp]
  exact wpAny_pure hq
/-- the keys of a dict -/
theorem Gathers.dict {X : Cx} {pins : List (Addr × Obj)} {σ : L2.St} {H : Hp} (I : Inv X pins σ H s) (hc : X.calm = true) {d : Addr} {es : List (List Key × V)} (hd : Rd H d (.dT es)) : ∃ bs : List Addr, IsKeys H es bs ∧ Gathers X.prog X.w X.A.in1 s (.ref d) (bs.map Value.ref) := by
  obtain ⟨z, hs, ks, pr, o, en, ep, ho, hx, hdt, he, hn⟩ := (show ObjOk X.prog X.w H s.heap d (.dT es) from hd.ok I.hok)
  have l1 : en.size = ks.length := size_of_entries he
  have l2 : es.length = ks.length := Paired.length pr
  refine ⟨ks.map fun x => x.2.1, isKeys_of pr, fun E Q h => ?_⟩
  refine PySem.W.kdu_collect (kdl_raw hs hx hdt) (show X.A.in1.handled = none from I.ok.hd hc) ho (by omega) fun h' tk acc kp it => ?_
  have ea : acc.toList = (ks.map fun x => x.2.1).map Value.ref := by
    have hl : acc.toList.length = ks.length := by rw [Array.length_toList, it.1]; exact l1
    apply List.ext_getElem?
    intro j
    rw [List.getElem?_map, List.getElem?_map]
    cases hj : acc.toList[j]? with
    | none =>
      have h1 := List.getElem?_eq_none_iff.mp hj
      rw [List.getElem?_eq_none (by omega)]
      rfl
    | some v =>
      obtain ⟨e1, hen, hv⟩ := it.2 j v (by rw [← Array.getElem?_toList]; exact hj)
      have qe := entry_at he j
      rw [hen] at qe
      cases hb : ks[j]? with
      | none => rw [hb] at qe; cases qe
      | some b =>
        rw [hb] at qe
        have e2 : e1 = entryOfKey (tupleKind (mixKind X.prog X.w)) b := Option.some.inj qe
        rw [hv, e2]
        rfl
  rw [ea]
  exact h h' tk kp
theorem each_of {α : Type} {R : Value → α → Prop} : ∀ {vs : List Value} {bs : List α}, Paired R vs bs → PySem.W.EachIs R vs bs
  | _, _, .nil => .nil
  | _, _, .cons a b => .cons a (each_of b)
theorem of_each {α : Type} {R : Value → α → Prop} : ∀ {vs : List Value} {bs : List α}, PySem.W.EachIs R vs bs → Paired R vs bs
  | _, _, .nil => .nil
  | _, _, .cons a b => .cons a (of_each b)
theorem readsAll_each {h : Heap} : ∀ {vs : List Value} {ds : List D} {as : List Addr}, ReadsAll h vs ds as → PySem.W.EachIs (fun v d => ∃ bs, Reads h v d bs ∧ ∀ b ∈ bs, b ∈ as) vs ds
  | _, _, _, .nil => .nil
  | _, _, _, .cons (as := as) (bs := bs) a b => .cons ⟨_, a, fun _ h => List.mem_append_left _ h⟩ ((readsAll_each b).mono fun _ _ ⟨cs, q, m⟩ => ⟨cs, q, fun x hx => List.mem_append_right _ (m x hx)⟩)
/-- the addresses that a reading names stand in the heap -/
theorem reads_there {h : Heap} : (∀ (d : D) (v : Value) (as : List Addr), Reads h v d as → ∀ a ∈ as, ∃ o, h.get? a = some o) ∧ ∀ (ds : List D) (vs : List Value) (as : List Addr), ReadsAll h vs ds as → ∀ a ∈ as, ∃ o, h.get? a = some o := by
  suffices H : ∀ n, (∀ (d : D) (v : Value) (as : List Addr), sizeOf d ≤ n → Reads h v d as → ∀ a ∈ as, ∃ o, h.get? a = some o) ∧ ∀ (ds : List D) (vs : List Value) (as : List Addr), sizeOf ds ≤ n → ReadsAll h vs ds as → ∀ a ∈ as, ∃ o, h.get? a = some o from
    ⟨fun d v as r => (H (sizeOf d)).1 d v as (Nat.le_refl _) r, fun d v as r => (H (sizeOf d)).2 d v as (Nat.le_refl _) r⟩
  intro n
  induction n with
  | zero => exact ⟨fun d v as hz => by cases d <;> simp at hz <;> omega, fun ds vs as hz => by cases ds <;> simp at hz <;> omega⟩
  | succ n ih =>
    refine ⟨fun d v as hz r a ha => ?_, fun ds vs as hz r a ha => ?_⟩
    · cases r with
      | list h1 h2 h3 h4 =>
        rcases List.mem_cons.mp ha with rfl | ha
        · exact ⟨_, h1⟩
        · exact ih.2 _ _ _ (by simp at hz; omega) h4 a ha
      | tuple h1 h2 h3 h4 => exact ih.2 _ _ _ (by simp at hz; omega) h4 a ha
      | dict h1 h2 h3 h4 h5 =>
        rename_i kvs _ _
        have key : ∀ (f : D × D → D), (∀ p, sizeOf (f p) ≤ sizeOf p) → ∀ l : List (D × D), sizeOf (l.map f) ≤ sizeOf l := fun f hf l => by
          induction l with
          | nil => simp
          | cons p l ih => have := hf p; simp; omega
        have k1 := key (fun x => x.1) (fun p => by obtain ⟨x, y⟩ := p; show sizeOf x ≤ _; rw [Prod.mk.sizeOf_spec]; omega) kvs
        have k2 := key (fun x => x.2) (fun p => by obtain ⟨x, y⟩ := p; show sizeOf y ≤ _; rw [Prod.mk.sizeOf_spec]; omega) kvs
        have hz : sizeOf kvs ≤ n := by simp at hz; omega
        rcases List.mem_append.mp ha with ha | ha
        · rcases List.mem_cons.mp ha with rfl | ha
          · exact ⟨_, h1⟩
          · exact ih.2 _ _ _ (Nat.le_trans k1 hz) h4 a ha
        · exact ih.2 _ _ _ (Nat.le_trans k2 hz) h5 a ha
      | _ => cases ha
    · cases r with
      | nil => cases ha
      | cons r1 r2 =>
        simp at hz
        rcases List.mem_append.mp ha with ha | ha
        · exact ih.1 _ _ _ (by omega) r1 a ha
        · exact ih.2 _ _ _ (by omega) r2 a ha
/-- sorted(r): a new list of the items in their order -/
theorem sorted_gather {r : Value} {vs : List Value} {ds : List D} {as : List Addr} {R : Value → D → Prop} {Q : Value → Shared → Prop} (G : Gathers prog w A.in1 s r vs) (e : PySem.W.EachIs R vs ds) (er : ReadsAll s.heap vs ds as)
    (hal : PySem.W.AllAlike ds) (hk : PySem.W.Sortable ds) (hL : ds.length ≤ sizeLine) (hu : ∀ b, b ∈ ds → A.units + 2 + b.depth < cLine)
    (h : ∀ (h1 h' : Heap) tk out n, (∀ b o, s.heap.get? b = some o → h1.get? b = some o) → (∀ b o, h1.get? b = some o → h'.get? b = some o) → h'.get? h1.objs.size = some (seqObj "list" (List.toArray out) n) → out.length = ds.length → PySem.W.EachIs R out (ds.mergeSort (PySem.W.dataLe false id)) → Q (.ref h1.objs.size) { s with heap := h', toks := tk }) :
    wpAny (model prog w) A (call (.builtin "sorted") [r]) Q E s := by
  have hlen : vs.length = ds.length := e.length
  refine PySem.Calls.call_function_entry kind_sorted plain_sorted entry_sorted (args_sorted1 _) ?_
  unfold Builtin.«sorted»
  refine wpAny_bind (m := checkCount "sorted" 1 1 _) (wpAny_pure ?_)
  refine wpAny_bind (G _ _ fun h1 tk k1 => ?_)
  refine wpAny_bind (wpAny_newList ?_ (by rw [hlen]; exact hL))
  have hat : (h1.push (seqObj "list" vs.toArray 0)).get? h1.objs.size = some (seqObj "list" vs.toArray 0) := Heap.get?_push_size _ rfl
  have kp : ∀ b o, s.heap.get? b = some o → (h1.push (seqObj "list" vs.toArray 0)).get? b = some o := fun b o q => Heap.get?_push_of_some _ (k1 b o q)
  have srt := PySem.W.list_sort_data (prog := prog) (w := w) (A := A.in1) (E := E) (s := { s with heap := h1.push (seqObj "list" vs.toArray 0), toks := tk }) (a := h1.objs.size) (n := 0) (vs := vs) (bs := ds) (enc := id) (R := R)
    (Q := fun v s' => v = .none ∧ Q (.ref h1.objs.size) s') hat e
    ((readsAll_each er).mono fun v d ⟨bs, q, m⟩ => ⟨bs, PyProof.Rows.Reads.keeps kp q, fun hm => by
      obtain ⟨o, ho⟩ := reads_there.2 _ _ _ er _ (m _ hm)
      exact absurd (Heap.lt_size (k1 _ _ ho)) (Nat.lt_irrefl _)⟩)
    (by rw [List.map_id]; exact hal) (by rw [List.map_id]; exact hk) hL (fun b hb => by have := hu b hb; show A.units + 1 + 1 + b.depth < cLine; omega)
    (fun out hl ho => ⟨rfl, by
      obtain ⟨c, hc⟩ := sortedHeap_at (vs := vs) (out := out.toArray) hat
      refine h h1 _ tk out c k1 (fun b o q => ?_) hc hl ho
      exact (sortedHeap_old (Nat.ne_of_lt (Heap.lt_size q)) (Heap.lt_size (Heap.get?_push_of_some _ q))).trans (Heap.get?_push_of_some _ q)⟩)
  refine wpAny_bind (wpAny_holding (wpAny_mono srt (fun v s' x => ?_) fun _ _ e => e))
  obtain ⟨rfl, x⟩ := x
  exact wpAny_pure ⟨_, rfl, x⟩
end

/-! ### as an operation of the machine -/
def alikeAllB (ds : List D) : Bool := ds.all fun d => ds.all fun e => PySem.W.alike d e
def sortableB (ds : List D) : Bool := (ds.all fun d => match d with | .tuple (_ :: _) => true | _ => false) || ds.all fun d => match d with | .none => false | .tuple _ => false | _ => true
/-- Python's order -/
def sortD (ds : List D) : List D := ds.mergeSort (PySem.W.dataLe false id)
theorem alikeAll_of {ds : List D} (h : alikeAllB ds = true) : PySem.W.AllAlike ds := by
  intro d hd e he
  exact List.all_eq_true.mp (List.all_eq_true.mp h d hd) e he
theorem sortable_of {ds : List D} (h : sortableB ds = true) : PySem.W.Sortable ds := by
  unfold sortableB at h
  rcases Bool.or_eq_true_iff.mp h with h | h
  · refine .inl fun d hd => ?_
    have q := List.all_eq_true.mp h d hd
    split at q
    · exact ⟨_, _, rfl⟩
    · cases q
  · refine .inr fun d hd => ?_
    have q := List.all_eq_true.mp h d hd
    refine ⟨?_, fun xs => ?_⟩
    · rintro rfl; cases q
    · rintro rfl; cases q
/-- what is sorted: the items of a list, a tuple, the keys of a dict -/
def srcOf (st : Sto) : R → Option (List D)
  | .dat (.tuple ds) => some ds
  | .dat (.dict kvs) => some (kvs.map (·.1))
  | r => (lstOf st r).bind datsOf
def semSorted (live : Bool) (rs : List R) (st : Sto) : Out R := match rs with
  | [r] => match srcOf st r with
    | some ds => if (alikeAllB ds && sortableB ds && okDs ds && decide (ds.length ≤ sizeLine) && ds.all fun d => decide (d.depth ≤ 64)) = true then mkL live ((sortD ds).map R.dat) st else .stk
    | none => .stk
  | _ => .stk
abbrev SemC := List R → Sto → Out R
def rSemC (P : Pm) (sem : SemC) : List V → Hp → VK → Prop := fun vs H Q => ∃ F ι st rs E, Sm P F ι st H ∧ RRs P F ι rs vs ∧ Post P E F ι H (sem rs st) (Ret P Q)
abbrev OpC (X : Cx) (P : Pm) (f : Value) (sem : SemC) : Prop := CallR X f (rSemC P sem)
theorem rd_pair {F : Hp} : ∀ {ds : List D} {vs : List V} {us : List Value}, RDs F ds vs → Vals vs us → Paired (fun (u : Value) (d : D) => ∃ v, RelV v u ∧ RD F d v) us ds
  | [], _, _, h, r => by simp only [RDs] at h; subst h; cases r; exact .nil
  | d :: ds, _, _, h, r => by
    simp only [RDs] at h
    obtain ⟨v, vs, rfl, h1, h2⟩ := h
    cases r with
    | cons r1 r2 => exact .cons ⟨v, r1, h1⟩ (rd_pair h2 r2)
theorem pair_rd {F : Hp} : ∀ {ds : List D} {us : List Value}, Paired (fun (u : Value) (d : D) => ∃ v, RelV v u ∧ RD F d v) us ds → ∃ vs, RDs F ds vs ∧ Vals vs us
  | _, _, .nil => ⟨[], by simp only [RDs], .nil⟩
  | _, _, .cons ⟨v, r1, h1⟩ t => by
    obtain ⟨vs, a, b⟩ := pair_rd t
    exact ⟨v :: vs, .cons h1 a, .cons r1 b⟩
section
variable {X : Cx} {P : Pm}
theorem o_sorted (hb : Sys X) (hu : X.A.units + 80 < cLine) (hc : X.calm = true) (live : Bool) : OpC X P (.builtin "sorted") (semSorted live) := by
  rintro pins s σ H xs us Q I r ⟨F, ι, st, rs, E, S, hr, h⟩
  have hs := hb.none I
  unfold semSorted at h
  split at h
  · rename_i x
    cases hr with
    | cons h1 hn =>
      cases hn
      obtain ⟨u, rfl, rx⟩ := r.one
      split at h
      · rename_i ds e
        split at h
        · rename_i c
          simp only [Bool.and_eq_true, decide_eq_true_eq] at c
          obtain ⟨⟨⟨⟨c1, c2⟩, c3⟩, c4⟩, c5⟩ := c
          -- the end, once the items are there
          have fin : ∀ (F' : Hp) (vs : List V) (its : List Value), Sm P F' ι st H → Up F ι H F' ι H → RDs F' ds vs → Vals vs its → Gathers X.prog X.w X.A.in1 s u its → wpAny (model X.prog X.w) X.A (call (.builtin "sorted") [u]) (EP X pins σ Q) X.xe s := by
            intro F' vs its S' U hd hv G
            obtain ⟨as, hra, _⟩ := RDs.reads I hs S'.le ds vs its c3 hd hv
            refine sorted_gather G (each_of (rd_pair hd hv)) hra (alikeAll_of c1) (sortable_of c2) c4 (fun b hb => ?_) fun g1 g2 tk out n k1 k2 hat hl ho => ?_
            · have := of_decide_eq_true (List.all_eq_true.mp c5 b hb)
              omega
            · obtain ⟨ws, hw, hv2⟩ := pair_rd (of_each ho)
              have I1 : Inv X pins σ H { s with heap := g1, toks := tk } := I.kept k1
              have hp : H g1.objs.size = none := I1.hok.fresh (Nat.le_refl _)
              have hlw : ws.length ≤ sizeLine := by
                have a1 := hv2.length
                rw [a1, hl]; exact c4
              refine ⟨.ref g1.objs.size, _, I1.laid (o := .lst ws) (h' := g2) (t' := tk) k2 (Nat.le_refl _) ⟨hlw, out, n, hv2, hat⟩, rfl, ?_⟩
              exact Post.mkL (Post.up h U) S' hp (RDs.rrs _ _ hw)
          unfold srcOf at e
          split at e
          · cases e
            obtain ⟨a, vs, rfl, q1, d1⟩ := S.tupR rfl h1
            cases rx
            obtain ⟨its, rv, pl, hz⟩ := I.tuple (SqT.of q1)
            have hl := rv.length
            exact fin F vs its S .refl d1 rv (Gathers.tuple pl (by omega))
          · rename_i kvs
            cases e
            simp only [RR, RD] at h1
            obtain ⟨a, es, rfl, e2, hk⟩ := h1
            cases rx
            obtain ⟨bs, ik, G⟩ := Gathers.dict I hc (S.le _ _ e2).rd
            obtain ⟨F2, u2, s2, r2⟩ := S.keyData ik
            rw [← rdt_keys hk] at r2
            exact fin F2 _ _ s2 u2 r2 (vals_refs _) G
          · obtain ⟨rs', e1, e2⟩ := Option.bind_eq_some_iff.mp e
            obtain ⟨a, vs, rfl, q1, d1⟩ := S.lstR e1 h1
            rw [datsOf_eq e2] at d1
            cases rx
            obtain ⟨its, rv, pl, hz⟩ := I.list (.inl q1)
            have hl := rv.length
            exact fin F vs its S .refl (RDs.of_rrs _ _ d1) rv (Gathers.list pl.isList (by omega))
        · exact h.elim
      · exact h.elim
  · exact h.elim
end
end Mp
end
section
set_option Elab.async false
set_option linter.all false
set_option maxRecDepth 100000
set_option autoImplicit false
/-! Indexing, slices, turned-about copies. -/
namespace Mp
open PySem PySem.Spec PyProof.Rows L2

/-! ### a tuple turned about, at the library's level -/
section
variable {prog : Program} {w : World} {A : Around} {E : Value → Shared → Prop} {s : Shared}
theorem rev_adjust (n : Nat) : Builtin.Slice.sliceAdjust none none (-1) (n : Int) = ((n : Int) - 1, -1) := rfl
theorem rev_places (n : Nat) : Builtin.Slice.slicePlaces ((n : Int) - 1) (-1) (-1) = n := by
  unfold Builtin.Slice.slicePlaces
  have h1 : ¬ ((-1 : Int) > 0) := by omega
  simp only [h1, if_false]
  have e : ((n : Int) - 1 - -1 - 1) / - -1 = (n : Int) - 1 := by
    rw [show (- -1 : Int) = 1 by decide, Int.ediv_one]
    omega
  rw [e]
  split <;> omega
theorem filterMap_eq {α β : Type} {f g : α → Option β} : ∀ {l : List α}, (∀ a ∈ l, f a = g a) → l.filterMap f = l.filterMap g
  | [], _ => rfl
  | a :: l, h => by
    rw [List.filterMap_cons, List.filterMap_cons, h a (List.mem_cons_self ..), filterMap_eq fun b hb => h b (List.mem_cons_of_mem _ hb)]
theorem range_get {α : Type} : ∀ (l : List α), (List.range l.length).filterMap (fun m => l[m]?) = l
  | [] => rfl
  | a :: l => by
    rw [List.length_cons, List.range_succ_eq_map, List.filterMap_cons, List.filterMap_map]
    show a :: _ = _
    congr 1
    exact range_get l
theorem rev_pick (xs : Array Value) : ((List.range xs.size).filterMap fun (m : Nat) => xs[(((xs.size : Int) - 1) + (m : Int) * (-1)).toNat]?).toArray = xs.toList.reverse.toArray := by
  have key : ∀ (ys : List Value), ((List.range ys.length).filterMap fun (m : Nat) => ys[(((ys.length : Int) - 1) + (m : Int) * (-1)).toNat]?) = ys.reverse := by
    intro ys
    have e1 : ((List.range ys.length).filterMap fun (m : Nat) => ys[(((ys.length : Int) - 1) + (m : Int) * (-1)).toNat]?) = ((List.range ys.length).filterMap fun (m : Nat) => ys.reverse[m]?) := by
      apply filterMap_eq
      intro m hm
      have hm := List.mem_range.mp hm
      rw [List.getElem?_reverse hm]
      congr 1
      omega
    rw [e1]
    have := range_get ys.reverse
    rw [List.length_reverse] at this
    exact this
  have := key xs.toList
  rw [Array.length_toList] at this
  simp only [Array.getElem?_toList] at this
  rw [this]
theorem rev_applied {sl : Addr} {vs : Value} {n : Nat} {Q : Int × Int × Nat → Shared → Prop} (hs : s.heap.IsSliceOf sl .none .none vs) (ps : IsPart vs (some (-1)))
    (h : Q ((n : Int) - 1, -1, n) s) : wpAny (model prog w) A (Builtin.Slice.sliceApplied (.ref sl) (pure (n : Int))) Q E s := by
  obtain ⟨os, hos, hcs, hds⟩ := id hs
  unfold Builtin.Slice.sliceApplied Builtin.Slice.sliceFields
  refine wpAny_bind (wpAny_bind (wpAny_field hos hds (x := .none) rfl (wpAny_bind (wpAny_field hos hds (x := .none) rfl (wpAny_bind (wpAny_field hos hds (x := vs) rfl (wpAny_pure ?_)))))))
  refine wpAny_bind (HT.slicePart_ ps ?_)
  show wpAny _ _ (if ((-1 : Int) == 0) = true then _ else _) _ _ s
  rw [if_neg (by decide)]
  refine wpAny_bind (PyProof.Rows.slicePart_none (wpAny_bind (PyProof.Rows.slicePart_none (wpAny_bind (wpAny_pure ?_)))))
  show wpAny _ _ (match Builtin.Slice.sliceAdjust none none (-1) (n : Int) with | (lo, hi) => pure (lo, (-1 : Int), Builtin.Slice.slicePlaces lo hi (-1))) _ _ s
  rw [rev_adjust]
  show wpAny _ _ (pure ((n : Int) - 1, (-1 : Int), Builtin.Slice.slicePlaces ((n : Int) - 1) (-1) (-1))) _ _ s
  rw [rev_places]
  exact wpAny_pure h
theorem getItem_tuple_rev {t sl : Addr} {items : Array Value} {vs : Value} {Q : Value → Shared → Prop} (ht : IsTup s.heap t items) (hs : s.heap.IsSliceOf sl .none .none vs) (ps : IsPart vs (some (-1)))
    (h : Q (.ref s.heap.objs.size) { s with heap := s.heap.push { cls := .type "tuple", data := .seq items.toList.reverse.toArray } })
    (hsz : items.size ≤ sizeLine) : wpAny (model prog w) A (getItem (.ref t) (.ref sl)) Q E s := by
  have htake : sizeOk (.seq items.toList.reverse.toArray) := by
    show items.toList.reverse.toArray.size ≤ sizeLine
    rw [List.size_toArray, List.length_reverse, Array.length_toList]
    exact hsz
  obtain ⟨os, hos, hcs, hds⟩ := id hs
  have hTs : s.TypeIs (.ref sl) "slice" := ⟨os, hos, hcs⟩
  unfold getItem
  try with_reducible refine wpAny_holding ?_
  first | refine wpAny_bind (wpAny_pure ?_) | skip
  refine wpAny_bind (wpAny_sequenceKey ht.typeIs (by decide) ?_)
  refine wpAny_bind (wpAny_callSpecial?_slot (name := Str.ofString "__getitem__") ht.typeIs PyProof.Rows.slot_tuple_getitem
    (wpAny_call_entry PyProof.Rows.slot_tuple_getitem ht.typeIs entry_tuple_getitem ?_ (args_tuple_getitem _ _)))
  show wpAny _ _ (Builtin.Tuple.tupleItemsOf (.ref t) >>= _) _ _ s
  refine wpAny_bind (tupleItemsOf_ ht ?_)
  refine wpAny_bind (wpAny_typeOf hTs ?_)
  rw [if_pos (by decide)]
  refine wpAny_bind (rev_applied hs ps ?_)
  have hno : ¬ (((((items.size : Int) - 1)) == 0 && (-1 : Int) == 1 && items.size == items.size) = true) := by
    intro q
    rw [Bool.and_eq_true, Bool.and_eq_true] at q
    exact absurd q.1.2 (by decide)
  show wpAny _ _ (if ((((items.size : Int) - 1)) == 0 && (-1 : Int) == 1 && items.size == items.size) = true then _ else _) _ _ s
  rw [if_neg hno, rev_pick]
  first
    | exact wpAny_bind (m := Builtin.Tuple.tupleExact _) (wpAny_newObj_type (wpAny_pure ⟨_, rfl, wpAny_pure h⟩) htake)
    | exact wpAny_bind (m := Builtin.Tuple.tupleExact _) (wpAny_newObj_type (wpAny_bind (wpAny_pure (wpAny_pure ⟨_, rfl, wpAny_pure h⟩))) htake)
    | exact wpAny_bind (wpAny_bind (m := Builtin.Tuple.tupleExact _) (wpAny_newObj_type (wpAny_pure (wpAny_pure ⟨_, rfl, wpAny_pure h⟩)) htake))
    | exact wpAny_bind (wpAny_bind (m := Builtin.Tuple.tupleExact _) (wpAny_newObj_type (wpAny_pure ⟨_, rfl, wpAny_pure h⟩) htake))
end

/-! ### the hand rule: e[::-1] of a list or a tuple -/
def tRevA (K : PySem.W.Frag) (te : TE) : TE := fun σ H Q => te σ H fun x H1 => ∃ a xs, x = .ref a ∧ ((SqL K H1 a xs ∧ ∀ p, H1 p = none → Q (.ref p) (upd H1 p (.lst xs.reverse))) ∨ (SqT K H1 a xs ∧ ∀ p, H1 p = none → Q (.ref p) (upd H1 p (.tup xs.reverse))))
theorem pe_revA {X : Cx} {e : Expr} {te : TE} {k : Nat} {p1 p2 p3 pos : Pos} (he : PE X e te) : PE X (.Subscript e (.Slice none none (some (.UnaryOp .USub (.Constant (.int 1) k p1) p2)) p3) pos) (tRevA X.K te) := by
  refine ⟨fun pins s σ H Q I h => ?_⟩
  refine Subscript_ (thn (he.run pins s σ H _ I h) fun v s1 ⟨x, H1, I1, r1, q1⟩ => ?_)
  obtain ⟨a, xs, ex, q⟩ := q1
  subst ex
  cases r1
  have hst : PO X (some (.UnaryOp .USub (.Constant (.int 1) k p1) p2)) (tPart (tUn (rU fun i => .int (-i)) (tC (.int 1)))) := po_some (pe_un un_neg pe_int)
  refine wpAny_Slice (thn (po_none.run pins s1 σ H1 (fun o H2 => o = none ∧ H2 = H1) I1 ⟨rfl, rfl⟩) fun vl s2 ⟨l, H2, I2, pl, el, e2⟩ => ?_)
  subst el e2
  refine thn (po_none.run pins s2 σ H2 (fun o H3 => o = none ∧ H3 = H2) I2 ⟨rfl, rfl⟩) fun vu s3 ⟨u, H3, I3, pu, eu, e3⟩ => ?_
  subst eu e3
  refine thn (hst.run pins s3 σ H3 (fun o H4 => o = some (-1) ∧ H4 = H3) I3 ⟨1, rfl, -1, rfl, rfl, rfl⟩) fun vs s4 ⟨o, H4, I4, ps, eo, e4⟩ => ?_
  subst eo e4
  have I5 : Inv X pins σ H4 { s4 with heap := s4.heap.push { cls := .type "slice", data := .fields #[vl, vu, vs] } } := I4.kept (t' := s4.toks) fun b ob q => Heap.get?_push_of_some _ q
  have el : vl = .none := by cases pl; rfl
  have eu : vu = .none := by cases pu; rfl
  subst el eu
  show wpAny (model X.prog X.w) X.A (subscriptTail e (.Slice none none (some (.UnaryOp .USub (.Constant (.int 1) k p1) p2)) p3) (.ref a) (.ref s4.heap.objs.size)) (EP X pins σ Q) X.xe { s4 with heap := s4.heap.push { cls := .type "slice", data := .fields #[.none, .none, vs] } }
  rcases q with ⟨hx, q⟩ | ⟨hx, q⟩
  · obtain ⟨its, r, ht, hz⟩ := I5.list hx
    have hlen := r.length
    refine tail_any (ops := [.ref a, .ref s4.heap.objs.size]) ht.isList.typeIs (PySem.slot_list_getitem.lookup) ?_ (by with_unfolding_all rfl)
    refine wpAny_getItem_list_slice ht.isList (Heap.IsSliceOf.new _ .none .none vs) pl pu ps (by decide) ?_ (by rw [List.size_toArray]; omega)
    rw [PySem.W.krv_pick]
    refine ⟨.ref _, _, I5.laid (t' := s4.toks) (o := .lst xs.reverse) (fun b ob q => Heap.get?_push_of_some _ q) (Nat.le_refl _) ?_, rfl, q _ (I5.hok.fresh (Nat.le_refl _))⟩
    exact ⟨by rw [List.length_reverse]; exact hz, _, 0, r.reverse, Heap.get?_push_size _ rfl⟩
  · obtain ⟨its, r, ht, hz⟩ := I5.tuple hx
    have hlen := r.length
    refine tail_any (ops := [.ref a, .ref s4.heap.objs.size]) ht.typeIs (PyProof.Rows.slot_tuple_getitem.lookup) ?_ (by with_unfolding_all rfl)
    refine getItem_tuple_rev ht (Heap.IsSliceOf.new _ .none .none vs) ps ?_ (by rw [List.size_toArray]; omega)
    refine ⟨.ref _, _, I5.laid (t' := s4.toks) (o := .tup xs.reverse) (fun b ob q => Heap.get?_push_of_some _ q) (Nat.le_refl _) ?_, rfl, q _ (I5.hok.fresh (Nat.le_refl _))⟩
    exact ⟨by rw [List.length_reverse]; exact hz, _, r.reverse, IsTup.new _ _⟩

/-! ### indices -/
def semIx : Sem2 := fun x y st => match dGet st x y with
  | some (some r) => .ok r st
  | some none => .stk
  | none => match y with
    | .dat (.int i) => match x with
      | .dat (.tuple ds) => match atI ds i with
        | some d => .ok (.dat d) st
        | none => .stk
      | .dat (.str z) => match atI z.cps.toList i with
        | some c => if z.length ≤ sizeLine then .ok (.dat (.str ⟨#[c]⟩)) st else .stk
        | none => .stk
      | _ => match (lstOf st x).bind fun rs => atI rs i with
        | some r => .ok r st
        | none => .stk
    | _ => .stk
section
variable {X : Cx} {P : Pm}
theorem atI_rel {α β : Type} {R : α → β → Prop} {xs : List α} {ys : List β} {i : Int} {x : α} (hl : xs.length = ys.length) (hg : ∀ (j : Nat) (x : α), xs[j]? = some x → ∃ y : β, ys[j]? = some y ∧ R x y) (e : atI xs i = some x) : ∃ y, atI ys i = some y ∧ R x y := by
  unfold atI at e ⊢
  rw [← hl]
  obtain ⟨j, h1, h2⟩ := Option.bind_eq_some_iff.mp e
  obtain ⟨y, h3, h4⟩ := hg j x h2
  exact ⟨y, by rw [h1]; exact h3, h4⟩
theorem ix_dict (hu : X.A.units + 1 < cLine) : IxR X (fun x y H Q => ∃ a v, x = .ref a ∧ DGet H a y (some v) ∧ Q v H) := by
  intro value slice pins s σ H x y v u Q I rx ry h hs
  obtain ⟨a, w, rfl, g, q⟩ := h
  cases rx
  exact tail_any (dict_typeIs I g) PySem.F.slot_dict_getitem.lookup (d_getItem hu I g ry fun w' s3 I3 rw' => ⟨w, H, I3, rw', q⟩) hs
theorem o_ix (hu : X.A.units + 1 < cLine) : IxR X (rSem P semIx) := by
  have main : IxR X (fun x y H Q => (∃ a v, x = .ref a ∧ DGet H a y (some v) ∧ Q v H) ∨ rIx X.K x y H Q) := (ix_dict hu).or ix_seq
  intro value slice pins s σ H vx vy v u Q I rx ry h hs
  refine main value slice pins s σ H vx vy v u Q I rx ry ?_ hs
  obtain ⟨F, ι, st, x, y, E, S, hx, hy, h⟩ := h
  unfold semIx at h
  split at h
  · rename_i r e
    obtain ⟨a, o', rfl, g, ro⟩ := S.dget hx hy e
    cases o' with
    | none => exact ro.elim
    | some w => exact .inl ⟨a, w, rfl, g, h.val S ro⟩
  · exact h.elim
  · refine .inr ?_
    split at h
    · simp only [RR, RD] at hy
      subst hy
      rename_i i _
      split at h
      · rename_i ds
        split at h
        · rename_i d e
          obtain ⟨a, vs, rfl, q1, d1⟩ := S.tupR rfl hx
          obtain ⟨w, e2, r2⟩ := atI_rel (RDs.len _ _ d1) (fun j d e => d1.get e) e
          exact .inr (.inl ⟨a, vs, i, w, rfl, rfl, .of q1, e2, h.val S r2⟩)
        · exact h.elim
      · simp only [RR, RD] at hx
        subst hx
        rename_i z _
        split at h
        · rename_i c e
          split at h
          · rename_i hz
            exact .inr (.inr ⟨z, i, c, rfl, rfl, hz, e, h.val S rfl⟩)
          · exact h.elim
        · exact h.elim
      · split at h
        · rename_i r e
          obtain ⟨rs, e1, e2⟩ := Option.bind_eq_some_iff.mp e
          obtain ⟨a, vs, rfl, q1, d1⟩ := S.lstR e1 hx
          obtain ⟨w, e3, r2⟩ := atI_rel d1.len (fun j d e => d1.get e) e2
          exact .inl ⟨a, vs, i, w, rfl, rfl, .inl q1, e3, h.val S r2⟩
        · exact h.elim
    · exact h.elim
def mIx (a b : M) : M := mOp semIx a b
variable {W : WX} {cal : Cal} {a b : Expr} {ma mb : M} {pos : Pos}
theorem op_link {sem : Sem2} {σ : L2.St} {H : Hp} {Q : VK} (h : Td P W cal (mOp sem ma mb) (RR P) σ H Q) : tOp (rSem P sem) (TEd P W cal ma) (TEd P W cal mb) σ H Q := by
  refine h.then fun F ι ρ st H1 x vx hE hS rx h1 => ?_
  refine ⟨F, ι, ρ, st, hE, hS, (Post.bind h1).imp fun y st2 F2 ι2 H2 u2 s2 h2 vy ry => ?_⟩
  exact ⟨F2, ι2, st2, x, y, _, s2, u2.rr rx, ry, h2⟩
theorem pd_ix (hu : X.A.units + 1 < cLine) (ha : PEd X P W cal a ma) (hb : PEd X P W cal b mb) (hs : PlainIx b) : PEd X P W cal (.Subscript a b pos) (mIx ma mb) :=
  pe_weak (pe_ix (o_ix hu) ha hb hs) fun σ H Q h => op_link h

/-! ### slices -/
def cutL {α : Type} (xs : List α) (lo hi : Option Int) : List α := (xs.drop (HT.sIx xs.length 0 lo)).take (HT.sIx xs.length xs.length hi - HT.sIx xs.length 0 lo)
theorem cutL_rds {F : Hp} {ds : List D} {vs : List V} (h : RDs F ds vs) (lo hi : Option Int) : RDs F (cutL ds lo hi) (cutV vs lo hi) := by
  unfold cutL cutV
  rw [← RDs.len _ _ h]
  exact (h.drop _).take _
theorem cutL_rrs {F : Hp} {ι : List Addr} {ds : List R} {vs : List V} (h : RRs P F ι ds vs) (lo hi : Option Int) : RRs P F ι (cutL ds lo hi) (cutV vs lo hi) := by
  unfold cutL cutV
  rw [← h.len]
  exact (h.drop _).take _
def semSl (live : Bool) (x : R) (lo hi : Option Int) (st : Sto) : Out R := match x with
  | .dat (.tuple ds) => .ok (.dat (.tuple (cutL ds lo hi))) st
  | .dat (.str z) => if z.length ≤ sizeLine then .ok (.dat (.str (cutS z lo hi))) st else .stk
  | x => match lstOf st x with
    | some rs => mkL live (cutL rs lo hi) st
    | none => .stk
def rSl (P : Pm) (live : Bool) : V → Option Int → Option Int → Hp → VK → Prop := fun vx lo hi H Q => ∃ F ι st x E, Sm P F ι st H ∧ RR P F ι x vx ∧ Post P E F ι H (semSl live x lo hi st) (Ret P Q)
theorem o_sl (live : Bool) : SlR X (rSl P live) := by
  have main := SlR.or (sl_list (X := X)) (SlR.or (sl_tupA (X := X)) (sl_str (X := X)))
  intro pins s σ H vx v vl vu lo hi sl Q I rx hs pl pu h
  refine main pins s σ H vx v vl vu lo hi sl Q I rx hs pl pu ?_
  obtain ⟨F, ι, st, x, E, S, hx, h⟩ := h
  unfold semSl at h
  split at h
  · rename_i ds
    obtain ⟨a, vs, rfl, q1, d1⟩ := S.tupR rfl hx
    refine .inr (.inl ⟨a, vs, rfl, .of q1, fun hw => ?_, fun hw p hp => h.mkTup S hp (cutL_rds d1 lo hi)⟩)
    have e : cutL ds lo hi = ds := by
      unfold cutL
      rw [RDs.len _ _ d1, hw.1, hw.2, ← RDs.len _ _ d1]
      simp
    rw [e] at h
    exact h.val S hx
  · rename_i z
    simp only [RR, RD] at hx
    subst hx
    split at h
    · rename_i hz
      exact .inr (.inr ⟨z, rfl, hz, h.val S rfl⟩)
    · exact h.elim
  · split at h
    · rename_i rs e
      obtain ⟨a, vs, rfl, q1, d1⟩ := S.lstR e hx
      exact .inl ⟨a, vs, rfl, .inl q1, fun p hp => h.mkL S hp (cutL_rrs d1 lo hi)⟩
    · exact h.elim
/-- a part of a slice -/
def mNoPart : MO' := fun _ _ st => .ok none st
def fPart (r : R) : MO' := fun _ _ st => match r with
  | .dat (.int i) => .ok (some i) st
  | _ => .stk
def mPart (m : M) : MO' := mBind m fPart
def mSl (live : Bool) (a : M) (l u : MO') : M := mBind a fun x => mBind l fun lo => mBind u fun hi _ _ st => semSl live x lo hi st
theorem pd_noPart : POd X P W cal none mNoPart := po_weak po_none fun σ H Q ⟨F, ι, ρ, st, hE, hS, hP⟩ => Post.now hP hS none rfl
theorem pd_part (ha : PEd X P W cal a ma) : POd X P W cal (some a) (mPart ma) := po_weak (po_some ha) fun σ H Q h => h.then fun F ι ρ st H1 x vx hE hS rx h1 => by
  unfold fPart at h1
  split at h1
  · rename_i i
    simp only [RR, RD] at rx
    subst rx
    exact ⟨i, rfl, Post.now h1 hS _ rfl⟩
  · exact h1.elim
variable {lo hi : Option Expr} {ml mh : MO'} {p2 : Pos}
theorem pd_sl (live : Bool) (ha : PEd X P W cal a ma) (hl : POd X P W cal lo ml) (hh : POd X P W cal hi mh) : PEd X P W cal (.Subscript a (.Slice lo hi none p2) pos) (mSl live ma ml mh) :=
  pe_weak (pe_slice (o_sl live) ha hl hh) fun σ H Q h => h.then fun F ι ρ st H1 x vx hE hS rx h1 => by
    refine ⟨F, ι, ρ, st, hE, hS, (Post.bind h1).imp fun l st2 F2 ι2 H2 u2 s2 h2 l' el => ?_⟩
    subst el
    refine ⟨F2, ι2, ρ, st2, u2.env hE, s2, (Post.bind h2).imp fun u st3 F3 ι3 H3 u3 s3 h3 u' eu => ?_⟩
    subst eu
    exact ⟨F3, ι3, st3, x, _, s3, u3.rr (u2.rr rx), h3⟩
def semRev (live : Bool) (x : R) : M := fun _ _ st => match x with
  | .dat (.tuple ds) => .ok (.dat (.tuple ds.reverse)) st
  | x => match lstOf st x with
    | some rs => mkL live rs.reverse st
    | none => .stk
def mRev (live : Bool) (m : M) : M := mBind m (semRev live)
theorem RRs.rev {F : Hp} {ι : List Addr} {rs : List R} {vs : List V} (h : RRs P F ι rs vs) : RRs P F ι rs.reverse vs.reverse := by
  induction h with
  | nil => exact .nil
  | cons a _ ih => rw [List.reverse_cons, List.reverse_cons]; exact RRs.app ih (.cons a .nil)
theorem pd_rev {k : Nat} {p1 p2 p3 : Pos} (live : Bool) (ha : PEd X P W cal a ma) : PEd X P W cal (.Subscript a (.Slice none none (some (.UnaryOp .USub (.Constant (.int 1) k p1) p2)) p3) pos) (mRev live ma) :=
  pe_weak (pe_revA ha) fun σ H Q h => h.then fun F ι ρ st H1 x vx hE S hx h => by
    unfold semRev at h
    split at h
    · rename_i ds
      obtain ⟨a, vs, rfl, q1, d1⟩ := S.tupR rfl hx
      exact ⟨a, vs, rfl, .inr ⟨.of q1, fun p hp => h.mkTup S hp d1.rev⟩⟩
    · split at h
      · rename_i rs e
        obtain ⟨a, vs, rfl, q1, d1⟩ := S.lstR e hx
        exact ⟨a, vs, rfl, .inl ⟨.inl q1, fun p hp => h.mkL S hp d1.rev⟩⟩
      · exact h.elim
end
end Mp
end
section
set_option Elab.async false
set_option linter.all false
set_option maxRecDepth 100000
set_option autoImplicit false
/-! Calls of built-ins by name; methods of lists. -/
namespace Mp
open PySem PySem.Spec PyProof.Rows L2

def fCall (sem : SemC) (rs : List R) : M := fun _ _ st => sem rs st
def mCall (sem : SemC) (ms : ML) : M := mBind ms (fCall sem)
section
variable {X : Cx} {P : Pm} {W : WX} {cal : Cal} {pos p : Pos} {e : Expr} {es : List Expr} {ms : ML} {sem : SemC} {x : Str} {id T : String}
theorem callB_link {σ : L2.St} {H : Hp} {Q : VK} (h : Td P W cal (mCall sem ms) (RR P) σ H Q) : tCB (rSemC P sem) (TAd P W cal ms) σ H Q := by
  refine h.then fun F ι ρ st H1 rs vs hE hS rr h1 => ?_
  exact ⟨F, ι, st, rs, _, hS, rr, h1⟩
theorem pd_callB (ho : OpC X P (.builtin id) sem) (hg : Gl X x) (hm : X.mg x = none) (ha : PAd X P W cal (e :: es) ms) (hv : bootBuiltins x = some (.builtin id) := by decide +kernel) (hn : x ≠ "__name__" := by decide) (hdb : (x == ("__debug__" : Str)) = false := by decide)
    (he : starEach (e :: es) X.env = (false, eval e X.env) :: starEach es X.env := by rfl) (hpl : (backTo pos (starEach es X.env)).any (·.1) = false := by rfl) : PEd X P W cal (.Call (.Name x p) (e :: es) [] pos) (mCall sem ms) :=
  pe_weak (pe_callB ho hg hm hv ha hn hdb he hpl) fun σ H Q h => callB_link h
theorem pd_callTy (ho : OpC X P (.type T) sem) (hg : Gl X x) (hm : X.mg x = none) (ha : PAd X P W cal (e :: es) ms) (hv : bootBuiltins x = some (.type T) := by decide +kernel) (hn : x ≠ "__name__" := by decide) (hdb : (x == ("__debug__" : Str)) = false := by decide)
    (he : starEach (e :: es) X.env = (false, eval e X.env) :: starEach es X.env := by rfl) (hpl : (backTo pos (starEach es X.env)).any (·.1) = false := by rfl) : PEd X P W cal (.Call (.Name x p) (e :: es) [] pos) (mCall sem ms) :=
  pe_weak (pe_callTy ho hg hm hv ha hn hdb he hpl) fun σ H Q h => callB_link h

theorem RRs.one {F : Hp} {ι : List Addr} {r : R} {vs : List V} (h : RRs P F ι [r] vs) : ∃ v, vs = [v] ∧ RR P F ι r v := by
  cases h with
  | cons a b => cases b; exact ⟨_, rfl, a⟩
theorem RRs.two {F : Hp} {ι : List Addr} {r q : R} {vs : List V} (h : RRs P F ι [r, q] vs) : ∃ v w, vs = [v, w] ∧ RR P F ι r v ∧ RR P F ι q w := by
  cases h with
  | cons a b => obtain ⟨w, rfl, c⟩ := RRs.one b; exact ⟨_, _, rfl, a, c⟩

/-! ### whole numbers -/
def semAbs : SemC := fun rs st => match rs with
  | [.dat (.int i)] => .ok (.dat (.int (if i < 0 then -i else i))) st
  | _ => .stk
def semMax2 : SemC := fun rs st => match rs with
  | [.dat (.int i), .dat (.int j)] => .ok (.dat (.int (if j > i then j else i))) st
  | _ => .stk
def semMin2 : SemC := fun rs st => match rs with
  | [.dat (.int i), .dat (.int j)] => .ok (.dat (.int (if j < i then j else i))) st
  | _ => .stk
def semInt : SemC := fun rs st => match rs with
  | [.dat (.int i)] => .ok (.dat (.int i)) st
  | [.dat (.bool b)] => .ok (.dat (.int (if b then 1 else 0))) st
  | _ => .stk
theorem o_abs : OpC X P (.builtin "abs") semAbs := by
  rintro pins s σ H xs us Q I r ⟨F, ι, st, rs, E, S, hr, h⟩
  unfold semAbs at h
  split at h
  · obtain ⟨v, rfl, h1⟩ := hr.one
    simp only [RR, RD] at h1
    subst h1
    exact call_abs pins s σ H _ us Q I r ⟨_, rfl, h.val S rfl⟩
  · exact h.elim
theorem o_max2 (hc : X.calm = true) : OpC X P (.builtin "max") semMax2 := by
  rintro pins s σ H xs us Q I r ⟨F, ι, st, rs, E, S, hr, h⟩
  unfold semMax2 at h
  split at h
  · obtain ⟨v, w, rfl, h1, h2⟩ := hr.two
    simp only [RR, RD] at h1 h2
    subst h1 h2
    exact call_max2 hc pins s σ H _ us Q I r ⟨_, _, rfl, h.val S rfl⟩
  · exact h.elim
theorem o_min2 (hc : X.calm = true) : OpC X P (.builtin "min") semMin2 := by
  rintro pins s σ H xs us Q I r ⟨F, ι, st, rs, E, S, hr, h⟩
  unfold semMin2 at h
  split at h
  · obtain ⟨v, w, rfl, h1, h2⟩ := hr.two
    simp only [RR, RD] at h1 h2
    subst h1 h2
    exact call_min2 hc pins s σ H _ us Q I r ⟨_, _, rfl, h.val S rfl⟩
  · exact h.elim
theorem o_int : OpC X P (.type "int") semInt := by
  rintro pins s σ H xs us Q I r ⟨F, ι, st, rs, E, S, hr, h⟩
  unfold semInt at h
  split at h
  · obtain ⟨v, rfl, h1⟩ := hr.one
    simp only [RR, RD] at h1
    subst h1
    exact call_int1 pins s σ H _ us Q I r (.inl ⟨_, rfl, h.val S rfl⟩)
  · obtain ⟨v, rfl, h1⟩ := hr.one
    simp only [RR, RD] at h1
    subst h1
    exact call_int1 pins s σ H _ us Q I r (.inr ⟨_, rfl, h.val S rfl⟩)
  · exact h.elim

/-! ### len -/
theorem call_len_dTr : CallR X (.builtin "len") (fun xs H Q => ∃ (p : Addr) (kvs : List (List Key × V)), xs = [.ref p] ∧ Rd H p (.dT kvs) ∧ Q (.int ((kvs.length : Nat) : Int)) H) := by
  intro pins s σ H xs us Q I r h
  obtain ⟨p, kvs, rfl, hp, q⟩ := h
  obtain ⟨u, rfl, rx⟩ := vals1 r
  obtain rfl : u = .ref p := rx
  obtain ⟨z, hd, ys, rel, dd⟩ := dt_rd I.hok hp
  have hl : kvs.length = ys.length := Paired.length rel
  refine call_len_dictH hd dd (by rw [← hl]; rw [sizeLine_eq] at z; omega) ?_
  rw [← hl]
  exact ⟨.int ((kvs.length : Nat) : Int), H, I.tok _, ⟨_, rfl⟩, q⟩
theorem call_lenDr : CallR X (.builtin "len") (fun xs H Q => ∃ a kvs, xs = [V.ref a] ∧ Rd H a (.dK kvs) ∧ Q (.int kvs.length) H) := by
  intro pins s σ H xs us Q I r h
  obtain ⟨a, kvs, rfl, ha, q⟩ := h
  obtain ⟨u, rfl, ru⟩ := vals1 r
  cases ru
  exact d_len I ha fun t s' I' => ⟨.int kvs.length, H, I', ⟨t, rfl⟩, q⟩
def lenOf (st : Sto) : R → Option Nat
  | .dat (.str z) => if z.length ≤ sizeLine then some z.length else none
  | .dat (.list ds) => some ds.length
  | .dat (.tuple ds) => some ds.length
  | .dat (.dict kvs) => some kvs.length
  | .loc n => match st[n]? with
    | some (.lst rs) => some rs.length
    | some (.lckL rs) => some rs.length
    | some (.dK kvs) => some kvs.length
    | some (.lckK kvs) => some kvs.length
    | some (.dT kvs) => some kvs.length
    | some (.lckT kvs) => some kvs.length
    | _ => none
  | _ => none
def semLen : SemC := fun rs st => match rs with
  | [r] => match lenOf st r with
    | some n => .ok (.dat (.int n)) st
    | none => .stk
  | _ => .stk
theorem rdt_len {F : Hp} : ∀ {kvs : List (D × D)} {es : List (List Key × V)}, RDt F kvs es → kvs.length = es.length
  | [], _, h => by simp only [RDt] at h; subst h; rfl
  | (k, d) :: r, _, h => by
    simp only [RDt] at h
    obtain ⟨q, v, er, rfl, _, _, h2⟩ := h
    simp [rdt_len h2]
theorem o_len : OpC X P (.builtin "len") semLen := by
  rintro pins s σ H xs us Q I r ⟨F, ι, st, rs, E, S, hr, h⟩
  unfold semLen at h
  split at h
  · rename_i x
    obtain ⟨v, rfl, h1⟩ := hr.one
    split at h
    · rename_i n e
      have fin : Q (.int n) H := h.val S rfl
      have seq : ∀ p ys, v = .ref p → (SqL X.K H p ys ∨ SqT X.K H p ys) → ys.length = n → wpAny (model X.prog X.w) X.A (call (.builtin "len") us) (EP X pins σ Q) X.xe s := fun p ys ev hq hl =>
        call_len_seq pins s σ H _ us Q I r ⟨p, ys, by rw [ev], hq, by rw [hl]; exact fin⟩
      have dk : ∀ p ys, v = .ref p → Rd H p (.dK ys) → ys.length = n → wpAny (model X.prog X.w) X.A (call (.builtin "len") us) (EP X pins σ Q) X.xe s := fun p ys ev hq hl =>
        call_lenDr pins s σ H _ us Q I r ⟨p, ys, by rw [ev], hq, by rw [hl]; exact fin⟩
      have dt : ∀ p ys, v = .ref p → Rd H p (.dT ys) → ys.length = n → wpAny (model X.prog X.w) X.A (call (.builtin "len") us) (EP X pins σ Q) X.xe s := fun p ys ev hq hl =>
        call_len_dTr pins s σ H _ us Q I r ⟨p, ys, by rw [ev], hq, by rw [hl]; exact fin⟩
      unfold lenOf at e
      split at e
      · split at e
        · rename_i z hz
          cases e
          simp only [RR, RD] at h1
          subst h1
          exact call_len_str pins s σ H _ us Q I r ⟨z, rfl, hz, fin⟩
        · cases e
      · cases e
        simp only [RR, RD] at h1
        obtain ⟨a, ys, ev, e2, hh⟩ := h1
        exact seq a ys ev (.inl (.of (S.lstF e2))) (RDs.len _ _ hh).symm
      · cases e
        simp only [RR, RD] at h1
        obtain ⟨a, ys, ev, e2, hh⟩ := h1
        exact seq a ys ev (.inr (.of (S.tupF e2))) (RDs.len _ _ hh).symm
      · cases e
        simp only [RR, RD] at h1
        obtain ⟨a, ys, ev, e2, hh⟩ := h1
        exact dt a ys ev (S.le _ _ e2).rd (rdt_len hh).symm
      · split at e
        · rename_i q e1
          cases e
          obtain ⟨a, ev, _, xs, e3, hh⟩ := S.loc e1 h1
          exact seq a xs ev (.inl (.of e3)) hh.len.symm
        · rename_i q e1
          cases e
          obtain ⟨a, ev, _, xs, e3, hh⟩ := S.loc e1 h1
          exact seq a xs ev (.inl (.inl e3)) hh.len.symm
        · rename_i q e1
          cases e
          obtain ⟨a, ev, _, xs, e3, hh⟩ := S.loc e1 h1
          exact dk a xs ev (.inl e3) (Paired.length hh).symm
        · rename_i q e1
          cases e
          obtain ⟨a, ev, _, od, xs, e3, hh⟩ := S.loc e1 h1
          exact dk a xs ev (.inr ⟨od, e3⟩) (Paired.length hh).symm
        · rename_i q e1
          cases e
          obtain ⟨a, ev, _, xs, e3, hh⟩ := S.loc e1 h1
          exact dt a xs ev (.inl e3) (Paired.length hh).symm
        · rename_i q e1
          cases e
          obtain ⟨a, ev, _, od, xs, e3, hh⟩ := S.loc e1 h1
          exact dt a xs ev (.inr ⟨od, e3⟩) (Paired.length hh).symm
        · cases e
      · cases e
    · exact h.elim
  · exact h.elim

/-! ### list, tuple -/
def chrsOf (z : Str) : List D := z.cps.toList.map fun c => .str ⟨#[c]⟩
def semList (live : Bool) : SemC := fun rs st => match rs with
  | [.dat (.tuple ds)] => mkL live (ds.map R.dat) st
  | [.dat (.str z)] => if z.length ≤ sizeLine then mkL live ((chrsOf z).map R.dat) st else .stk
  | [.dat (.dict kvs)] => mkL live (kvs.map fun x => R.dat x.1) st
  | [r] => match lstOf st r with
    | some qs => mkL live qs st
    | none => .stk
  | _ => .stk
theorem call_list_chr (hc : X.calm = true) : CallR X (.type "list") (fun xs H Q => ∃ z : Str, xs = [.str z] ∧ z.length ≤ sizeLine ∧ ∀ p, H p = none → Q (.ref p) (upd H p (.lst (z.cps.toList.map fun c => V.str ⟨#[c]⟩)))) := by
  intro pins s σ H xs us Q I r h
  obtain ⟨z, rfl, hz, q⟩ := h
  obtain ⟨u, rfl, t, rfl⟩ := vals1 r
  refine call_list_str (I.ok.hd hc) z t (fun h' tk acc' c' hk hS hi => ?_) hz
  refine ⟨.ref s.heap.objs.size, _, I.laid (o := .lst (z.cps.toList.map fun c => V.str ⟨#[c]⟩)) (h' := h') (t' := tk) hk (Nat.le_refl _) ⟨?_, acc'.toList, c', ?_, hS⟩, rfl, q _ I.fresh⟩
  · rw [List.length_map, Array.length_toList]; exact hz
  · have hs : acc'.toList.length = z.cps.toList.length := by rw [Array.length_toList, Array.length_toList]; exact hi.1
    have aux : ∀ (cs : List Nat) (vs : List Value), vs.length = cs.length → (∀ (i : Nat) (v : Value), vs[i]? = some v → ∃ (c : Nat) (t : Tok), cs[i]? = some c ∧ v = Value.str ⟨#[c]⟩ t) → Vals (cs.map fun c => V.str ⟨#[c]⟩) vs := by
      intro cs
      induction cs with
      | nil => intro vs hl _; cases vs with
        | nil => exact .nil
        | cons a b => cases hl
      | cons c cs ih => intro vs hl hh; cases vs with
        | nil => cases hl
        | cons a b =>
          obtain ⟨c', t', e1, e2⟩ := hh 0 a rfl
          cases e1
          exact .cons ⟨t', e2⟩ (ih b (Nat.succ.inj hl) fun i v e => hh (i + 1) v e)
    refine aux _ _ hs fun i v e => ?_
    have := hi.2 i v (by rw [← Array.getElem?_toList]; exact e)
    obtain ⟨c, t', e1, e2⟩ := this
    exact ⟨c, t', by rw [Array.getElem?_toList]; exact e1, e2⟩
theorem rds_chrs {F : Hp} : ∀ cs : List Nat, RDs F (cs.map fun c => PyData.str ⟨#[c]⟩) (cs.map fun c => V.str ⟨#[c]⟩)
  | [] => .nil
  | c :: cs => .cons (by simp only [RD]) (rds_chrs cs)
theorem o_list (hc : X.calm = true) (live : Bool) : OpC X P (.type "list") (semList live) := by
  rintro pins s σ H xs us Q I r ⟨F, ι, st, rs, E, S, hr, h⟩
  unfold semList at h
  split at h
  · obtain ⟨v, rfl, h1⟩ := hr.one
    obtain ⟨a, vs, rfl, q1, d1⟩ := S.tupR rfl h1
    exact call_list_of pins s σ H _ us Q I r ⟨a, vs, rfl, .inr (.of q1), fun l hl => h.mkL S hl (RDs.rrs _ _ d1)⟩
  · obtain ⟨v, rfl, h1⟩ := hr.one
    simp only [RR, RD] at h1
    subst h1
    split at h
    · rename_i hz
      exact call_list_chr hc pins s σ H _ us Q I r ⟨_, rfl, hz, fun l hl => h.mkL S hl (RDs.rrs _ _ (rds_chrs _))⟩
    · exact h.elim
  · rename_i kvs
    obtain ⟨v, rfl, h1⟩ := hr.one
    simp only [RR, RD] at h1
    obtain ⟨a, es, rfl, e2, hk⟩ := h1
    refine call_list_dT hc pins s σ H _ us Q I r ⟨a, es, rfl, (S.le _ _ e2).rd, fun p bs hp ik => ?_⟩
    obtain ⟨F2, u2, s2, r2⟩ := S.keyData ik
    rw [← rdt_keys hk] at r2
    have := RDs.rrs (P := P) (ι := ι) _ _ r2
    rw [List.map_map] at this
    exact Post.mkL (Post.up h u2) s2 hp this
  · rename_i x _ _ _
    obtain ⟨v, rfl, h1⟩ := hr.one
    split at h
    · rename_i qs e
      obtain ⟨a, vs, rfl, q1, d1⟩ := S.lstR e h1
      exact call_list_of pins s σ H _ us Q I r ⟨a, vs, rfl, .inl (.inl q1), fun l hl => h.mkL S hl d1⟩
    · exact h.elim
  · exact h.elim
def semTuple : SemC := fun rs st => match rs with
  | [.dat (.tuple ds)] => .ok (.dat (.tuple ds)) st
  | [r] => match (lstOf st r).bind datsOf with
    | some ds => .ok (.dat (.tuple ds)) st
    | none => .stk
  | _ => .stk
theorem o_tuple : OpC X P (.type "tuple") semTuple := by
  rintro pins s σ H xs us Q I r ⟨F, ι, st, rs, E, S, hr, h⟩
  unfold semTuple at h
  split at h
  · obtain ⟨v, rfl, h1⟩ := hr.one
    obtain ⟨a, vs, rfl, q1, d1⟩ := S.tupR rfl h1
    exact call_tuple_of pins s σ H _ us Q I r ⟨a, vs, rfl, .inr ⟨.of q1, h.val S h1⟩⟩
  · obtain ⟨v, rfl, h1⟩ := hr.one
    split at h
    · rename_i ds e
      obtain ⟨qs, e1, e2⟩ := Option.bind_eq_some_iff.mp e
      obtain ⟨a, vs, rfl, q1, d1⟩ := S.lstR e1 h1
      rw [datsOf_eq e2] at d1
      exact call_tuple_of pins s σ H _ us Q I r ⟨a, vs, rfl, .inl ⟨.inl q1, fun l hl => h.mkTup S hl (RDs.of_rrs _ _ d1)⟩⟩
    · exact h.elim
  · exact h.elim

/-! ### repr of a list, a tuple, a dict -/
def isRefD : D → Bool
  | .list _ => true
  | .tuple _ => true
  | .dict _ => true
  | _ => false
def semRepr : SemC := fun rs st => match rs with
  | [r] => match datOf st r with
    | some d => if (okD d && isRefD d && PyData.showable d && decide (d.shown.length ≤ sizeLine) && decide (d.depth ≤ 64)) = true then .ok (.dat (.str d.shown)) st else .stk
    | none => .stk
  | _ => .stk
theorem o_repr (hb : Sys X) (hg : X.A.guards = some []) (hu : X.A.units + 80 < cLine) : OpC X P (.builtin "repr") semRepr := by
  rintro pins s σ H xs us Q I r ⟨F, ι, st, rs, E, S, hr, h⟩
  unfold semRepr at h
  split at h
  · rename_i x
    obtain ⟨v, rfl, h1⟩ := hr.one
    split at h
    · rename_i d e
      split at h
      · rename_i c
        simp only [Bool.and_eq_true, decide_eq_true_eq] at c
        obtain ⟨⟨⟨⟨c1, c2⟩, c3⟩, c4⟩, c5⟩ := c
        obtain ⟨u, rfl, rx⟩ := vals1 r
        obtain ⟨as, hra, hns⟩ := S.reads I (hb.none I) 2 x v u d h1 e c1 rx
        have fin : Q (.str d.shown) H := h.val S rfl
        have hur : ∃ a, u = .ref a := by
          cases hra <;> first | exact ⟨_, rfl⟩ | cases c2
        obtain ⟨a, rfl⟩ := hur
        exact repr_of_reads' hra c3 (fun _ => hns) hg (by omega) (fun _ _ e => e) (fun h' u tk k => ⟨.str d.shown, H, I.kept k, ⟨_, rfl⟩, fin⟩) c4
      · exact h.elim
    · exact h.elim
  · exact h.elim

/-! ### methods of lists -/
abbrev SemM := R → List R → Sto → Out R
def rSemM (P : Pm) (sem : SemM) : V → List V → Hp → VK → Prop := fun vx vs H Q => ∃ F ι st x rs E, Sm P F ι st H ∧ RR P F ι x vx ∧ RRs P F ι rs vs ∧ Post P E F ι H (sem x rs st) (Ret P Q)
abbrev OpM (X : Cx) (P : Pm) (id : String) (sem : SemM) : Prop := MtR X id (rSemM P sem)
def fIsL (x : R) : Cal → Rho → Sto → Out R := fun _ _ st => match lstOf st x with
  | some _ => .ok x st
  | none => .stk
def mMethL (sem : SemM) (mo : M) (ms : ML) : M := mBind mo fun x => mBind (fIsL x) fun x => mBind ms fun rs _ _ st => sem x rs st
variable {o : Expr} {mo : M} {apos cpos : Pos} {name : Str} {semm : SemM}
theorem tyV_lst {F : Hp} {ι : List Addr} {st : Sto} {H : Hp} (S : Sm P F ι st H) {r : R} {v : V} {rs : List R} (e : lstOf st r = some rs) (q : RR P F ι r v) : tyV X.K "list" v H := by
  obtain ⟨a, xs, rfl, h, _⟩ := S.lstR e q
  exact .inl ⟨rfl, xs, .inl h⟩
theorem methL_link {σ : L2.St} {H : Hp} {Q : VK} (h : Td P W cal (mMethL semm mo ms) (RR P) σ H Q) : tBM X.K "list" (rSemM P semm) (TEd P W cal mo) (TAd P W cal ms) σ H Q := by
  unfold mMethL at h
  refine h.then fun F ι ρ st H1 x vx hE hS rr h1 => ?_
  have h2 : Post P (fun cls dx H' => W cls dx σ H') F ι H1 ((fIsL x cal ρ st).bind fun x st1 => (ms cal ρ st1).bind fun rs st2 => semm x rs st2) (Ret P Q) := h1
  unfold fIsL at h2
  split at h2
  · rename_i qs e
    have h4 : Post P (fun cls dx H' => W cls dx σ H') F ι H1 ((ms cal ρ st).bind fun rs st2 => semm x rs st2) (Ret P Q) := h2
    refine ⟨tyV_lst hS e rr, F, ι, ρ, st, hE, hS, ?_⟩
    refine (Post.bind h4).imp fun rs st2 F2 ι2 H2 u2 s2 h3 vs rv => ?_
    exact ⟨F2, ι2, st2, x, rs, _, s2, u2.rr rr, rv, h3⟩
  · exact h2.elim
theorem methL0_link {σ : L2.St} {H : Hp} {Q : VK} (h : Td P W cal (mMethL semm mo mNil) (RR P) σ H Q) : tBM0 X.K "list" (rSemM P semm) (TEd P W cal mo) σ H Q := by
  unfold mMethL at h
  refine h.then fun F ι ρ st H1 x vx hE hS rr h1 => ?_
  have h2 : Post P (fun cls dx H' => W cls dx σ H') F ι H1 ((fIsL x cal ρ st).bind fun x st1 => semm x [] st1) (Ret P Q) := h1
  unfold fIsL at h2
  split at h2
  · rename_i qs e
    exact ⟨tyV_lst hS e rr, F, ι, st, x, [], _, hS, rr, .nil, h2⟩
  · exact h2.elim
def semAppend : SemM := fun x rs st => match x, rs with
  | .loc n, [.dat d] => match st[n]? with
    | some (.lst qs) => if qs.length < sizeLine then .ok (.dat .none) (st.set n (.lst (qs ++ [.dat d]))) else .stk
    | _ => .stk
  | _, _ => .stk
def semPop : SemM := fun x rs st => match x, rs with
  | .loc n, [] => match st[n]? with
    | some (.lst qs) => match qs[qs.length - 1]? with
      | some y => .ok y (st.set n (.lst qs.dropLast))
      | none => .stk
    | _ => .stk
  | _, _ => .stk
def semPopAt : SemM := fun x rs st => match x, rs with
  | .loc n, [.dat (.int i)] => match st[n]? with
    | some (.lst qs) => if -(2 ^ 63) ≤ i ∧ i < 2 ^ 63 then match (seqIndex? i qs.length).bind fun k => (qs[k]?).map fun y => (k, y) with
      | some (k, y) => .ok y (st.set n (.lst (qs.eraseIdx k)))
      | none => .stk
      else .stk
    | _ => .stk
  | _, _ => .stk
theorem RD.app1 {F : Hp} {ι : List Addr} {rs : List R} {vs : List V} {r : R} {v : V} (h : RRs P F ι rs vs) (q : RR P F ι r v) : RRs P F ι (rs ++ [r]) (vs ++ [v]) := RRs.app h (.cons q .nil)
theorem RR.dat_any {F : Hp} {ι ι' : List Addr} {d : D} {v : V} (h : RR P F ι (.dat d) v) : RR P F ι' (.dat d) v := h
theorem o_append : OpM X P "list.append" semAppend := by
  rintro pins s σ H vx vs v us Q I rx rv ⟨F, ι, st, x, rs, E, S, hx, hr, h⟩
  unfold semAppend at h
  split at h
  · rename_i n d
    split at h
    · rename_i qs e
      split at h
      · rename_i hz
        obtain ⟨y, rfl, h1⟩ := hr.one
        obtain ⟨a, rfl, ha, xs, e3, hh⟩ := S.loc e hx
        refine mt_append pins s σ H _ _ v us Q I rx rv ⟨a, xs, y, rfl, rfl, e3, by rw [← hh.len]; exact hz, ?_⟩
        exact h _ _ _ (Up.set S ha) (S.set e trivial ha ⟨_, upd_same, hh.app (.cons h1 .nil)⟩ trivial) _ rfl
      · exact h.elim
    · exact h.elim
  · exact h.elim
theorem RRs.dropLast {F : Hp} {ι : List Addr} {rs : List R} {vs : List V} (h : RRs P F ι rs vs) : RRs P F ι rs.dropLast vs.dropLast := by
  rw [List.dropLast_eq_take, List.dropLast_eq_take, h.len]
  exact h.take _
theorem o_pop : OpM X P "list.pop" semPop := by
  rintro pins s σ H vx vs v us Q I rx rv ⟨F, ι, st, x, rs, E, S, hx, hr, h⟩
  unfold semPop at h
  split at h
  · rename_i n
    split at h
    · rename_i qs e
      split at h
      · rename_i y e2
        cases hr
        obtain ⟨a, rfl, ha, xs, e3, hh⟩ := S.loc e hx
        obtain ⟨w, e4, rw'⟩ := hh.get e2
        rw [hh.len] at e4
        refine mt_pop pins s σ H _ _ v us Q I rx rv ⟨a, xs, w, rfl, rfl, e3, e4, ?_⟩
        exact h _ _ _ (Up.set S ha) (S.set e trivial ha ⟨_, upd_same, hh.dropLast⟩ trivial) _ (rw'.mono (fun _ _ e => e) (List.take_prefix n ι))
      · exact h.elim
    · exact h.elim
  · exact h.elim
theorem o_popAt : OpM X P "list.pop" semPopAt := by
  rintro pins s σ H vx vs v us Q I rx rv ⟨F, ι, st, x, rs, E, S, hx, hr, h⟩
  unfold semPopAt at h
  split at h
  · rename_i n i
    split at h
    · rename_i qs e
      split at h
      · rename_i hb
        split at h
        · rename_i k y e2
          obtain ⟨k', e5, e6⟩ := Option.bind_eq_some_iff.mp e2
          obtain ⟨y', e7, e8⟩ := Option.map_eq_some_iff.mp e6
          cases e8
          obtain ⟨z, rfl, h1⟩ := hr.one
          simp only [RR, RD] at h1
          subst h1
          obtain ⟨a, rfl, ha, xs, e3, hh⟩ := S.loc e hx
          obtain ⟨w, e4, rw'⟩ := hh.get e7
          refine mt_popAt pins s σ H _ _ v us Q I rx rv ⟨a, xs, i, k, w, rfl, rfl, e3, hb.1, hb.2, by rw [← hh.len]; exact e5, e4, ?_⟩
          exact h _ _ _ (Up.set S ha) (S.set e trivial ha ⟨_, upd_same, hh.erase k⟩ trivial) _ (rw'.mono (fun _ _ e => e) (List.take_prefix n ι))
        · exact h.elim
      · exact h.elim
    · exact h.elim
  · exact h.elim
theorem pd_methL (slot : Slot "list" name id) (hty : typeOf (.builtin id) = pure (.type "method_descriptor")) (hm : OpM X P id semm) (ho : PEd X P W cal o mo) (ha : PAd X P W cal (e :: es) ms)
    (hbase : attributeBase o name X.env (eval o X.env) = eval o X.env := by rfl)
    (hfew : ((backTo cpos (starEach (e :: es) X.env)).all (fun x => !x.1) && (backToKw cpos (keywordEach [] X.env)).all (fun x => x.1.isSome)
      && decide ((e :: es).length + ([] : List Keyword).length + (if ([] : List Keyword).isEmpty then 0 else 1) < 30)) = true := by rfl)
    (hline : (apos.endLine == cpos.line) = true := by rfl) (hs : starEach (e :: es) X.env = (false, eval e X.env) :: starEach es X.env := by rfl) (hplain : (backTo cpos (starEach es X.env)).any (·.1) = false := by rfl) :
    PEd X P W cal (.Call (.Attribute o name apos) (e :: es) [] cpos) (mMethL semm mo ms) :=
  pe_weak (pe_bm PySem.F.plainAttrs_list slot hty hm ho ha hbase hfew hline hs hplain) fun σ H Q h => methL_link h
theorem pd_methL0 (slot : Slot "list" name id) (hty : typeOf (.builtin id) = pure (.type "method_descriptor")) (hm : OpM X P id semm) (ho : PEd X P W cal o mo)
    (hbase : attributeBase o name X.env (eval o X.env) = eval o X.env := by rfl) (hline : (apos.endLine == cpos.line) = true := by rfl) :
    PEd X P W cal (.Call (.Attribute o name apos) [] [] cpos) (mMethL semm mo mNil) :=
  pe_weak (pe_bm0 PySem.F.plainAttrs_list slot hty hm ho hbase hline) fun σ H Q h => methL0_link h
end
end Mp
end
section
set_option Elab.async false
set_option linter.all false
set_option maxRecDepth 100000
set_option autoImplicit false
/-! Statements of the small machine. -/
namespace Mp
open PySem PySem.Spec PyProof.Rows L2

/-- what is wanted of an exception, whatever the names hold then -/
def WE (W : WX) (σ : L2.St) : XK := fun cls dx H' => ∀ σ' : L2.St, σ'.length = σ.length → W cls dx σ' H'
theorem WE.here {W : WX} {σ : L2.St} {cls : Value} {dx : Option Addr} {H : Hp} (h : WE W σ cls dx H) : W cls dx σ H := h σ rfl
theorem WE.len {W : WX} {σ σ' : L2.St} (e : σ'.length = σ.length) : WE W σ' = WE W σ := by
  funext cls dx H
  unfold WE
  rw [e]
theorem Post.exc {P : Pm} {α : Type} {E E' : XK} {F : Hp} {ι : List Addr} {H : Hp} {o : Out α} {φ : α → Sto → Hp → List Addr → Hp → Prop} (h : Post P E F ι H o φ) (k : ∀ cls dx H', E cls dx H' → E' cls dx H') : Post P E' F ι H o φ := by
  cases o with
  | ok a st => exact h
  | exc c as st => exact fun F' ι' H' cls dx u s x => k _ _ _ (h F' ι' H' cls dx u s x)
  | stk => exact h

/-- what the end of a statement wants -/
def FlwR (P : Pm) (σ : L2.St) (Dn : Ends) : Flw → Sto → Hp → List Addr → Hp → Prop
  | .nx ρ, _, F, ι, H => ∀ σ' : L2.St, σ'.length = σ.length → EnvR P F ι ρ σ' → Dn.nx σ' H
  | .bk ρ, _, F, ι, H => ∀ σ' : L2.St, σ'.length = σ.length → EnvR P F ι ρ σ' → Dn.bk σ' H
  | .ct ρ, _, F, ι, H => ∀ σ' : L2.St, σ'.length = σ.length → EnvR P F ι ρ σ' → Dn.ct σ' H
  | .rt r, _, F, ι, H => ∀ v, RR P F ι r v → Dn.rt v H
def Tsd (P : Pm) (W : WX) (cal : Cal) (m : MS) : TS := fun Dn σ H =>
  ∃ F ι ρ st, EnvR P F ι ρ σ ∧ Sm P F ι st H ∧ Post P (WE W σ) F ι H (m cal ρ st) (FlwR P σ Dn)
abbrev PSd (X : Cx) (P : Pm) (W : WX) (cal : Cal) (s : Stmt) (m : MS) : Prop := PS X s (Tsd P W cal m)
abbrev PSsd (X : Cx) (P : Pm) (W : WX) (cal : Cal) (s : List Stmt) (m : MS) : Prop := PSs X s (Tsd P W cal m)
theorem ps_weak {X : Cx} {s : Stmt} {t t' : TS} (h : PS X s t) (w : ∀ D σ H, t' D σ H → t D σ H) : PS X s t' := ⟨fun pins sh σ H D I q => h.run pins sh σ H D I (w D σ H q)⟩
theorem pss_weak {X : Cx} {s : List Stmt} {t t' : TS} (h : PSs X s t) (w : ∀ D σ H, t' D σ H → t D σ H) : PSs X s t' := ⟨fun pins sh σ H D I q => h.run pins sh σ H D I (w D σ H q)⟩

/-- first an expression (or what is like one), then on by what it gave -/
def sBind {α : Type} (m : Cal → Rho → Sto → Out α) (f : α → MS) : MS := fun cal ρ st => (m cal ρ st).bind fun a st1 => f a cal ρ st1
section
variable {P : Pm} {W : WX} {cal : Cal}
theorem Tsd.then {α β : Type} {m : Cal → Rho → Sto → Out α} {f : α → MS} {RelA : Hp → List Addr → α → β → Prop} {Dn : Ends} {σ : L2.St} {H : Hp} {Q' : β → Hp → Prop} (h : Tsd P W cal (sBind m f) Dn σ H)
    (k : ∀ F ι ρ st H1 a b, EnvR P F ι ρ σ → Sm P F ι st H1 → RelA F ι a b → Post P (WE W σ) F ι H1 (f a cal ρ st) (FlwR P σ Dn) → Q' b H1) : Td P W cal m RelA σ H Q' := by
  obtain ⟨F, ι, ρ, st, hE, hS, hP⟩ := h
  refine ⟨F, ι, ρ, st, hE, hS, Post.exc ((Post.bind hP).imp fun a st1 F1 ι1 H1 u1 s1 h1 b rb => ?_) fun cls dx H' x => x.here⟩
  exact k F1 ι1 ρ st1 H1 a b (u1.env hE) s1 rb h1

/-! ### blocks -/
def mSeq (a b : MS) : MS := fun cal ρ st => (a cal ρ st).bind fun f st1 => match f with
  | .nx ρ1 => b cal ρ1 st1
  | f => .ok f st1
def mPass : MS := fun _ ρ st => .ok (.nx ρ) st
def mBrk : MS := fun _ ρ st => .ok (.bk ρ) st
def mCnt : MS := fun _ ρ st => .ok (.ct ρ) st
theorem Tsd.seq {a b : MS} {Dn : Ends} {σ : L2.St} {H : Hp} (h : Tsd P W cal (mSeq a b) Dn σ H) : Tsd P W cal a { Dn with nx := Tsd P W cal b Dn } σ H := by
  obtain ⟨F, ι, ρ, st, hE, hS, hP⟩ := h
  refine ⟨F, ι, ρ, st, hE, hS, (Post.bind hP).imp fun f st1 F1 ι1 H1 u1 s1 h1 => ?_⟩
  cases f with
  | nx ρ1 =>
    intro σ' hl hE'
    refine ⟨F1, ι1, ρ1, st1, hE', s1, ?_⟩
    rw [WE.len hl]
    refine Post.imp h1 fun f2 st2 F2 ι2 H2 u2 s2 h2 => ?_
    cases f2 <;> first | exact fun σ2 hl2 => h2 σ2 (hl2.trans hl) | exact h2
  | bk ρ1 => exact fun σ' hl hE' => h1.now s1 σ' hl hE'
  | ct ρ1 => exact fun σ' hl hE' => h1.now s1 σ' hl hE'
  | rt r => exact fun v rv => h1.now s1 v rv
variable {X : Cx} {s : Stmt} {ss : List Stmt} {a b : MS} {pos : Pos} {e : Expr} {me : M}
theorem psd_nil : PSsd X P W cal [] mPass := pss_weak pss_nil fun D σ H ⟨F, ι, ρ, st, hE, hS, hP⟩ => hP.now hS σ rfl hE
theorem psd_cons (h1 : PSd X P W cal s a) (h2 : PSsd X P W cal ss b) : PSsd X P W cal (s :: ss) (mSeq a b) := pss_weak (pss_cons h1 h2) fun D σ H h => h.seq
theorem psd_one (h1 : PSd X P W cal s a) : PSsd X P W cal [s] a := pss_one h1
theorem psd_pass : PSd X P W cal (.Pass pos) mPass := ps_weak ps_pass fun D σ H ⟨F, ι, ρ, st, hE, hS, hP⟩ => hP.now hS σ rfl hE
theorem psd_brk : PSd X P W cal (.Break pos) mBrk := ps_weak ps_break fun D σ H ⟨F, ι, ρ, st, hE, hS, hP⟩ => hP.now hS σ rfl hE
theorem psd_cnt : PSd X P W cal (.Continue pos) mCnt := ps_weak ps_continue fun D σ H ⟨F, ι, ρ, st, hE, hS, hP⟩ => hP.now hS σ rfl hE

/-! ### plain statements -/
def mExp (m : M) : MS := sBind m fun _ => mPass
def mRet (m : M) : MS := sBind m fun r _ _ st => .ok (.rt r) st
def mRetN : MS := fun _ _ st => .ok (.rt (.dat .none)) st
theorem psd_exp (he : PEd X P W cal e me) (hs : swapsWith e none pos.line X.env = pure false := by rfl) : PSd X P W cal (.Expr e pos) (mExp me) :=
  ps_weak (ps_expr he hs) fun D σ H h => h.then fun F ι ρ st H1 a b hE hS rb h1 => h1.now hS σ rfl hE
theorem psd_ret (he : PEd X P W cal e me) : PSd X P W cal (.Return (some e) pos) (mRet me) :=
  ps_weak (ps_ret he) fun D σ H h => h.then fun F ι ρ st H1 a b hE hS rb h1 => h1.now hS b rb
theorem psd_retN : PSd X P W cal (.Return none pos) mRetN := ps_weak ps_retN fun D σ H ⟨F, ι, ρ, st, hE, hS, hP⟩ => hP.now hS .non (by simp only [RR, RD])
def mIfS (t : MB) (a b : MS) : MS := sBind t fun c => if c then a else b
theorem Tsd.of {m : MS} {Dn : Ends} {σ : L2.St} {H : Hp} {F : Hp} {ι : List Addr} {ρ : Rho} {st : Sto} (hE : EnvR P F ι ρ σ) (hS : Sm P F ι st H) (h : Post P (WE W σ) F ι H (m cal ρ st) (FlwR P σ Dn)) : Tsd P W cal m Dn σ H := ⟨F, ι, ρ, st, hE, hS, h⟩
theorem psd_if {c : Expr} {sa sb : List Stmt} {t : MB} (hc : PTd X P W cal c t) (ha : PSsd X P W cal sa a) (hb : PSsd X P W cal sb b) : PSd X P W cal (.If c sa sb pos) (mIfS t a b) :=
  ps_weak (ps_if hc ha hb) fun D σ H h => h.then fun F ι ρ st H1 c d hE hS rb h1 => by
    subst rb
    cases c with
    | true => exact Tsd.of hE hS h1
    | false => exact Tsd.of hE hS h1

/-! ### targets -/
/-- a target takes a value -/
abbrev MG := R → Cal → Rho → Sto → Out Rho
abbrev MGs := List R → Cal → Rho → Sto → Out Rho
def TGd (P : Pm) (W : WX) (cal : Cal) (g : MG) : TG := fun v σ H Q => ∃ F ι ρ st r, EnvR P F ι ρ σ ∧ Sm P F ι st H ∧ RR P F ι r v ∧
  Post P (WE W σ) F ι H (g r cal ρ st) (fun ρ' _ F' ι' H' => ∀ σ' : L2.St, σ'.length = σ.length → EnvR P F' ι' ρ' σ' → Q σ' H')
def TGsd (P : Pm) (W : WX) (cal : Cal) (g : MGs) : TGs := fun vs σ H Q => ∃ F ι ρ st rs, EnvR P F ι ρ σ ∧ Sm P F ι st H ∧ RRs P F ι rs vs ∧
  Post P (WE W σ) F ι H (g rs cal ρ st) (fun ρ' _ F' ι' H' => ∀ σ' : L2.St, σ'.length = σ.length → EnvR P F' ι' ρ' σ' → Q σ' H')
abbrev PGd (X : Cx) (P : Pm) (W : WX) (cal : Cal) (t : Expr) (g : MG) : Prop := PG X t (TGd P W cal g)
abbrev PGsd (X : Cx) (P : Pm) (W : WX) (cal : Cal) (ts : List Expr) (g : MGs) : Prop := PGs X ts (TGsd P W cal g)
theorem pg_weak {t : Expr} {g g' : TG} (h : PG X t g) (w : ∀ v σ H Q, g' v σ H Q → g v σ H Q) : PG X t g' := ⟨fun pins s σ H v u Q I r q => h.run pins s σ H v u Q I r (w v σ H Q q)⟩
theorem pgs_weak {ts : List Expr} {g g' : TGs} (h : PGs X ts g) (w : ∀ v σ H Q, g' v σ H Q → g v σ H Q) : PGs X ts g' := ⟨fun pins s σ H v u Q I r q => h.run pins s σ H v u Q I r (w v σ H Q q)⟩
theorem EnvR.set {F : Hp} {ι : List Addr} {ρ : Rho} {σ : L2.St} {i : Nat} {r : R} {v : V} (h : EnvR P F ι ρ σ) (q : RR P F ι r v) : EnvR P F ι (ρ.set i (some r)) (σ.set i (some v)) := by
  refine ⟨by simpa using h.1, fun j r' e => ?_⟩
  by_cases hj : i = j
  · subst hj
    have hi : i < ρ.length := by
      by_cases hi : i < ρ.length
      · exact hi
      · rw [List.getElem?_eq_none (by simpa using hi)] at e; cases e
    rw [List.getElem?_set_self hi] at e
    cases e
    exact ⟨v, List.getElem?_set_self (by rw [← h.1]; exact hi), q⟩
  · rw [List.getElem?_set_ne hj] at e
    rw [List.getElem?_set_ne hj]
    exact h.2 j r' e
def gNm (i : Nat) : MG := fun r _ ρ st => .ok (ρ.set i (some r)) st
def gNo : MGs := fun rs _ ρ st => match rs with
  | [] => .ok ρ st
  | _ => .stk
def gMore (g : MG) (gs : MGs) : MGs := fun rs cal ρ st => match rs with
  | r :: rs => (g r cal ρ st).bind fun ρ1 st1 => gs rs cal ρ1 st1
  | _ => .stk
/-- (a, b, ..): a tuple or a list that stands still is taken apart -/
def gUn (n : Nat) (gs : MGs) : MG := fun r cal ρ st => match r with
  | .dat (.tuple ds) => if ds.length = n then gs (ds.map R.dat) cal ρ st else .stk
  | _ => .stk
variable {g : MG} {gs : MGs} {t : Expr} {ts : List Expr} {x : Str} {i : Nat}
theorem pgd_name (hN : X.N.Nodup) (hi : X.N[i]? = some x) (hx : Loc X.env.scope x) (hf : X.fn x = true ∨ X.env.scope.names.lookup x = some .local := by first | exact .inl rfl | exact .inr rfl | assumption) : PGd X P W cal (.Name x pos) (gNm i) :=
  pg_weak (pg_name hN hi hx hf) fun v σ H Q ⟨F, ι, ρ, st, r, hE, hS, hr, h⟩ => h.now hS _ (by simp) (hE.set hr)
theorem pgd_nil : PGsd X P W cal [] gNo := pgs_weak pgs_nil fun vs σ H Q ⟨F, ι, ρ, st, rs, hE, hS, hr, h⟩ => by
  unfold gNo at h
  split at h
  · cases hr
    exact ⟨rfl, h.now hS σ rfl hE⟩
  · exact h.elim
theorem pgd_cons (h1 : PGd X P W cal t g) (h2 : PGsd X P W cal ts gs) (hs : (assignEach (t :: ts) X.env).map (·.2) = assign t X.env :: (assignEach ts X.env).map (·.2) := by rfl) : PGsd X P W cal (t :: ts) (gMore g gs) :=
  pgs_weak (pgs_cons h1 h2 hs) fun vs σ H Q ⟨F, ι, ρ, st, rs, hE, hS, hr, h⟩ => by
    unfold gMore at h
    split at h
    · cases hr with
      | cons r1 r2 =>
        refine ⟨_, _, rfl, F, ι, ρ, st, _, hE, hS, r1, (Post.bind h).imp fun ρ1 st1 F1 ι1 H1 u1 s1 h1 σ' hl hE' => ?_⟩
        refine ⟨F1, ι1, ρ1, st1, _, hE', s1, u1.rrs r2, ?_⟩
        rw [WE.len hl]
        exact Post.imp h1 fun ρ2 st2 F2 ι2 H2 u2 s2 h2 σ2 hl2 => h2 σ2 (hl2.trans hl)
    · exact h.elim
theorem pgd_tup {k n : Nat} (hc : X.calm = true) (h : PGsd X P W cal ts gs) (hn : (assignEach ts X.env).length = n := by rfl) (hst : (assignEach ts X.env).findIdx? (·.1) = none := by rfl) : PGd X P W cal (.Tuple ts k pos) (gUn n gs) :=
  pg_weak (pg_tup hc h hn hst) fun v σ H Q ⟨F, ι, ρ, st, r, hE, hS, hr, h⟩ => by
    unfold gUn at h
    split at h
    · split at h
      · rename_i ds hl
        obtain ⟨a, vs, rfl, q1, d1⟩ := hS.tupR rfl hr
        exact ⟨a, vs, rfl, .of q1, by rw [← RDs.len _ _ d1]; exact hl, F, ι, ρ, st, _, hE, hS, RDs.rrs _ _ d1, h⟩
      · exact h.elim
    · exact h.elim
/-- target = e -/
def mAsg (m : M) (g : MG) : MS := sBind m fun r cal ρ st => (g r cal ρ st).bind fun ρ1 st1 => .ok (.nx ρ1) st1
abbrev mSet (i : Nat) (m : M) : MS := mAsg m (gNm i)
theorem TGd.of {σ : L2.St} {H : Hp} {F : Hp} {ι : List Addr} {ρ : Rho} {st : Sto} {r : R} {v : V} {Dn : Ends} (hE : EnvR P F ι ρ σ) (hS : Sm P F ι st H) (hr : RR P F ι r v)
    (h : Post P (WE W σ) F ι H ((g r cal ρ st).bind fun ρ1 st1 => .ok (.nx ρ1) st1) (FlwR P σ Dn)) : TGd P W cal g v σ H Dn.nx :=
  ⟨F, ι, ρ, st, r, hE, hS, hr, (Post.bind h).imp fun ρ1 st1 F1 ι1 H1 u1 s1 h1 σ' hl hE' => h1.now s1 σ' hl hE'⟩
theorem psd_asg {tg : Expr} (he : PEd X P W cal e me) (hg : PGd X P W cal tg g) (hs : swapsWithSole [tg] e pos.line X.env = pure false := by rfl) (hw : swappedStores [tg] e X.env = pure none := by rfl)
    (h1 : (assignEach [tg] X.env).map (·.2) = [assign tg X.env] := by rfl) : PSd X P W cal (.Assign [tg] e pos) (mAsg me g) :=
  ps_weak (ps_asg he hg hs hw h1) fun D σ H h => h.then fun F ι ρ st H1 a b hE hS rb h1 => TGd.of hE hS rb h1
theorem psd_set {pos' : Pos} (hN : X.N.Nodup) (hi : X.N[i]? = some x) (hx : Loc X.env.scope x) (he : PEd X P W cal e me) (hs : swapsWith e (some (.Name x pos')) pos.line X.env = pure false := by rfl)
    (hf : X.fn x = true ∨ X.env.scope.names.lookup x = some .local := by first | exact .inl rfl | exact .inr rfl | assumption) : PSd X P W cal (.Assign [.Name x pos'] e pos) (mSet i me) :=
  ps_weak (ps_set hN hi hx he hs hf) fun D σ H h => h.then fun F ι ρ st H1 a b hE hS rb h1 => h1.now hS _ (by simp) (hE.set rb)

/-! ### o[i] = v of a dict -/
def putR {κ : Type} [DecidableEq κ] (kvs : List (κ × R)) (k : κ) (v : R) : List (κ × R) :=
  if (kvs.any fun kv => decide (kv.1 = k)) = true then kvs.map (fun kv => if kv.1 = k then (kv.1, v) else kv) else kvs ++ [(k, v)]
theorem RKs.put {κ : Type} [DecidableEq κ] {F : Hp} {ι : List Addr} {kvs : List (κ × R)} {es : List (κ × V)} {k : κ} {r : R} {v : V} (h : RKs P F ι kvs es) (q : RR P F ι r v) : RKs P F ι (putR kvs k r) (putK es k v) := by
  unfold putR putK
  have e : (kvs.any fun kv => decide (kv.1 = k)) = (es.any fun kv => decide (kv.1 = k)) := by
    induction h with
    | nil => rfl
    | cons a _ ih => rw [List.any_cons, List.any_cons, ih, a.1]
  rw [e]
  clear e
  have m1 : RKs P F ι (kvs.map (fun kv => if kv.1 = k then (kv.1, r) else kv)) (es.map (fun kv => if kv.1 = k then (kv.1, v) else kv)) := by
    induction h with
    | nil => exact .nil
    | @cons a b as bs h1 _ ih =>
      refine .cons ?_ ih
      show (if a.1 = k then (a.1, r) else a).1 = (if b.1 = k then (b.1, v) else b).1 ∧ RR P F ι (if a.1 = k then (a.1, r) else a).2 (if b.1 = k then (b.1, v) else b).2
      by_cases z : a.1 = k
      · have z' : b.1 = k := h1.1 ▸ z
        rw [if_pos z, if_pos z']; exact ⟨h1.1, q⟩
      · have z' : ¬ b.1 = k := fun y => z (h1.1.trans y)
        rw [if_neg z, if_neg z']; exact h1
  have m2 : RKs P F ι (kvs ++ [(k, r)]) (es ++ [(k, v)]) := by
    clear m1
    induction h with
    | nil => exact .cons ⟨rfl, q⟩ .nil
    | cons h1 _ ih => exact .cons h1 ih
  split
  · exact m1
  · exact m2
/-- d[y] = v, d live, v data -/
def semPut (x y v : R) (st : Sto) : Option Sto := match x, y, v with
  | .loc n, .dat y, .dat v => match st[n]? with
    | some (.dK kvs) => match keyOf y with
      | some k => if kvs.length < sizeLine then some (st.set n (.dK (putR kvs k (.dat v)))) else none
      | none => none
    | some (.dT kvs) => match tkeyOf y with
      | some k => if kvs.length < sizeLine then some (st.set n (.dT (putR kvs k (.dat v)))) else none
      | none => none
    | _ => none
  | _, _, _ => none
def tPutD : TSet := fun o i v H Q => ∃ a H', o = .ref a ∧ DPut H a i v H' ∧ Q H'
theorem pset_D (hu : X.A.units + 1 < cLine) : PSet X tPutD := by
  rintro pins s σ H o i v ov iv u Q I ro ri rv ⟨a, H', rfl, hd, q⟩
  cases ro
  exact d_setItem hu I hd ri rv fun s4 I4 => ⟨H', I4, q⟩
theorem Sm.put {F : Hp} {ι : List Addr} {st st' : Sto} {H : Hp} {x y v : R} {vx vy vv : V} (S : Sm P F ι st H) (hx : RR P F ι x vx) (hy : RR P F ι y vy) (hv : RR P F ι v vv) (e : semPut x y v st = some st') :
    ∃ a H', vx = .ref a ∧ DPut H a vy vv H' ∧ Sm P F ι st' H' ∧ Up F ι H F ι H' := by
  unfold semPut at e
  split at e
  · rename_i n y v
    split at e
    · rename_i kvs e1
      split at e
      · rename_i k ek
        split at e
        · rename_i hl
          cases e
          obtain ⟨a, rfl, ha, es, e3, hh⟩ := S.loc e1 hx
          have hl' : es.length < sizeLine := by rw [← Paired.length hh]; exact hl
          refine ⟨a, _, rfl, .inl ⟨es, k, e3, keyOf_kV ek hy, hl', rfl⟩, S.set e1 trivial ha ⟨_, upd_same, RKs.put hh hv⟩ trivial, Up.set S ha⟩
        · cases e
      · cases e
    · rename_i kvs e1
      split at e
      · rename_i k ek
        split at e
        · rename_i hl
          cases e
          obtain ⟨a, rfl, ha, es, e3, hh⟩ := S.loc e1 hx
          obtain ⟨b, rfl, hb⟩ := S.tkey ek hy
          have hl' : es.length < sizeLine := by rw [← Paired.length hh]; exact hl
          refine ⟨a, _, rfl, .inr ⟨es, k, b, e3, rfl, hb, hl', rfl⟩, S.set e1 trivial ha ⟨_, upd_same, RKs.put hh hv⟩ trivial, Up.set S ha⟩
        · cases e
      · cases e
    · cases e
  · cases e
def gSb (mo mi : M) : MG := fun r cal ρ st => (mo cal ρ st).bind fun o st1 => (mi cal ρ st1).bind fun i st2 => match semPut o i r st2 with
  | some st3 => .ok ρ st3
  | none => .stk
variable {o ie : Expr} {mo mi : M}
theorem pgd_sub (hu : X.A.units + 1 < cLine) (ho : PEd X P W cal o mo) (hi : PEd X P W cal ie mi) (ha : ∀ v, assign (.Subscript o ie pos) X.env v = (do
      let ov ← holding [v] (eval o X.env)
      let iv ← holding [v, ov] (eval ie X.env)
      standAt pos
      holding [v, ov, iv] (setItem ov iv v)
      release [v, ov, iv] []) := by intro _; rfl) : PGd X P W cal (.Subscript o ie pos) (gSb mo mi) :=
  pg_weak (pg_sub ho hi (pset_D hu) ha) fun v σ H Q ⟨F, ι, ρ, st, r, hE, hS, hr, h⟩ => by
    refine ⟨F, ι, ρ, st, hE, hS, Post.exc ((Post.bind h).imp fun o st1 F1 ι1 H1 u1 s1 h1 vo ro => ?_) fun _ _ _ x => x.here⟩
    refine ⟨F1, ι1, ρ, st1, u1.env hE, s1, Post.exc ((Post.bind h1).imp fun i st2 F2 ι2 H2 u2 s2 h2 vi ri => ?_) fun _ _ _ x => x.here⟩
    split at h2
    · rename_i st3 e
      obtain ⟨a, H', rfl, d, s3, u3⟩ := s2.put (u2.rr ro) ri ((u1.trans u2).rr hr) e
      exact ⟨a, H', rfl, d, h2 _ _ _ u3 s3 σ rfl ((u1.trans u2).env hE)⟩
    · exact h2.elim

/-! ### several targets at once -/
/-- a, b, .. = x, y, ..: the values, then the targets -/
def mPar (ms : ML) (g : MGs) : MS := sBind ms fun rs cal ρ st => (g rs cal ρ st).bind fun ρ1 st1 => .ok (.nx ρ1) st1
/-- the display that is taken apart at once -/
def Td2 (P : Pm) (W : WX) (cal : Cal) (ms : ML) (g : MGs) : TS := Tsd P W cal (mPar ms g)
theorem psd_par {es : List Expr} {ms : ML} {k k2 n : Nat} {pos2 pt : Pos} (hc : X.calm = true) (he : PAd X P W cal es ms) (hg : PGsd X P W cal ts gs)
    (hn : (assignEach ts X.env).length = n := by rfl) (hst : (assignEach ts X.env).findIdx? (·.1) = none := by rfl) (hz : es.length ≤ 8 := by decide)
    (hs : swapsWithSole [.Tuple ts k pt] (.Tuple es k2 pos2) pos.line X.env = pure false := by rfl) (hw : swappedStores [.Tuple ts k pt] (.Tuple es k2 pos2) X.env = pure none := by rfl)
    (h1 : (assignEach [.Tuple ts k pt] X.env).map (·.2) = [assign (.Tuple ts k pt) X.env] := by rfl) :
    PSd X P W cal (.Assign [.Tuple ts k pt] (.Tuple es k2 pos2) pos) (sBind ms fun rs cal ρ st => if rs.length = n ∧ n ≤ 8 then (gs rs cal ρ st).bind fun ρ1 st1 => .ok (.nx ρ1) st1 else .stk) :=
  ps_weak (ps_asg (L2.pe_tup he) (pg_tup (n := n) hc hg hn hst) hs hw h1) fun D σ H h => by
    refine h.then fun F ι ρ st H1 rs vs hE hS rr h1 => ?_
    split at h1
    · rename_i hl
      have h8 : (8 : Nat) ≤ sizeLine := by decide
      have hlv : vs.length = n := by rw [← rr.len]; exact hl.1
      refine ⟨by rw [hlv]; exact Nat.le_trans hl.2 h8, fun p hp => ?_⟩
      have S2 := hS.new (o := .tup vs) hp
      have U2 := Up.nw hS (o := .tup vs) hp
      refine ⟨p, vs, rfl, .of upd_same, hlv, F, ι, ρ, st, rs, hE, S2, rr, ?_⟩
      exact (Post.bind (Post.up h1 U2)).imp fun ρ1 st1 F1 ι1 H1 u1 s1 h1 σ' hl hE' => h1.now s1 σ' hl hE'
    · exact h1.elim
/-- two plain names -/
theorem psd_par2 {j : Nat} {y : Str} {a b : Expr} {ms : ML} {px py pt : Pos} {kt k2 : Nat} {pt2 : Pos} (hc : X.calm = true) (hN : X.N.Nodup) (hi : X.N[i]? = some x) (hj : X.N[j]? = some y) (hij : i ≠ j)
    (hx : X.env.scope.names.lookup x = some .local) (hy : X.env.scope.names.lookup y = some .local) (ha : PAd X P W cal [a, b] ms)
    (hw : swappedStores [.Tuple [.Name x px, .Name y py] kt pt] (.Tuple [a, b] k2 pt2) X.env = pure (some [x, y]))
    (hs : swapsWithSole [.Tuple [.Name x px, .Name y py] kt pt] (.Tuple [a, b] k2 pt2) pos.line X.env = pure false := by rfl) :
    PSd X P W cal (.Assign [.Tuple [.Name x px, .Name y py] kt pt] (.Tuple [a, b] k2 pt2) pos) (mPar ms (gMore (gNm i) (gMore (gNm j) gNo))) :=
  ps_weak (ps_par hc hN hi hj hij hx hy ha hw hs) fun D σ H h => by
    refine h.then fun F ι ρ st H1 rs vs hE hS rr h1 => ?_
    match rs, rr with
    | [], rr => exact h1.elim
    | [r], rr => exact h1.elim
    | [r, q], rr =>
      obtain ⟨v, w, rfl, r1, r2⟩ := rr.two
      exact ⟨v, w, rfl, h1.now hS _ (by simp) ((hE.set r1).set r2)⟩
    | r :: q :: p :: l, rr => exact h1.elim
theorem RRs.three {F : Hp} {ι : List Addr} {r q p : R} {vs : List V} (h : RRs P F ι [r, q, p] vs) : ∃ u v w, vs = [u, v, w] ∧ RR P F ι r u ∧ RR P F ι q v ∧ RR P F ι p w := by
  cases h with
  | cons a b => obtain ⟨v, w, rfl, c, d⟩ := RRs.two b; exact ⟨_, v, w, rfl, a, c, d⟩
/-- three plain names -/
theorem psd_par3 {j l : Nat} {y z : Str} {a b c : Expr} {ms : ML} {px py pz pt : Pos} {kt k2 : Nat} {pt2 : Pos} (hc : X.calm = true) (hN : X.N.Nodup) (hi : X.N[i]? = some x) (hj : X.N[j]? = some y) (hl : X.N[l]? = some z) (hij : i ≠ j) (hil : i ≠ l) (hjl : j ≠ l)
    (hx : X.env.scope.names.lookup x = some .local) (hy : X.env.scope.names.lookup y = some .local) (hz : X.env.scope.names.lookup z = some .local) (ha : PAd X P W cal [a, b, c] ms)
    (hw : swappedStores [.Tuple [.Name x px, .Name y py, .Name z pz] kt pt] (.Tuple [a, b, c] k2 pt2) X.env = pure (some [x, y, z]))
    (hs : swapsWithSole [.Tuple [.Name x px, .Name y py, .Name z pz] kt pt] (.Tuple [a, b, c] k2 pt2) pos.line X.env = pure false := by rfl) :
    PSd X P W cal (.Assign [.Tuple [.Name x px, .Name y py, .Name z pz] kt pt] (.Tuple [a, b, c] k2 pt2) pos) (mPar ms (gMore (gNm i) (gMore (gNm j) (gMore (gNm l) gNo)))) :=
  ps_weak (ps_par3 hc hN hi hj hl hij hil hjl hx hy hz ha hw hs) fun D σ H h => by
    refine h.then fun F ι ρ st H1 rs vs hE hS rr h1 => ?_
    match rs, rr with
    | [], rr => exact h1.elim
    | [r], rr => exact h1.elim
    | [r, q], rr => exact h1.elim
    | [r, q, p], rr =>
      obtain ⟨u, v, w, rfl, r1, r2, r3⟩ := rr.three
      exact ⟨u, v, w, rfl, h1.now hS _ (by simp) (((hE.set r1).set r2).set r3)⟩
    | r :: q :: p :: s :: l, rr => exact h1.elim
end
end Mp
end
section
set_option Elab.async false
set_option linter.all false
set_option maxRecDepth 100000
set_option autoImplicit false
/-! Loops of the small machine; name op= e. -/
namespace Mp
open PySem PySem.Spec PyProof.Rows L2

section
variable {P : Pm} {W : WX} {cal : Cal} {X : Cx}
/-! ### name op= e -/
def mAug (i : Nat) (sem : Sem2) (m : M) : MS := fun cal ρ st => match ρ[i]? with
  | some (some r) => (m cal ρ st).bind fun y st1 => (sem r y st1).bind fun z st2 => .ok (.nx (ρ.set i (some z))) st2
  | _ => .stk
abbrev OpI (X : Cx) (P : Pm) (op : Operator) (sem : Sem2) : Prop := PIp X op (rSem P sem)
def semIAdd : Sem2 := fun x y st => match x, y with
  | .dat (.int i), .dat (.int j) => .ok (.dat (.int (i + j))) st
  | .loc n, y => match st[n]?, (lstX st y).bind datsOf with
    | some (.lst rs), some ds => if rs.length + ds.length ≤ sizeLine then .ok (.loc n) (st.set n (.lst (rs ++ ds.map R.dat))) else .stk
    | _, _ => .stk
  | _, _ => .stk
theorem o_iadd : OpI X P .Add semIAdd := by
  rintro pins s σ H vx vy v u Q I rx ry ⟨F, ι, st, x, y, E, S, hx, hy, h⟩
  unfold semIAdd at h
  split at h
  · simp only [RR, RD] at hx hy
    subst hx hy
    exact ip_add pins s σ H _ _ v u Q I rx ry ⟨_, _, rfl, rfl, h.val S (by simp only [RR, RD])⟩
  · rename_i n y _
    split at h
    · rename_i rs ds e1 e2
      split at h
      · rename_i hl
        obtain ⟨qs, e3, e4⟩ := Option.bind_eq_some_iff.mp e2
        obtain ⟨b, zs, rfl, q1, d1⟩ := S.lstX e3 hy
        rw [datsOf_eq e4] at d1
        obtain ⟨a, rfl, ha, xs, q2, d2⟩ := S.loc e1 hx
        have l1 := d1.len
        have l2 := d2.len
        rw [List.length_map] at l1
        refine iop_ext pins s σ H _ _ v u Q I rx ry ⟨a, b, xs, zs, rfl, rfl, q2, q1, by omega, ?_⟩
        refine h _ _ _ (Up.set S ha) (S.set e1 trivial ha ⟨_, upd_same, d2.app (RDs.rrs _ _ (RDs.of_rrs _ _ d1))⟩ trivial) _ ⟨a, ha, rfl⟩
      · exact h.elim
    · exact h.elim
  · exact h.elim
theorem psd_aug {i : Nat} {x : Str} {e : Expr} {me : M} {op : Operator} {sem : Sem2} {pos pos' : Pos} (hN : X.N.Nodup) (hi : X.N[i]? = some x) (hx : Loc X.env.scope x) (he : PEd X P W cal e me) (ho : OpI X P op sem)
    (hf : X.fn x = true ∨ X.env.scope.names.lookup x = some .local := by first | exact .inl rfl | exact .inr rfl | assumption) : PSd X P W cal (.AugAssign (.Name x pos') op e pos) (mAug i sem me) :=
  ps_weak (ps_aug hN hi hx he ho hf) fun D σ H ⟨F, ι, ρ, st, hE, hS, hP⟩ => by
    unfold mAug at hP
    split at hP
    · rename_i r e1
      obtain ⟨v, e2, rv⟩ := hE.2 i r e1
      refine ⟨v, e2, F, ι, ρ, st, hE, hS, Post.exc ((Post.bind hP).imp fun y st1 F1 ι1 H1 u1 s1 h1 vy ry => ?_) fun _ _ _ x => x.here⟩
      refine ⟨F1, ι1, st1, r, y, _, s1, u1.rr rv, ry, (Post.bind h1).imp fun z st2 F2 ι2 H2 u2 s2 h2 vz rz => ?_⟩
      exact h2.now s2 _ (by simp) (((u1.trans u2).env hE).set rz)
    · exact hP.elim

/-! ### what a loop walks -/
/-- items that stand, or the live list at a place -/
inductive Itm where
  | items (rs : List R)
  | live (n : Nat)
def itAt (it : Itm) (st : Sto) : Option (List R) := match it with
  | .items rs => some rs
  | .live n => match st[n]? with
    | some (.lst rs) => some rs
    | _ => none
abbrev MI := Cal → Rho → Sto → Out Itm
/-- J yields the items of it, from here on -/
def ItR (P : Pm) (J : It) (it : Itm) (F0 : Hp) (ι0 : List Addr) (H0 : Hp) : Prop :=
  ∀ (i : Nat) (F : Hp) (ι : List Addr) (st : Sto) (H : Hp) (rs : List R), Up F0 ι0 H0 F ι H → Sm P F ι st H → itAt it st = some rs →
    (∀ r, rs[i]? = some r → J.go i H ∧ ∀ x H', J.yld i H x H' → ∃ F', Up F ι H F' ι H' ∧ Sm P F' ι st H' ∧ RR P F' ι r x) ∧ (rs.length ≤ i → J.stop i H)
def TId (P : Pm) (W : WX) (cal : Cal) (m : MI) : TI := fun σ H Rk => ∃ F ι ρ st, EnvR P F ι ρ σ ∧ Sm P F ι st H ∧
  Post P (fun cls dx H' => W cls dx σ H') F ι H (m cal ρ st) (fun it _ F' ι' H' => ∀ J, ItR P J it F' ι' H' → Rk J H')
abbrev PId (X : Cx) (P : Pm) (W : WX) (cal : Cal) (tg iter : Expr) (m : MI) : Prop := PI X tg iter (TId P W cal m)
theorem pi_weak {tg iter : Expr} {w w' : TI} (h : PI X tg iter w) (k : ∀ σ H Rk, w' σ H Rk → w σ H Rk) : PI X tg iter w' := ⟨fun pins s σ H Rk I q => h.run pins s σ H Rk I (k σ H Rk q)⟩

/-- a list or a tuple -/
def iSeq (K : PySem.W.Frag) (tl : TE) : TI := fun σ H Rk => tl σ H fun x H1 => ∃ a, x = .ref a ∧ (((∃ xs, SqL K H1 a xs) ∧ Rk (Itl K a) H1) ∨ ((∃ xs, SqT K H1 a xs) ∧ Rk (Itt K a) H1))
theorem pi_seq {tg l : Expr} {tl : TE} (hl : PE X l tl) : PI X tg l (iSeq X.K tl) := by
  refine ⟨fun pins s σ H Rk I h => ?_⟩
  refine thn (hl.run pins s σ H _ I h) fun v s1 ⟨x, H1, I1, r1, q1⟩ => ?_
  obtain ⟨a, e, ⟨⟨xs, hq⟩, q⟩ | ⟨⟨xs, hq⟩, q⟩⟩ := q1
  · subst e
    cases r1
    obtain ⟨its, rv, p, hz⟩ := I1.list hq
    refine wpAny_pyIter_list p.isList ?_
    refine ⟨s1.heap.objs.size, [s1.heap.objs.size], _, _, H1, rfl, I1.kept (t' := s1.toks) fun b o e => Heap.get?_push_of_some _ e, turn_list a _, ⟨_, Heap.get?_push_size _ rfl, rfl, rfl⟩, fun b hb => ?_, q⟩
    have e : b = s1.heap.objs.size := by simpa using hb
    subst e
    exact I1.fpOk (Nat.le_refl _) (I1.hok.fresh (Nat.le_refl _))
  · subst e
    cases r1
    obtain ⟨its, rv, p, hz⟩ := I1.tuple hq
    refine wpAny_pyIter_tuple (show s1.heap.IsTuple a its.toArray from p) ?_
    refine ⟨s1.heap.objs.size, [s1.heap.objs.size], _, _, H1, rfl, I1.kept (t' := s1.toks) fun b o e => Heap.get?_push_of_some _ e, turn_tuple a _, ⟨_, Heap.get?_push_size _ rfl, rfl, rfl⟩, fun b hb => ?_, q⟩
    have e : b = s1.heap.objs.size := by simpa using hb
    subst e
    exact I1.fpOk (Nat.le_refl _) (I1.hok.fresh (Nat.le_refl _))
def fSeq (r : R) : MI := fun _ _ st => match r with
  | .dat (.list ds) => .ok (.items (ds.map R.dat)) st
  | .dat (.tuple ds) => .ok (.items (ds.map R.dat)) st
  | .loc n => match st[n]? with
    | some (.lst _) => .ok (.live n) st
    | _ => .stk
  | .scr ns => .ok (.items (ns.map fun i => R.dat (.int i))) st
  | _ => .stk
def mSeqI (m : M) : MI := mBind m fSeq
theorem sqL_inj {K : PySem.W.Frag} {F F' : Hp} {ι ι' : List Addr} {H H' : Hp} {a : Addr} {vs : List V} (hF : F a = some (.lst vs)) (u : Up F ι H F' ι' H') : F' a = some (.lst vs) := u.le _ _ hF
theorem pid_seq {tg l : Expr} {m : M} (hk : ∀ a ns, P.kS a ns → ∀ H, SqL X.K H a (ns.map V.int)) (hl : PEd X P W cal l m) : PId X P W cal tg l (mSeqI m) :=
  pi_weak (pi_seq hl) fun σ H Rk h => by
    obtain ⟨F, ι, ρ, st, hE, hS, hP⟩ := h
    refine ⟨F, ι, ρ, st, hE, hS, (Post.bind hP).imp fun r st1 F1 ι1 H1 u1 s1 h1 v rv => ?_⟩
    unfold fSeq at h1
    split at h1
    · rename_i ds
      simp only [RR, RD] at rv
      obtain ⟨a, vs, rfl, hF, d1⟩ := rv
      refine ⟨a, rfl, .inl ⟨⟨vs, .of (s1.lstF hF)⟩, h1.now s1 _ fun i F' ι' st' H' rs u s e => ?_⟩⟩
      cases e
      have hH := s.lstF (u.le _ _ hF)
      refine ⟨fun r hr => ?_, fun hl => ⟨vs, .of hH, by rw [List.length_map] at hl; rw [← RDs.len _ _ d1]; exact hl⟩⟩
      rw [List.getElem?_map] at hr
      obtain ⟨d, hd, rfl⟩ := Option.map_eq_some_iff.mp hr
      obtain ⟨w, hw, rw'⟩ := d1.get hd
      refine ⟨⟨vs, w, .of hH, hw⟩, fun x H'' y => ?_⟩
      obtain ⟨rfl, y⟩ := y
      have := y vs (.of hH)
      rw [hw] at this
      cases this
      exact ⟨F', .refl, s, RD.mono u.le _ _ rw'⟩
    · rename_i ds
      simp only [RR, RD] at rv
      obtain ⟨a, vs, rfl, hF, d1⟩ := rv
      refine ⟨a, rfl, .inr ⟨⟨vs, .of (s1.tupF hF)⟩, h1.now s1 _ fun i F' ι' st' H' rs u s e => ?_⟩⟩
      cases e
      have hH := s.tupF (u.le _ _ hF)
      refine ⟨fun r hr => ?_, fun hl => ⟨vs, .of hH, by rw [List.length_map] at hl; rw [← RDs.len _ _ d1]; exact hl⟩⟩
      rw [List.getElem?_map] at hr
      obtain ⟨d, hd, rfl⟩ := Option.map_eq_some_iff.mp hr
      obtain ⟨w, hw, rw'⟩ := d1.get hd
      refine ⟨⟨vs, w, .of hH, hw⟩, fun x H'' y => ?_⟩
      obtain ⟨rfl, y⟩ := y
      have := y vs (.of hH)
      rw [hw] at this
      cases this
      exact ⟨F', .refl, s, RD.mono u.le _ _ rw'⟩
    · rename_i n
      split at h1
      · rename_i qs e1
        obtain ⟨a, rfl, ha, xs, e3, hh⟩ := s1.loc e1 rv
        refine ⟨a, rfl, .inl ⟨⟨xs, .of e3⟩, h1.now s1 _ fun i F' ι' st' H' rs u s e => ?_⟩⟩
        simp only [itAt] at e
        · split at e
          · rename_i rs' e4
            cases e
            obtain ⟨b, hb, ⟨vs, e5, h5⟩, _⟩ := s.obj _ _ e4
            have ha' : ι'[n]? = some a := pre_get u.pre ha
            rw [ha'] at hb; cases hb
            have h6 : RRs P F' ι' rs vs := h5.untake
            refine ⟨fun r hr => ?_, fun hl => ⟨vs, .of e5, by rw [← h6.len]; exact hl⟩⟩
            obtain ⟨w, hw, rw'⟩ := h6.get hr
            refine ⟨⟨vs, w, .of e5, hw⟩, fun x H'' y => ?_⟩
            obtain ⟨rfl, y⟩ := y
            have := y vs (.of e5)
            rw [hw] at this
            cases this
            exact ⟨F', .refl, s, rw'⟩
          · cases e
      · exact h1.elim
    · rename_i ns
      obtain ⟨a, rfl, hc⟩ := rv
      have hq : ∀ (F' : Hp) (H' : Hp), (∀ x u, F1 x = some u → F' x = some u) → (∀ x u, F' x = some u → Holds H' x u) → SqL X.K H' a (ns.map V.int) := fun F' H' h1 h2 => by
        rcases hc with ⟨o, z⟩ | z
        · rcases h2 _ _ (h1 _ _ z) with y | ⟨y, _⟩
          · exact .inl (.inr ⟨o, y⟩)
          · exact y.elim
        · exact hk a ns z H'
      refine ⟨a, rfl, .inl ⟨⟨_, hq F1 H1 (fun _ _ e => e) s1.le⟩, h1.now s1 _ fun i F' ι' st' H' rs u s e => ?_⟩⟩
      cases e
      have hH := hq F' H' u.le s.le
      refine ⟨fun r hr => ?_, fun hl => ⟨_, hH, by rw [List.length_map] at hl ⊢; exact hl⟩⟩
      rw [List.getElem?_map] at hr
      obtain ⟨d, hd, rfl⟩ := Option.map_eq_some_iff.mp hr
      have hw : (ns.map V.int)[i]? = some (V.int d) := by rw [List.getElem?_map, hd]; rfl
      refine ⟨⟨_, V.int d, hH, hw⟩, fun x H'' y => ?_⟩
      obtain ⟨rfl, y⟩ := y
      have := y _ hH
      rw [hw] at this
      cases this
      exact ⟨F', .refl, s, by simp only [RR, RD]⟩
    · exact h1.elim

/-! ### ranges -/
def fRng1 (rs : List R) : MI := fun _ _ st => match rs with
  | [.dat (.int j)] => if -(2 ^ 62) ≤ j ∧ j < 2 ^ 62 then .ok (.items ((List.range j.toNat).map fun k => R.dat (.int (0 + (k : Nat))))) st else .stk
  | _ => .stk
def fRng2 (rs : List R) : MI := fun _ _ st => match rs with
  | [.dat (.int i), .dat (.int j)] => if -(2 ^ 62) ≤ i ∧ i < 2 ^ 62 ∧ -(2 ^ 62) ≤ j ∧ j < 2 ^ 62 then .ok (.items ((List.range (j - i).toNat).map fun k => R.dat (.int (i + (k : Nat))))) st else .stk
  | _ => .stk
theorem itr_R {F : Hp} {ι : List Addr} {H : Hp} (lo : Int) (n : Nat) : ItR P (Itr lo n) (.items ((List.range n).map fun k => R.dat (.int (lo + (k : Nat))))) F ι H := by
  intro i F' ι' st' H' rs u s e
  cases e
  refine ⟨fun r hr => ?_, fun hl => by
    rw [List.length_map, List.length_range] at hl
    exact hl⟩
  rw [List.getElem?_map] at hr
  obtain ⟨k, hk, rfl⟩ := Option.map_eq_some_iff.mp hr
  obtain ⟨hi, rfl⟩ := List.getElem?_eq_some_iff.mp hk
  rw [List.length_range] at hi
  refine ⟨hi, fun x H'' y => ?_⟩
  obtain ⟨rfl, rfl⟩ := y
  refine ⟨F', .refl, s, ?_⟩
  rw [List.getElem_range]
  simp only [RR, RD]
theorem pid_rng1 {tg a : Expr} {p pos : Pos} {ms : ML} (hg : Gl X "range") (hm : X.mg "range" = none) (ha : PAd X P W cal [a] ms) (hs : starEach [a] X.env = [(false, eval a X.env)] := by rfl) :
    PId X P W cal tg (.Call (.Name "range" p) [a] [] pos) (mBind ms fRng1) :=
  pi_weak (pi_range1 hg hm ha hs) fun σ H Rk ⟨F, ι, ρ, st, hE, hS, hP⟩ => by
    refine ⟨F, ι, ρ, st, hE, hS, (Post.bind hP).imp fun rs st1 F1 ι1 H1 u1 s1 h1 vs rv => ?_⟩
    unfold fRng1 at h1
    split at h1
    · split at h1
      · rename_i j hj
        obtain ⟨v, rfl, h2⟩ := rv.one
        simp only [RR, RD] at h2
        subst h2
        exact ⟨j, rfl, hj.1, hj.2, h1.now s1 _ (itr_R 0 j.toNat)⟩
      · exact h1.elim
    · exact h1.elim
theorem pid_rng2 {tg a b : Expr} {p pos : Pos} {ms : ML} (hg : Gl X "range") (hm : X.mg "range" = none) (ha : PAd X P W cal [a, b] ms) (hs : starEach [a, b] X.env = [(false, eval a X.env), (false, eval b X.env)] := by rfl) (hs2 : starEach [b] X.env = [(false, eval b X.env)] := by rfl) :
    PId X P W cal tg (.Call (.Name "range" p) [a, b] [] pos) (mBind ms fRng2) :=
  pi_weak (pi_range2 hg hm ha hs hs2) fun σ H Rk ⟨F, ι, ρ, st, hE, hS, hP⟩ => by
    refine ⟨F, ι, ρ, st, hE, hS, (Post.bind hP).imp fun rs st1 F1 ι1 H1 u1 s1 h1 vs rv => ?_⟩
    unfold fRng2 at h1
    split at h1
    · split at h1
      · rename_i i j hj
        obtain ⟨v, w, rfl, h2, h3⟩ := rv.two
        simp only [RR, RD] at h2 h3
        subst h2 h3
        exact ⟨i, j, rfl, hj, h1.now s1 _ (itr_R i (j - i).toNat)⟩
      · exact h1.elim
    · exact h1.elim

/-! ### for -/
def forGo (it : Itm) (g : MG) (body : MS) (cal : Cal) : Nat → Nat → Rho → Sto → Out Flw
  | 0, _, _, _ => .stk
  | k + 1, i, ρ, st => match itAt it st with
    | none => .stk
    | some rs => match rs[i]? with
      | none => .ok (.nx ρ) st
      | some r => (g r cal ρ st).bind fun ρ1 st1 => (body cal ρ1 st1).bind fun f st2 => match f with
        | .nx ρ2 => forGo it g body cal k (i + 1) ρ2 st2
        | .ct ρ2 => forGo it g body cal k (i + 1) ρ2 st2
        | .bk ρ2 => .ok (.nx ρ2) st2
        | .rt r2 => .ok (.rt r2) st2
def mFor (mi : MI) (g : MG) (body : MS) : MS := fun cal ρ st => (mi cal ρ st).bind fun it st1 => match itAt it st1 with
  | some rs => forGo it g body cal (rs.length + 1) 0 ρ st1
  | none => .stk
theorem psd_for {tg iter : Expr} {sb : List Stmt} {mi : MI} {g : MG} {body : MS} {pos : Pos} (hp : PassesOwn (model X.prog X.w) X.A X.env X.xe) (hc : X.calm = true) (hi : PId X P W cal tg iter mi) (hg : PGd X P W cal tg g) (hb : PSsd X P W cal sb body)
    (hs : ∀ x, foldedSetIterable iter X.env x = pure x := by intro _; rfl) : PSd X P W cal (.For tg iter sb [] pos) (mFor mi g body) :=
  ps_weak (ps_for hp hc hi hg hb hs) fun D σ H ⟨F, ι, ρ, st, hE, hS, hP⟩ => by
    refine ⟨F, ι, ρ, st, hE, hS, Post.exc ((Post.bind hP).imp fun it st1 F1 ι1 H1 u1 s1 h1 J hJ => ?_) fun _ _ _ x => x.here⟩
    cases e0 : itAt it st1 with
    | none => rw [e0] at h1; exact h1.elim
    | some rs0 =>
    rw [e0] at h1
    refine ⟨fun i m σ' H' => σ'.length = σ.length ∧ ∃ F' ι' ρ' st', EnvR P F' ι' ρ' σ' ∧ Sm P F' ι' st' H' ∧ Up F1 ι1 H1 F' ι' H' ∧ Post P (WE W σ) F' ι' H' (forGo it g body cal m i ρ' st') (FlwR P σ D),
      ⟨_, rfl, F1, ι1, ρ, st1, u1.env hE, s1, .refl, h1⟩, ?_⟩
    rintro i m σ' H' ⟨hl, F', ι', ρ', st', hE', hS', hU, h2⟩
    cases m with
    | zero => exact h2.elim
    | succ k =>
      unfold forGo at h2
      cases e1 : itAt it st' with
      | none => rw [e1] at h2; exact h2.elim
      | some rs =>
        rw [e1] at h2
        obtain ⟨go, stop⟩ := hJ i F' ι' st' H' rs hU hS' e1
        cases e2 : rs[i]? with
        | none =>
          have h2' : Post P (WE W σ) F' ι' H' (.ok (.nx ρ') st') (FlwR P σ D) := by simpa only [e2] using h2
          exact .inl ⟨stop (by simpa using e2), h2'.now hS' σ' hl hE'⟩
        | some r =>
          have h3 : Post P (WE W σ) F' ι' H' ((g r cal ρ' st').bind fun ρ1 st1 => (body cal ρ1 st1).bind fun f st2 => match f with
            | .nx ρ2 => forGo it g body cal k (i + 1) ρ2 st2
            | .ct ρ2 => forGo it g body cal k (i + 1) ρ2 st2
            | .bk ρ2 => .ok (.nx ρ2) st2
            | .rt r2 => .ok (.rt r2) st2) (FlwR P σ D) := by simpa only [e2] using h2
          obtain ⟨hgo, yld⟩ := go r e2
          refine .inr ⟨hgo, fun σ2 H2 => σ2.length = σ.length ∧ ∃ F' ι' ρ' st', EnvR P F' ι' ρ' σ2 ∧ Sm P F' ι' st' H2 ∧ Up F1 ι1 H1 F' ι' H2 ∧ Post P (WE W σ) F' ι' H2 (forGo it g body cal k (i + 1) ρ' st') (FlwR P σ D),
            fun σ2 H2 n => ⟨k, Nat.lt_succ_self k, n⟩, fun x Hy hy => ?_⟩
          obtain ⟨Fy, uy, sy, ry⟩ := yld x Hy hy
          refine ⟨Fy, ι', ρ', st', r, uy.env hE', sy, ry, ?_⟩
          rw [WE.len hl]
          refine (Post.bind (Post.up h3 uy)).imp fun ρ3 st3 F3 ι3 H3 u3 s3 h4 σ3 hl3 hE3 => ?_
          refine ⟨F3, ι3, ρ3, st3, hE3, s3, ?_⟩
          have hl3' : σ3.length = σ.length := hl3.trans hl
          rw [WE.len hl3']
          refine (Post.bind h4).imp fun f st4 F4 ι4 H4 u4 s4 h5 => ?_
          have uu : Up F1 ι1 H1 F4 ι4 H4 := hU.trans (uy.trans (u3.trans u4))
          cases f with
          | nx ρ4 => exact fun σ4 hl4 hE4 => ⟨hl4.trans hl3', F4, ι4, ρ4, st4, hE4, s4, uu, h5⟩
          | ct ρ4 => exact fun σ4 hl4 hE4 => ⟨hl4.trans hl3', F4, ι4, ρ4, st4, hE4, s4, uu, h5⟩
          | bk ρ4 => exact fun σ4 hl4 hE4 => h5.now s4 σ4 (hl4.trans hl3') hE4
          | rt r4 => exact fun v rv => h5.now s4 v rv

/-! ### while -/
def whileGo (c : MB) (body : MS) (cal : Cal) : Nat → Rho → Sto → Out Flw
  | 0, _, _ => .stk
  | k + 1, ρ, st => (c cal ρ st).bind fun b st1 => if b then (body cal ρ st1).bind fun f st2 => match f with
      | .nx ρ2 => whileGo c body cal k ρ2 st2
      | .ct ρ2 => whileGo c body cal k ρ2 st2
      | .bk ρ2 => .ok (.nx ρ2) st2
      | .rt r2 => .ok (.rt r2) st2
    else .ok (.nx ρ) st1
def mWhile (fuel : Nat) (c : MB) (body : MS) : MS := fun cal ρ st => whileGo c body cal fuel ρ st
theorem psd_while {ce : Expr} {sb : List Stmt} {fuel : Nat} {c : MB} {body : MS} {pos : Pos} (hp : PassesOwn (model X.prog X.w) X.A X.env X.xe) (hc : PTd X P W cal ce c) (hb : PSsd X P W cal sb body) : PSd X P W cal (.While ce sb [] pos) (mWhile fuel c body) :=
  ps_weak (ps_while hp hc hb) fun D σ H ⟨F, ι, ρ, st, hE, hS, hP⟩ => by
    refine ⟨fun m σ' H' => σ'.length = σ.length ∧ ∃ F' ι' ρ' st', EnvR P F' ι' ρ' σ' ∧ Sm P F' ι' st' H' ∧ Post P (WE W σ) F' ι' H' (whileGo c body cal m ρ' st') (FlwR P σ D),
      ⟨fuel, rfl, F, ι, ρ, st, hE, hS, hP⟩, ?_⟩
    rintro m σ' H' ⟨hl, F', ι', ρ', st', hE', hS', h2⟩
    cases m with
    | zero => exact h2.elim
    | succ k =>
      unfold whileGo at h2
      refine ⟨F', ι', ρ', st', hE', hS', Post.exc ((Post.bind h2).imp fun b st1 F1 ι1 H1 u1 s1 h1 b' eb => ?_) fun cls dx H' x => x σ' hl⟩
      subst eb
      cases b with
      | false => exact h1.now s1 σ' hl (u1.env hE')
      | true =>
        refine ⟨fun σ2 H2 => σ2.length = σ.length ∧ ∃ F' ι' ρ' st', EnvR P F' ι' ρ' σ2 ∧ Sm P F' ι' st' H2 ∧ Post P (WE W σ) F' ι' H2 (whileGo c body cal k ρ' st') (FlwR P σ D),
          fun σ2 H2 n => ⟨k, Nat.lt_succ_self k, n⟩, ?_⟩
        refine ⟨F1, ι1, ρ', st1, u1.env hE', s1, ?_⟩
        rw [WE.len hl]
        refine (Post.bind h1).imp fun f st4 F4 ι4 H4 u4 s4 h5 => ?_
        cases f with
        | nx ρ4 => exact fun σ4 hl4 hE4 => ⟨hl4.trans hl, F4, ι4, ρ4, st4, hE4, s4, h5⟩
        | ct ρ4 => exact fun σ4 hl4 hE4 => ⟨hl4.trans hl, F4, ι4, ρ4, st4, hE4, s4, h5⟩
        | bk ρ4 => exact fun σ4 hl4 hE4 => h5.now s4 σ4 (hl4.trans hl) hE4
        | rt r4 => exact fun v rv => h5.now s4 v rv
end
end Mp
end
section
set_option Elab.async false
set_option linter.all false
set_option maxRecDepth 100000
set_option autoImplicit false
/-! List comprehensions of the small machine. -/
namespace Mp
open PySem PySem.Spec PyProof.Rows L2

/-- an exception is not foreseen here -/
def noX {α : Type} (o : Out α) : Out α := match o with
  | .exc _ _ _ => .stk
  | o => o
theorem Post.noX {P : Pm} {α : Type} {E E' : XK} {F : Hp} {ι : List Addr} {H : Hp} {o : Out α} {φ : α → Sto → Hp → List Addr → Hp → Prop} (h : Post P E F ι H (noX o) φ) : Post P E' F ι H o φ := by
  cases o with
  | ok a st => exact h
  | exc c as st => exact h.elim
  | stk => exact h
/-- the end is told from the state ahead -/
theorem Post.bind0 {P : Pm} {α β : Type} {E : XK} {F : Hp} {ι : List Addr} {H : Hp} {o : Out α} {f : α → Sto → Out β} {φ : β → Sto → Hp → List Addr → Hp → Prop} (h : Post P E F ι H (o.bind f) φ) :
    Post P E F ι H o (fun a st' _ _ _ => Post P E F ι H (f a st') φ) := by
  cases o with
  | ok a st => exact fun _ _ _ _ _ => h
  | exc c as st => exact h
  | stk => exact h
theorem Sm.adopt {P : Pm} {F : Hp} {ι : List Addr} {st : Sto} {H : Hp} {p : Addr} {u : HO} {o : MO} (s : Sm P F ι st H) (hp : H p = some u) (hn : p ∉ ι) (hF : F p = none) (hu : RO P F ι H p o) (hl : Live o) : Sm P F (ι ++ [p]) (st ++ [o]) H := by
  have s0 : Sm P F ι st (fun a => if a = p then none else H a) := s.other fun a x ha e => by
    have : a ≠ p := by
      rintro rfl
      rcases ha with z | ⟨u, z⟩
      · exact hn z
      · rw [hF] at z; cases z
    simp only [this, if_false]; exact e
  have e : upd (fun a => if a = p then none else H a) p u = H := by
    funext a
    by_cases h : a = p
    · subst h; rw [upd_same, hp]
    · rw [upd_ne h]; simp only [h, if_false]
  have q := s0.push (p := p) (u := u) (o := o) (by simp) (by rw [e]; exact hu) hl
  rw [e] at q
  exact q

/-! ### targets that keep to the block's own slots -/
def wipeR (ρ : Rho) : List Nat → Rho
  | [] => ρ
  | v :: vs => (wipeR ρ vs).set v none
theorem wipe_comm {vs : List Nat} (σ : L2.St) (i : Nat) (x : Option V) (hi : i ∈ vs) : wipe (σ.set i x) vs = wipe σ vs := by
  have key : ∀ (vs : List Nat), (i ∈ vs → wipe (σ.set i x) vs = wipe σ vs) ∧ (wipe (σ.set i x) vs).set i none = (wipe σ vs).set i none := by
    intro vs
    induction vs with
    | nil => exact ⟨fun h => by simp at h, by simp only [wipe, List.set_set]⟩
    | cons v vs ih =>
      simp only [wipe]
      have second : ((wipe (σ.set i x) vs).set v none).set i none = ((wipe σ vs).set v none).set i none := by
        by_cases hv : v = i
        · subst hv
          rw [ih.2]
        · rw [List.set_comm _ _ hv, ih.2, List.set_comm _ _ hv]
      refine ⟨fun h => ?_, second⟩
      by_cases hv : v = i
      · subst hv; exact ih.2
      · rcases List.mem_cons.mp h with z | z
        · exact absurd z.symm hv
        · rw [ih.1 z]
  exact (key vs).1 hi
theorem wipe_idem (σ : L2.St) (vs : List Nat) : wipe (wipe σ vs) vs = wipe σ vs := by
  apply List.ext_getElem?
  intro j
  have len1 := wipe_length σ vs
  by_cases hj : j ∈ vs
  · have h1 : ∀ τ : L2.St, j < τ.length → (wipe τ vs)[j]? = some none := by
      intro τ hl
      cases q : (wipe τ vs)[j]? with
      | none =>
        have := List.getElem?_eq_none_iff.mp q
        rw [wipe_length] at this; omega
      | some o =>
        cases o with
        | none => rfl
        | some v => exact absurd hj (wipe_some q).2
    by_cases hl : j < σ.length
    · rw [h1 σ hl, h1 (wipe σ vs) (by rw [len1]; exact hl)]
    · rw [List.getElem?_eq_none (by rw [wipe_length, len1]; omega), List.getElem?_eq_none (by rw [len1]; omega)]
  · rw [wipe_out hj]
theorem EnvR.wipe {P : Pm} {F : Hp} {ι : List Addr} {ρ : Rho} {σ : L2.St} (h : EnvR P F ι ρ σ) : ∀ vs : List Nat, EnvR P F ι (wipeR ρ vs) (wipe σ vs)
  | [] => h
  | v :: vs => by
    have ih := EnvR.wipe h vs
    simp only [wipeR, L2.wipe]
    refine ⟨by simpa using ih.1, fun j r e => ?_⟩
    by_cases hj : v = j
    · subst hj
      by_cases hv : v < (wipeR ρ vs).length
      · rw [List.getElem?_set_self hv] at e; cases e
      · rw [List.getElem?_eq_none (by simpa using hv)] at e; cases e
    · rw [List.getElem?_set_ne hj] at e
      rw [List.getElem?_set_ne hj]
      exact ih.2 j r e

section
variable {P : Pm} {W : WX} {cal : Cal} {X : Cx} {vs : List Nat}
def TGw (P : Pm) (cal : Cal) (vs : List Nat) (g : MG) : TG := fun v σ H Q => ∃ F ι ρ st r E, EnvR P F ι ρ σ ∧ Sm P F ι st H ∧ RR P F ι r v ∧
  Post P E F ι H (noX (g r cal ρ st)) (fun ρ' _ F' ι' H' => ∀ σ' : L2.St, wipe σ' vs = wipe σ vs → EnvR P F' ι' ρ' σ' → Q σ' H')
def TGsw (P : Pm) (cal : Cal) (vs : List Nat) (g : MGs) : TGs := fun ws σ H Q => ∃ F ι ρ st rs E, EnvR P F ι ρ σ ∧ Sm P F ι st H ∧ RRs P F ι rs ws ∧
  Post P E F ι H (noX (g rs cal ρ st)) (fun ρ' _ F' ι' H' => ∀ σ' : L2.St, wipe σ' vs = wipe σ vs → EnvR P F' ι' ρ' σ' → Q σ' H')
abbrev PGw (X : Cx) (P : Pm) (cal : Cal) (vs : List Nat) (t : Expr) (g : MG) : Prop := PG X t (TGw P cal vs g)
abbrev PGsw (X : Cx) (P : Pm) (cal : Cal) (vs : List Nat) (ts : List Expr) (g : MGs) : Prop := PGs X ts (TGsw P cal vs g)
variable {g : MG} {gs : MGs} {t : Expr} {ts : List Expr} {x : Str} {i : Nat} {pos : Pos}
theorem pgw_name (hN : X.N.Nodup) (hi : X.N[i]? = some x) (hv : i ∈ vs) (hx : Loc X.env.scope x) (hf : X.fn x = true ∨ X.env.scope.names.lookup x = some .local := by first | exact .inl rfl | exact .inr rfl | assumption) : PGw X P cal vs (.Name x pos) (gNm i) :=
  pg_weak (pg_name hN hi hx hf) fun v σ H Q ⟨F, ι, ρ, st, r, E, hE, hS, hr, h⟩ => (show Post P E F ι H (.ok _ st) _ from h).now hS _ (wipe_comm σ i _ hv) (hE.set hr)
theorem pgw_nil : PGsw X P cal vs [] gNo := pgs_weak pgs_nil fun ws σ H Q ⟨F, ι, ρ, st, rs, E, hE, hS, hr, h⟩ => by
  unfold gNo at h
  split at h
  · cases hr
    exact ⟨rfl, (show Post P E F ι H (.ok _ st) _ from h).now hS σ rfl hE⟩
  · exact h.elim
theorem noX_bind {α β : Type} (o : Out α) (f : α → Sto → Out β) : noX (o.bind f) = (noX o).bind fun a st => noX (f a st) := by
  cases o <;> rfl
theorem noX_noX {α : Type} (o : Out α) : noX (noX o) = noX o := by cases o <;> rfl
theorem pgw_cons (h1 : PGw X P cal vs t g) (h2 : PGsw X P cal vs ts gs) (hs : (assignEach (t :: ts) X.env).map (·.2) = assign t X.env :: (assignEach ts X.env).map (·.2) := by rfl) : PGsw X P cal vs (t :: ts) (gMore g gs) :=
  pgs_weak (pgs_cons h1 h2 hs) fun ws σ H Q ⟨F, ι, ρ, st, rs, E, hE, hS, hr, h⟩ => by
    unfold gMore at h
    split at h
    · cases hr with
      | cons r1 r2 =>
        rw [noX_bind] at h
        refine ⟨_, _, rfl, F, ι, ρ, st, _, E, hE, hS, r1, (Post.bind h).imp fun ρ1 st1 F1 ι1 H1 u1 s1 h1 σ' hl hE' => ?_⟩
        refine ⟨F1, ι1, ρ1, st1, _, E, hE', s1, u1.rrs r2, ?_⟩
        exact Post.imp h1 fun ρ2 st2 F2 ι2 H2 u2 s2 h2 σ2 hl2 => h2 σ2 (hl2.trans hl)
    · exact h.elim
theorem pgw_tup {k n : Nat} (hc : X.calm = true) (h : PGsw X P cal vs ts gs) (hn : (assignEach ts X.env).length = n := by rfl) (hst : (assignEach ts X.env).findIdx? (·.1) = none := by rfl) : PGw X P cal vs (.Tuple ts k pos) (gUn n gs) :=
  pg_weak (pg_tup hc h hn hst) fun v σ H Q ⟨F, ι, ρ, st, r, E, hE, hS, hr, h⟩ => by
    unfold gUn at h
    split at h
    · split at h
      · rename_i ds hl
        obtain ⟨a, vs, rfl, q1, d1⟩ := hS.tupR rfl hr
        exact ⟨a, vs, rfl, .of q1, by rw [← RDs.len _ _ d1]; exact hl, F, ι, ρ, st, _, E, hE, hS, RDs.rrs _ _ d1, h⟩
      · exact h.elim
    · exact h.elim

/-! ### a clause's tests -/
abbrev PTsd (X : Cx) (P : Pm) (W : WX) (cal : Cal) (ifs : List Expr) (m : MB) : Prop := PTs X ifs (TTd P W cal m)
def mYes : MB := fun _ _ st => .ok true st
theorem ptsd_nil : PTsd X P W cal [] mYes := ⟨fun pins s σ H Q I ⟨F, ι, ρ, st, hE, hS, hP⟩ => pts_nil.run pins s σ H Q I (hP.now hS true rfl)⟩
theorem ptsd_one {c : Expr} {m : MB} (h : PTd X P W cal c m) : PTsd X P W cal [c] m := pts_one h

/-! ### [e for t in i if c] -/
def lcGo (live : Bool) (it : Itm) (g : MG) (ts : MB) (me : M) (cal : Cal) (ρ : Rho) : Nat → Nat → List R → Sto → Out R
  | 0, _, _, _ => .stk
  | k + 1, i, acc, st => match itAt it st with
    | none => .stk
    | some rs => match rs[i]? with
      | none => mkL live acc st
      | some r => (noX (g r cal ρ st)).bind fun ρ1 st1 => (noX (ts cal ρ1 st1)).bind fun b st2 => if b then (noX (me cal ρ1 st2)).bind fun y st3 => if acc.length < sizeLine then lcGo live it g ts me cal ρ k (i + 1) (acc ++ [y]) st3 else .stk
        else lcGo live it g ts me cal ρ k (i + 1) acc st2
def mLc (live : Bool) (vs : List Nat) (mi : MI) (g : MG) (ts : MB) (me : M) : M := fun cal ρ st => (mi cal ρ st).bind fun it st1 => match itAt it st1 with
  | some rs => lcGo live it g ts me cal (wipeR ρ vs) (rs.length + 1) 0 [] st1
  | none => .stk
abbrev W0 : WX := fun _ _ _ _ => False
/-- what holds at the turn: the list so far at D -/
def LcI (P : Pm) (D : Addr) (F1 : Hp) (ι1 : List Addr) (H1 : Hp) (acc : List R) (F : Hp) (ι : List Addr) (st : Sto) (H : Hp) : Prop :=
  Sm P F ι st H ∧ Up F1 ι1 H1 F ι H ∧ D ∉ ι ∧ F D = none ∧ ∃ accV, H D = some (.lst accV) ∧ RRs P F ι acc accV
theorem LcI.step {D : Addr} {F1 F F' : Hp} {ι1 ι ι' : List Addr} {H1 H H' : Hp} {acc : List R} {st st' : Sto} (h : LcI P D F1 ι1 H1 acc F ι st H) (u : Up F ι H F' ι' H') (s : Sm P F' ι' st' H') : LcI P D F1 ι1 H1 acc F' ι' st' H' := by
  obtain ⟨_, hU, hn, hF, accV, hD, hr⟩ := h
  have hD' := u.fr _ _ hD hn
  refine ⟨s, hU.trans u, fun hm => ?_, ?_, accV, hD', u.rrs hr⟩
  · rcases u.new _ hm with z | z
    · exact hn z
    · rw [hD] at z; cases z
  · cases q : F' D with
    | none => rfl
    | some w =>
      exfalso
      rcases u.nf _ _ q with z | z | z | ⟨xs, rfl⟩
      · rw [hF] at z; cases z
      · rw [hD] at z; cases z
      · exact hn z
      · rcases s.le _ _ q with y | ⟨y, _⟩
        · rw [hD'] at y; cases y
        · exact y.elim
theorem LcI.app {D : Addr} {F1 F : Hp} {ι1 ι : List Addr} {H1 H : Hp} {acc : List R} {st : Sto} {y : R} {v : V} {accV : List V} (h : LcI P D F1 ι1 H1 acc F ι st H) (h0 : H1 D = none) (hD : H D = some (.lst accV)) (r : RR P F ι y v) :
    LcI P D F1 ι1 H1 (acc ++ [y]) F ι st (upd H D (.lst (accV ++ [v]))) := by
  obtain ⟨s, hU, hn, hF, accV', hD', hr⟩ := h
  rw [hD] at hD'; cases hD'
  refine ⟨s.out hn hF, ⟨hU.le, hU.pre, fun a u e hm => ?_, hU.new, hU.nf⟩, hn, hF, _, upd_same, hr.app (.cons r .nil)⟩
  rw [upd_ne (show a ≠ D by rintro rfl; rw [h0] at e; cases e)]
  exact hU.fr a u e hm
theorem LcI.fin {live : Bool} {E : XK} {Q : VK} {D : Addr} {F1 F : Hp} {ι1 ι : List Addr} {H1 H : Hp} {acc : List R} {st : Sto} (h : LcI P D F1 ι1 H1 acc F ι st H) (h0 : H1 D = none) (p : Post P E F1 ι1 H1 (mkL live acc st) (Ret P Q)) : Q (.ref D) H := by
  obtain ⟨s, hU, hn, hF, accV, hD, hr⟩ := h
  unfold Mp.mkL at p
  split at p
  · have hU' : Up F1 ι1 H1 F (ι ++ [D]) H := ⟨hU.le, hU.pre.trans (List.prefix_append _ _), hU.fr, fun a ha => by
      rcases List.mem_append.mp ha with z | z
      · exact hU.new a z
      · rw [List.mem_singleton.mp z]; exact .inr h0, hU.nf⟩
    refine p F (ι ++ [D]) H hU' (s.adopt hD hn hF ⟨accV, hD, hr⟩ trivial) (.ref D) ⟨D, ?_, rfl⟩
    rw [← s.len]; simp
  · split at p
    · rename_i ds e
      rw [datsOf_eq e] at hr
      have hU' : Up F1 ι1 H1 (upd F D (.lst accV)) ι H := ⟨fun a u z => le_upd hF a u (hU.le a u z), hU.pre, hU.fr, hU.new, fun a u z => by
        by_cases ha : a = D
        · subst ha; exact .inr (.inl h0)
        · rw [upd_ne ha] at z; exact hU.nf a u z⟩
      refine p _ ι H hU' (s.frz hD hF hn) (.ref D) ?_
      simp only [RR, RD]
      exact ⟨D, accV, rfl, upd_same, RDs.mono (le_upd hF) _ _ (RDs.of_rrs _ _ hr)⟩
    · exact p.elim
theorem pd_lc (live : Bool) {elt tg iter : Expr} {ifs : List Expr} {scope : Scope} {own : List (Str × Nat)} {mi : MI} {tt : MB} {me : M} (hc : X.calm = true) (hN : X.N.Nodup) (hi : PId X P W cal tg iter mi) (ok : BlkOk X.N X.env.scope scope own)
    (hg : ∀ (s : Shared) (H : Hp) (C : Addr) (cl : List (Str × Addr)) (fp : List Addr), PGw (X.blk s H scope (compEnvC scope cl C X.env) fp) P cal (own.map (·.2)) tg g)
    (ht : ∀ (s : Shared) (H : Hp) (C : Addr) (cl : List (Str × Addr)) (fp : List Addr), PTsd (X.blk s H scope (compEnvC scope cl C X.env) fp) P W0 cal ifs tt)
    (he : ∀ (s : Shared) (H : Hp) (C : Addr) (cl : List (Str × Addr)) (fp : List Addr), PEd (X.blk s H scope (compEnvC scope cl C X.env) fp) P W0 cal elt me) (hs : ∀ x, foldedSetIterable iter X.env x = pure x := by intro _; rfl) :
    PEd X P W cal (.ListComp elt [⟨tg, iter, ifs, 0⟩] scope pos) (mLc live (own.map (·.2)) mi g tt me) :=
  pe_weak (pe_lc hc hN hi ok hg ht he hs) fun σ H Q h => lc_link h
where
  lc_link {live : Bool} {own : List Nat} {mi : MI} {tt : MB} {me : M} {σ : L2.St} {H : Hp} {Q : VK} (h : Td P W cal (mLc live own mi g tt me) (RR P) σ H Q) : tLc (TId P W cal mi) (TGw P cal own g) (TTd P W0 cal tt) (TEd P W0 cal me) own σ H Q := by
    obtain ⟨F, ι, ρ, st, hE, hS, hP⟩ := h
    refine ⟨F, ι, ρ, st, hE, hS, (Post.bind hP).imp fun it st1 F1 ι1 H1 u1 s1 h1 J hJ D hD => ?_⟩
    cases e0 : itAt it st1 with
    | none => rw [e0] at h1; exact h1.elim
    | some rs0 =>
    rw [e0] at h1
    have hE1 : EnvR P F1 ι1 (wipeR ρ own) (wipe σ own) := (u1.env hE).wipe own
    refine ⟨fun i m H' => ∃ acc F' ι' st', LcI P D F1 ι1 H1 acc F' ι' st' H' ∧ Post P (fun cls dx H' => W cls dx σ H') F1 ι1 H1 (lcGo live it g tt me cal (wipeR ρ own) m i acc st') (Ret P Q),
      ⟨_, [], F1, ι1, st1, ⟨s1.new hD, Up.nw s1 hD, s1.nin hD, s1.fnone hD, [], upd_same, .nil⟩, h1⟩, ?_⟩
    rintro i m H' ⟨acc, F', ι', st', L, h2⟩
    cases m with
    | zero => exact h2.elim
    | succ k =>
      unfold lcGo at h2
      cases e1 : itAt it st' with
      | none => rw [e1] at h2; exact h2.elim
      | some rs =>
        rw [e1] at h2
        obtain ⟨go, stop⟩ := hJ i F' ι' st' H' rs L.2.1 L.1 e1
        cases e2 : rs[i]? with
        | none =>
          have h2' : Post P (fun cls dx H' => W cls dx σ H') F1 ι1 H1 (mkL live acc st') (Ret P Q) := by simpa only [e2] using h2
          exact .inl ⟨stop (by simpa using e2), L.fin hD h2'⟩
        | some r =>
          have h3 : Post P (fun cls dx H' => W cls dx σ H') F1 ι1 H1 ((noX (g r cal (wipeR ρ own) st')).bind fun ρ1 st1 => (noX (tt cal ρ1 st1)).bind fun b st2 => if b then (noX (me cal ρ1 st2)).bind fun y st3 => if acc.length < sizeLine then lcGo live it g tt me cal (wipeR ρ own) k (i + 1) (acc ++ [y]) st3 else .stk
            else lcGo live it g tt me cal (wipeR ρ own) k (i + 1) acc st2) (Ret P Q) := by simpa only [e2] using h2
          obtain ⟨hgo, yld⟩ := go r e2
          refine .inr ⟨hgo, fun H2 => ∃ acc F' ι' st', LcI P D F1 ι1 H1 acc F' ι' st' H2 ∧ Post P (fun cls dx H' => W cls dx σ H') F1 ι1 H1 (lcGo live it g tt me cal (wipeR ρ own) k (i + 1) acc st') (Ret P Q),
            fun H2 n => ⟨k, Nat.lt_succ_self k, n⟩, fun x Hy hy => ?_⟩
          obtain ⟨Fy, uy, sy, ry⟩ := yld x Hy hy
          have Ly := L.step uy sy
          refine ⟨Fy, ι', wipeR ρ own, st', r, fun cls dx H' => W cls dx σ H', Ly.2.1.env hE1, sy, ry, ?_⟩
          refine ((Post.bind0 h3).up Ly.2.1).imp fun ρ3 st3 F3 ι3 H3 u3 s3 h4 σ3 hw hE3 => ?_
          have L3 := Ly.step u3 s3
          refine ⟨by rw [hw]; exact wipe_idem σ own, F3, ι3, ρ3, st3, hE3, s3, Post.noX (((Post.bind0 h4).up L3.2.1).imp fun b st4 F4 ι4 H4 u4 s4 h5 b' eb => ?_)⟩
          subst eb
          have L4 := L3.step u4 s4
          cases b with
          | false => exact ⟨acc, F4, ι4, st4, L4, h5⟩
          | true =>
            refine ⟨F4, ι4, ρ3, st4, u4.env hE3, s4, Post.noX (((Post.bind0 h5).up L4.2.1).imp fun y st5 F5 ι5 H5 u5 s5 h6 v rv => ?_)⟩
            have L5 := L4.step u5 s5
            obtain ⟨accV, hD5, hr5⟩ := L5.2.2.2.2
            split at h6
            · rename_i hz
              exact ⟨accV, hD5, by rw [← hr5.len]; exact hz, acc ++ [y], F5, ι5, st5, L5.app hD hD5 rv, h6⟩
            · exact h6.elim
end
end Mp
namespace Mp
open PySem PySem.Spec PyProof.Rows L2
section
variable {P : Pm} {W : WX} {cal : Cal} {X : Cx} {g : MG}
/-- name = [..] on one line -/
theorem psd_setLc (live : Bool) {i : Nat} {y : Str} {py : Pos} {elt tg iter : Expr} {ifs : List Expr} {scope : Scope} {own : List (Str × Nat)} {pos spos : Pos} {mi : MI} {tt : MB} {me : M} (hc : X.calm = true) (hN : X.N.Nodup) (hy : X.N[i]? = some y) (hyl : X.env.scope.names.lookup y = some .local)
    (hsw : swapsWith (.ListComp elt [⟨tg, iter, ifs, 0⟩] scope pos) (some (.Name y py)) spos.line X.env = pure true) (hi : PId X P W cal tg iter mi) (ok : BlkOk X.N X.env.scope scope own)
    (hg : ∀ (s : Shared) (H : Hp) (C : Addr) (cl : List (Str × Addr)) (fp : List Addr), PGw (X.blk s H scope (compEnvC scope cl C X.env) fp) P cal (own.map (·.2)) tg g)
    (ht : ∀ (s : Shared) (H : Hp) (C : Addr) (cl : List (Str × Addr)) (fp : List Addr), PTsd (X.blk s H scope (compEnvC scope cl C X.env) fp) P W0 cal ifs tt)
    (he : ∀ (s : Shared) (H : Hp) (C : Addr) (cl : List (Str × Addr)) (fp : List Addr), PEd (X.blk s H scope (compEnvC scope cl C X.env) fp) P W0 cal elt me) (hs : ∀ x, foldedSetIterable iter X.env x = pure x := by intro _; rfl) :
    PSd X P W cal (.Assign [.Name y py] (.ListComp elt [⟨tg, iter, ifs, 0⟩] scope pos) spos) (mSet i (mLc live (own.map (·.2)) mi g tt me)) :=
  ps_weak (ps_setLc hc hN hy hyl hsw hi ok hg ht he hs) fun D σ H h => by
    have h2 : Td P W cal (mLc live (own.map (·.2)) mi g tt me) (RR P) σ H (fun x H1 => gName i x σ H1 D.nx) := h.then fun F ι ρ st H1 a b hE hS rb h1 => h1.now hS _ (by simp) (hE.set rb)
    exact pd_lc.lc_link h2
end
end Mp
end
section
set_option Elab.async false
set_option linter.all false
set_option maxRecDepth 100000
set_option autoImplicit false
/-! Defs of the small machine, their calls; the text-keyed display; the law's end. -/
namespace Mp
open PySem PySem.Spec PyProof.Rows L2

/-! ### the promise of a def, where nothing is being shown -/
structure FnOkG (p : Program) (w : World) (K : PySem.W.Frag) (mg : Str → Option Value) (base : Heap) (k : Nat) (f : Addr) (fd : FuncData) (ps : List Str) (sp : Sp) : Prop where
  len : ∀ vs H Q E, sp vs H Q E → vs.length = ps.length
  run : ∀ (A : Around) (outer : List Env) (s : Shared) (H : Hp) (args : Args) (us : List Value) (vs : List V) (Q : VK) (E : XK), A.guards = some [] → Room k A → Env0 p w K mg base A outer s H → BindsTo s fd args (ps.zip us) → Vals vs us → sp vs H Q E →
    codeAny (model p w) A (.call (.ref f) args) (CR (L2.CX p w) outer p w H s Q E) s
section
variable {p : Program} {w : World} {K : PySem.W.Frag} {mg : Str → Option Value} {base : Heap}
theorem fnG_of {k : Nat} {x qual : Str} {st : Stmt} {f : Addr} {fd : FuncData} {N ps : List Str} {sp : Sp} (Fn : Fun K x qual st f fd) (S : FnScope N ps (defScope st)) (len : ∀ vs H Q E, sp vs H Q E → vs.length = ps.length)
    (hbody : ∀ (cdv : Value) (A : Around) (outer : List Env) (s : Shared) (H : Hp) (vs : List V) (Q : VK) (E : XK), A.guards = some [] → Room k (A.deeper (envOfC qual (defScope st) s.heap.objs.size f cdv)) → sp vs H Q E →
      ∃ t, PSs (cxOf (L2.CX p w) p w K mg base N qual (defScope st) f cdv A outer s H E) (defBody st) t ∧ t { nx := fun _ H' => Q .non H', rt := Q } (start N vs) H) : FnOkG p w K mg base (k + 1) f fd ps sp := by
  obtain ⟨oc, od, kV, doc, pm, an, cdv, ct, osl, rfl, lk, hcd⟩ := Fn.ex
  refine ⟨len, fun A outer s H args us vs Q E hg hr e0 hb r hsp => ?_⟩
  have hl := len _ _ _ _ hsp
  have KX : K.In s.heap := e0.mod.kin.keeps fun b o e => (e0.bs b o e).1
  have lim : s.heap.NoLimit := e0.mod.nolimit.keeps fun b o e => (e0.bs b o e).1
  have hkind : ∀ y ∈ ps.zip us, (defScope st).names.lookup y.1 = some .local ∨ ((defScope st).names.lookup y.1 = some .cell ∧ ((cellsFrom (s.heap.objs.size + 1) (defScope st).names []).lookup y.1).isSome = true) := fun ⟨n, v⟩ hy => by
    rcases S.par n (List.of_mem_zip hy).1 with q | q
    · exact .inl q
    · exact .inr ⟨q, PySem.W.cellsFrom_some _ _ _ (.inl q)⟩
  refine codeAny_call_function hr.depth (KX _ _ lk) rfl S.co S.gen rfl (PySem.W.codeRec_of KX hcd) (hb _ _ _ _ ?_)
  refine wpAny_newFunctionEnv_cells S.kind hkind fun env he s1 x => ?_
  subst he
  refine ⟨lim.keeps x.toInCall.keep, codeAny_func ?_⟩
  obtain ⟨t, ht, hq⟩ := hbody cdv A outer s H vs Q E hg (hr.deeper _) hsp
  have I : Inv (cxOf (L2.CX p w) p w K mg base N qual (defScope st) f cdv A outer s H E) [] (start N vs) H s1 := inv_start S hr.hd e0 hl r x
  refine wpAny_mono (ht.run [] s1 (start N vs) H _ I hq) (fun fl s' hs => ?_) fun e s' hs => hs
  have fin : ∀ {σ' : L2.St} {H' : Hp} {v : V} {u : Value}, Inv (cxOf (L2.CX p w) p w K mg base N qual (defScope st) f cdv A outer s H E) [] σ' H' s' → RelV v u → Q v H' → CE outer p w H s Q u s' :=
    fun {σ' H' v u} J rv q => ⟨v, H', J.os, J.bare, J.base, J.hok, rv, q⟩
  cases fl with
  | ret u =>
    obtain ⟨v, σ', H', J, rv, q⟩ := hs
    exact fin J rv q
  | next =>
    obtain ⟨σ', H', J, q⟩ := hs
    exact fin (v := V.non) (u := Value.none) J rfl q
  | brk =>
    obtain ⟨_, _, _, q⟩ := hs
    exact False.elim q
  | cont =>
    obtain ⟨_, _, _, q⟩ := hs
    exact False.elim q
end

/-- what a callee may let out reaches what is wanted of exceptions -/
def PassW (X : Cx) (W : WX) : Prop := ∀ (σ : L2.St) (pins : List (Addr × Obj)) (H : Hp) (s : Shared) (e : Value) (s' : Shared), Inv X pins σ H s → L2.CX X.prog X.w X.stack H s (fun cls dx H' => W cls dx σ H') e s' → X.xe e s'
theorem passW_of {X : Cx} {W : WX} (tk : Takes X W) : PassW X W := fun σ _ _ _ e s' I c => tk e s' (XE.of_call I (fun _ _ _ h => h) c)
theorem passW_0 {X : Cx} : PassW X (fun _ _ _ _ => False) := fun σ _ _ _ e s' I c => by
  obtain ⟨_, _, _, _, _, _, _, _, _, _, _, _, h⟩ := c
  exact h.elim
section
variable {X : Cx} {k : Nat} {f : Addr} {fd : FuncData} {ps : List Str} {sp : Sp} {W : WX} {x : Str} {p pos : Pos} {e : Expr} {es : List Expr} {t : TA}
theorem run_G {pins : List (Addr × Obj)} {σ : L2.St} {H : Hp} {s : Shared} {Q : VK} {us : List Value} {vs : List V} (Fn : FnOkG X.prog X.w X.K X.mg X.base k f fd ps sp) (hg : X.A.guards = some []) (hr : Room k X.A) (hb : Binds X.K fd ps []) (hx : PassW X W)
    (I : Inv X pins σ H s) (r : Vals vs us) (h : sp vs H Q (fun cls dx H' => W cls dx σ H')) : wpAny (model X.prog X.w) X.A (call (.ref f) us) (EP X pins σ Q) X.xe s := by
  have hl : us.length = ps.length := by rw [← r.length]; exact Fn.len _ _ _ _ h
  have b := hb s us I.kIn (by rw [List.append_nil]; exact hl)
  rw [List.append_nil] at b
  refine wpAny_call (codeAny_mono (Fn.run X.A X.stack s H ⟨us, []⟩ us vs Q _ hg hr I.env0 b r h) fun r s' hq => ?_)
  cases r with
  | error e => exact hx σ pins H s e s' I hq
  | ok fl =>
    cases fl with
    | ret u => exact I.after hq
    | next => exact False.elim hq
    | brk => exact False.elim hq
    | cont => exact False.elim hq
theorem pe_callG (Fn : FnOkG X.prog X.w X.K X.mg X.base k f fd ps sp) (hg : X.A.guards = some []) (hr : Room k X.A) (hgl : Gl X x) (hm : X.mg x = some (.ref f)) (hk : PySem.W.keepIn X.K (.ref f) = true) (hb : Binds X.K fd ps []) (hx : PassW X W)
    (ha : PA X (e :: es) t) (hdb : (x == ("__debug__" : Str)) = false := by decide) (he : starEach (e :: es) X.env = (false, eval e X.env) :: starEach es X.env := by rfl) (hpl : (backTo pos (starEach es X.env)).any (·.1) = false := by rfl) :
    PE X (.Call (.Name x p) (e :: es) [] pos) (tCallS sp (L2.WE W) t) := by
  refine ⟨fun pins s σ H Q I h => ?_⟩
  refine wpAny_Call_Name_kw (ld_glob I hgl hm ?_ hdb)
  refine PySem.W.callWith_K (h₀ := X.base) I.ok.mod.kin hk (thn (ha.run pos pins s σ H _ I h) fun us s1 ⟨vs, H1, I1, r, q⟩ => ⟨I1.kIn, ?_⟩) he hpl
  exact run_G Fn hg hr hb hx I1 r q
theorem pe_call0G (Fn : FnOkG X.prog X.w X.K X.mg X.base k f fd ps sp) (hg : X.A.guards = some []) (hr : Room k X.A) (hgl : Gl X x) (hm : X.mg x = some (.ref f)) (hk : PySem.W.keepIn X.K (.ref f) = true) (hb : Binds X.K fd ps []) (hx : PassW X W)
    (hdb : (x == ("__debug__" : Str)) = false := by decide) : PE X (.Call (.Name x p) [] [] pos) (tCallS sp (L2.WE W) L2.tNil) := by
  refine ⟨fun pins s σ H Q I h => ?_⟩
  refine wpAny_Call_Name_kw (ld_glob I hgl hm ?_ hdb)
  exact PySem.W.callWith_K0 I.kIn hk (run_G (us := []) Fn hg hr hb hx I .nil h)
end

/-! ### the machine's defs -/
structure Def where
  ar : Nat
  n : Nat
  body : MS
def finish (n : Nat) (o : Out Flw) : Out R := match o with
  | .ok (.rt r) st => match r with
    | .loc m => .ok (.loc m) st
    | r => .ok r (st.take n)
  | .ok (.nx _) st => .ok (.dat .none) (st.take n)
  | .ok _ _ => .stk
  | .exc c as st => .exc c as (st.take n)
  | .stk => .stk
def Def.run (d : Def) (cal : Cal) (rs : List R) (st : Sto) : Out R :=
  if rs.length = d.ar then finish st.length (d.body cal (rs.map some ++ List.replicate (d.n - d.ar) none) st) else .stk
def callD (T : Nat → Option Def) : Nat → Cal
  | 0 => fun _ _ _ => .stk
  | k + 1 => fun i rs st => match T i with
    | some d => d.run (callD T k) rs st
    | none => .stk
section
variable {P : Pm}
theorem Up.cut {F F' : Hp} {ι ι' : List Addr} {H H' : Hp} (u : Up F ι H F' ι' H') {n : Nat} (hn : ι.length = n) : Up F ι H F' (ι'.take n) H' := by
  have e : ι'.take n = ι := by
    obtain ⟨t, rfl⟩ := u.pre
    rw [← hn]; simp
  rw [e]
  exact ⟨u.le, List.prefix_refl _, u.fr, fun _ h => .inl h, u.nf⟩
theorem finish_post {E : XK} {F : Hp} {ι : List Addr} {H : Hp} {st : Sto} {o : Out Flw} {Q : VK} {σ : L2.St} (hS : Sm P F ι st H) (h : Post P E F ι H (finish st.length o) (Ret P Q)) : Post P E F ι H o (FlwR P σ { nx := fun _ H' => Q .non H', rt := Q }) := by
  have hn : ι.length = st.length := hS.len
  cases o with
  | stk => exact h
  | exc c as st' => exact fun F' ι' H' cls dx u s x => h F' _ H' cls dx (u.cut hn) (s.drop _) x
  | ok f st' =>
    cases f with
    | nx ρ => exact fun F' ι' H' u s σ' _ _ => h F' _ H' (u.cut hn) (s.drop _) .non (by simp only [RR, RD])
    | bk ρ => exact h.elim
    | ct ρ => exact h.elim
    | rt r =>
      cases r with
      | loc m => exact fun F' ι' H' u s v rv => h F' _ H' u s v rv
      | dat d => exact fun F' ι' H' u s v rv => h F' _ H' (u.cut hn) (s.drop _) v rv
      | fn i => exact fun F' ι' H' u s v rv => h F' _ H' (u.cut hn) (s.drop _) v rv
      | scr i => exact fun F' ι' H' u s v rv => h F' _ H' (u.cut hn) (s.drop _) v rv
theorem envR_start {F : Hp} {ι : List Addr} {rs : List R} {vs : List V} {N : List Str} {m : Nat} (h : RRs P F ι rs vs) (hl : rs.length + m = N.length) : EnvR P F ι (rs.map some ++ List.replicate m none) (L2.start N vs) := by
  have e := h.len
  unfold L2.start
  refine ⟨by simp; omega, fun i r q => ?_⟩
  by_cases hi : i < rs.length
  · rw [List.getElem?_append_left (by simpa using hi), List.getElem?_map] at q
    obtain ⟨r', h1, h2⟩ := Option.map_eq_some_iff.mp q
    cases h2
    obtain ⟨v, h3, h4⟩ := h.get h1
    exact ⟨v, by rw [List.getElem?_append_left (by simp; omega), List.getElem?_map, h3]; rfl, h4⟩
  · rw [List.getElem?_append_right (by simpa using hi), List.getElem?_replicate] at q
    split at q <;> cases q
/-- the promise of the def i at the level k -/
def spD (P : Pm) (T : Nat → Option Def) (k i : Nat) : Sp := fun vs H Q E => ∃ F ι st rs, Sm P F ι st H ∧ RRs P F ι rs vs ∧ Post P E F ι H (callD T k i rs st) (Ret P Q)
theorem callD_ar {T : Nat → Option Def} {k i : Nat} {d : Def} {E : XK} {F : Hp} {ι : List Addr} {H : Hp} {st : Sto} {rs : List R} {φ : R → Sto → Hp → List Addr → Hp → Prop} (hT : T i = some d) (h : Post P E F ι H (callD T k i rs st) φ) : rs.length = d.ar := by
  cases k with
  | zero => exact h.elim
  | succ k =>
    simp only [callD, hT, Def.run] at h
    split at h
    · assumption
    · exact h.elim
theorem spD_len {T : Nat → Option Def} {k i : Nat} {d : Def} {ps : List Str} (hT : T i = some d) (hp : ps.length = d.ar) : ∀ vs H Q E, spD P T k i vs H Q E → vs.length = ps.length := by
  rintro vs H Q E ⟨F, ι, st, rs, _, hr, h⟩
  rw [← hr.len, hp]
  exact callD_ar hT h
section
variable {p : Program} {w : World} {K : PySem.W.Frag} {mg : Str → Option Value} {base : Heap} {T : Nat → Option Def} {k i : Nat} {d : Def} {f : Addr} {fd : FuncData} {N ps : List Str} {x qual : Str} {st : Stmt}
/-- level 0 promises nothing -/
theorem okD_zero (hT : T i = some d) (hp : ps.length = d.ar) : FnOkG p w K mg base 0 f fd ps (spD P T 0 i) :=
  ⟨spD_len hT hp, fun A outer s H args us vs Q E _ _ _ _ _ ⟨_, _, _, _, _, _, h⟩ => h.elim⟩
/-- a def by its body -/
theorem okD_succ {ar n : Nat} {bd : MS} (Fn : Fun K x qual st f fd) (S : FnScope N ps (defScope st)) (hT : T i = some ⟨ar, n, bd⟩) (hp : ps.length = ar) (hn : N.length = n)
    (hbody : ∀ (cdv : Value) (A : Around) (outer : List Env) (s : Shared) (H : Hp) (E : XK), A.guards = some [] → Room k (A.deeper (envOfC qual (defScope st) s.heap.objs.size f cdv)) →
      Takes (cxOf (L2.CX p w) p w K mg base N qual (defScope st) f cdv A outer s H E) (fun cls dx _ H => E cls dx H) →
      PSsd (cxOf (L2.CX p w) p w K mg base N qual (defScope st) f cdv A outer s H E) P (fun cls dx _ H => E cls dx H) (callD T k) (defBody st) bd) : FnOkG p w K mg base (k + 1) f fd ps (spD P T (k + 1) i) := by
  have hpn : ps.length ≤ N.length := by have := congrArg List.length S.pre; rw [List.length_take] at this; omega
  refine fnG_of Fn S (spD_len hT hp) fun cdv A outer s H vs Q E hg hr h => ⟨_, hbody cdv A outer s H E hg hr (takes_of rfl rfl rfl rfl), ?_⟩
  obtain ⟨F, ι, st', rs, hS, hrs, h⟩ := h
  have hl : rs.length = ar := callD_ar hT h
  have hpre : ps.length = (N.take ps.length).length := by rw [S.pre]
  rw [List.length_take] at hpre
  have h2 : Post P E F ι H ((Def.mk ar n bd).run (callD T k) rs st') (Ret P Q) := by
    have e : callD T (k + 1) i rs st' = (Def.mk ar n bd).run (callD T k) rs st' := by simp only [callD, hT]
    rw [← e]; exact h
  unfold Def.run at h2
  rw [if_pos hl] at h2
  refine ⟨F, ι, rs.map some ++ List.replicate (n - ar) none, st', envR_start hrs (by omega), hS, ?_⟩
  exact Post.exc (finish_post hS h2) fun cls dx H' x σ' _ => x
end

/-! ### calls of defs -/
def fDef (i : Nat) (rs : List R) : M := fun cal _ st => cal i rs st
def mDef (i : Nat) (ms : ML) : M := mBind ms (fDef i)
variable {X : Cx} {W : WX} {T : Nat → Option Def} {k i : Nat} {d : Def} {f : Addr} {fd : FuncData} {ps : List Str} {x : Str} {p pos : Pos} {e : Expr} {es : List Expr} {ms : ML}
theorem def_link {σ : L2.St} {H : Hp} {Q : VK} (h : Td P W (callD T k) (mDef i ms) (RR P) σ H Q) : tCallS (spD P T k i) (L2.WE W) (TAd P W (callD T k) ms) σ H Q := by
  refine h.then fun F ι ρ st H1 rs vs hE hS rr h1 => ?_
  exact ⟨F, ι, st, rs, hS, rr, h1⟩
theorem pd_call (Fn : FnOkG X.prog X.w X.K X.mg X.base k f fd ps (spD P T k i)) (hg : X.A.guards = some []) (hr : Room k X.A) (hgl : Gl X x) (hm : X.mg x = some (.ref f)) (hk : PySem.W.keepIn X.K (.ref f) = true) (hb : Binds X.K fd ps []) (hx : PassW X W)
    (ha : PAd X P W (callD T k) (e :: es) ms) (hdb : (x == ("__debug__" : Str)) = false := by decide) (he : starEach (e :: es) X.env = (false, eval e X.env) :: starEach es X.env := by rfl) (hpl : (backTo pos (starEach es X.env)).any (·.1) = false := by rfl) :
    PEd X P W (callD T k) (.Call (.Name x p) (e :: es) [] pos) (mDef i ms) := pe_weak (pe_callG Fn hg hr hgl hm hk hb hx ha hdb he hpl) fun σ H Q h => def_link h
theorem pd_call0 (Fn : FnOkG X.prog X.w X.K X.mg X.base k f fd ps (spD P T k i)) (hg : X.A.guards = some []) (hr : Room k X.A) (hgl : Gl X x) (hm : X.mg x = some (.ref f)) (hk : PySem.W.keepIn X.K (.ref f) = true) (hb : Binds X.K fd ps []) (hx : PassW X W)
    (hdb : (x == ("__debug__" : Str)) = false := by decide) : PEd X P W (callD T k) (.Call (.Name x p) [] [] pos) (mDef i mNil) := pe_weak (pe_call0G Fn hg hr hgl hm hk hb hx hdb) fun σ H Q h => by
  obtain ⟨F, ι, ρ, st, hE, hS, hP⟩ := h
  exact ⟨F, ι, st, [], hS, .nil, Post.imp hP fun _ _ _ _ _ _ _ q => q⟩

/-! ### {'k': v, ..}: a live dict -/
def dspGo : List (Key × M) → Cal → Rho → Sto → Out (List (Key × R))
  | [] => fun _ _ st => .ok [] st
  | (k, m) :: r => mBind m fun x => mBind (dspGo r) fun xs _ _ st => .ok ((k, x) :: xs) st
def mergeR (kvs more : List (Key × R)) : List (Key × R) := more.foldl (fun acc kv => putR acc kv.1 kv.2) kvs
def mDsp (kms : List (Key × M)) : M := mBind (dspGo kms) fun kvs _ _ st => if kvs.length ≤ 15 then .ok (.loc st.length) (st ++ [.dK (mergeR [] kvs)]) else .stk
theorem RKs.merge {F : Hp} {ι : List Addr} {kvs : List (Key × R)} {es : List (Key × V)} (h : RKs P F ι kvs es) : ∀ {acc : List (Key × R)} {acc' : List (Key × V)}, RKs P F ι acc acc' → RKs P F ι (mergeR acc kvs) (mergeK acc' es) := by
  induction h with
  | nil => exact fun q => q
  | @cons a b as bs h1 _ ih =>
    intro acc acc' q
    have e : putK acc' b.1 b.2 = putK acc' a.1 b.2 := by rw [h1.1]
    show RKs P F ι (mergeR (putR acc a.1 a.2) as) (mergeK (putK acc' b.1 b.2) bs)
    rw [e]
    exact ih (RKs.put q h1.2)
theorem Sm.outs {F F' : Hp} {ι ι' : List Addr} {H H' : Hp} {st' : Sto} {D : Addr} {o : HO} (u : Up F ι H F' ι' H') (s : Sm P F' ι' st' H') (hD : H D = some o) (hn : D ∉ ι) (hF : F D = none) (ho : ∀ xs, o ≠ .tup xs) : H' D = some o ∧ D ∉ ι' ∧ F' D = none := by
  have hD' := u.fr _ _ hD hn
  refine ⟨hD', fun hm => ?_, ?_⟩
  · rcases u.new _ hm with z | z
    · exact hn z
    · rw [hD] at z; cases z
  · cases q : F' D with
    | none => rfl
    | some w =>
      exfalso
      rcases u.nf _ _ q with z | z | z | ⟨xs, rfl⟩
      · rw [hF] at z; cases z
      · rw [hD] at z; cases z
      · exact hn z
      · rcases s.le _ _ q with y | ⟨y, _⟩
        · rw [hD'] at y; cases y; exact ho xs rfl
        · exact y.elim
theorem dsp_pairs {W : WX} {cal : Cal} {σ : L2.St} : ∀ (kms : List (Key × M)) {H : Hp} {Q' : List (V × V) → Hp → Prop},
    Td P W cal (dspGo kms) (fun F ι a b => ∃ es, b = es.map (fun kv => (kV kv.1, kv.2)) ∧ RKs P F ι a es) σ H Q' → tPairs (kms.map fun km => (tC (kV km.1), TEd P W cal km.2)) σ H Q'
  | [], H, Q', ⟨F, ι, ρ, st, hE, hS, hP⟩ => hP.now hS [] ⟨[], rfl, .nil⟩
  | (k, m) :: r, H, Q', h => by
    show TEd P W cal m σ H fun y H2 => tPairs (r.map fun km => (tC (kV km.1), TEd P W cal km.2)) σ H2 fun ps H3 => Q' ((kV k, y) :: ps) H3
    refine h.then fun F ι ρ st H1 x vx hE hS rx h1 => ?_
    refine dsp_pairs r ⟨F, ι, ρ, st, hE, hS, (Post.bind h1).imp fun xs st2 F2 ι2 H2 u2 s2 h2 b hb => ?_⟩
    obtain ⟨es, rfl, hr⟩ := hb
    exact h2.now s2 _ ⟨(k, vx) :: es, rfl, .cons ⟨rfl, u2.rr rx⟩ hr⟩
theorem pd_dsp {W : WX} {cal : Cal} {keys : List (Option Expr)} {values : List Expr} {kms : List (Key × M)} (h : PPs X pos keys values (kms.map fun km => (tC (kV km.1), TEd P W cal km.2))) (hall : keys.all (·.isSome) = true) (hl : keys.length = values.length) (h0 : keys ≠ []) (h15 : keys.length ≤ 15) :
    PEd X P W cal (.Dict keys values pos) (mDsp kms) := pe_weak (pe_disp h hall hl h0 h15) fun σ H Q ⟨F, ι, ρ, st, hE, hS, hP⟩ => by
  intro D hD
  refine dsp_pairs kms ⟨F, ι, ρ, st, hE, hS.new (o := .dK []) hD, ((Post.bind0 hP).up (Up.nw hS hD)).imp fun kvs st1 F1 ι1 H1 u1 s1 h1 b hb => ?_⟩
  obtain ⟨es, rfl, hr⟩ := hb
  simp only [] at h1
  obtain ⟨hD1, hn1, hF1⟩ := Sm.outs u1 s1 (upd_same (H := H) (a := D) (o := .dK [])) (hS.nin hD) (hS.fnone hD) (by intro xs z; cases z)
  split at h1
  · rename_i hz
    have U : Up F ι H F1 ι1 (upd H1 D (.dK (mergeK [] es))) := by
      have u := (Up.nw hS (o := .dK []) hD).trans u1
      exact ⟨u.le, u.pre, fun a x e hm => by
        rw [upd_ne (show a ≠ D by rintro rfl; rw [hD] at e; cases e)]
        exact u.fr a x e hm, u.new, u.nf⟩
    have S2 := s1.out (o := .dK (mergeK [] es)) hn1 hF1
    refine ⟨hD1, es, rfl, by rw [← Paired.length hr]; exact hz, ?_⟩
    refine h1 F1 (ι1 ++ [D]) _ ⟨U.le, U.pre.trans (List.prefix_append _ _), U.fr, fun a ha => ?_, U.nf⟩ (S2.adopt upd_same hn1 hF1 ⟨_, upd_same, RKs.merge hr .nil⟩ trivial) (.ref D) ⟨D, ?_, rfl⟩
    · rcases List.mem_append.mp ha with z | z
      · exact U.new a z
      · rw [List.mem_singleton.mp z]; exact .inr hD
    · rw [← S2.len]; simp
  · exact h1.elim
theorem ppd_nil {W : WX} {cal : Cal} : PPs X pos [] [] (([] : List (Key × M)).map fun km => (tC (kV km.1), TEd P W cal km.2)) := pps_nil
theorem ppd_str {W : WX} {cal : Cal} {v : Expr} {ks : List (Option Expr)} {vs : List Expr} {y : Str} {j : Nat} {p2 : Pos} {m : M} {kms : List (Key × M)} (hv : PEd X P W cal v m) (hr : PPs X pos ks vs (kms.map fun km => (tC (kV km.1), TEd P W cal km.2))) :
    PPs X pos (some (.Constant (.str y) j p2) :: ks) (v :: vs) ((((Sum.inr y : Key), m) :: kms).map fun km => (tC (kV km.1), TEd P W cal km.2)) := pps_cons pe_str hv hr
end
end Mp
end
section
set_option Elab.async false
set_option linter.all false
set_option maxRecDepth 100000
set_option autoImplicit false
/-! A law's end over the small machine. -/
namespace Mp
open PySem PySem.Spec PyProof.Rows L2

/-- a list of ints that is one of the module's own objects -/
def kSof (K : PySem.W.Frag) (a : Addr) (ns : List Int) : Prop :=
  ∃ (o : Obj) (its : Array Value) (n : Nat), K.lookup a = some o ∧ o.cls = .type "list" ∧ o.dict = none ∧ o.data = .seq its n ∧ its.size ≤ sizeLine ∧ Vals (ns.map V.int) its.toList
theorem kSof_sq {K : PySem.W.Frag} {a : Addr} {ns : List Int} (h : kSof K a ns) (H : Hp) : SqL K H a (ns.map V.int) := .inr h

/-- what holds of the heap at the law's call -/
def AtLaw (K : PySem.W.Frag) (H : Hp) (a : Addr) (ns : List Int) : Prop := (∃ o, H a = some (.frz o (.lst (ns.map V.int)))) ∨ kSof K a ns
theorem law_callG {p : Program} {w : World} {K : PySem.W.Frag} {mg mb : Str → Option Value} {k : Nat} {fa a : Addr} {fd : FuncData} {x : Str} {sp : Sp} {s₁ : Shared} {vs : List Value} {ns : List Int}
    (KX : K.In s₁.heap) (hns : s₁.heap.Ns mainGlobals mg) (hb : s₁.heap.Ns builtinsNs mb) (hbb : ∀ x : Str, x ≠ "__name__" → mb x = bootBuiltins x) (hlim : s₁.heap.NoLimit) (hsys : ∃ mm, s₁.heap.Ns sysModules mm) (hg : s₁.gens = #[])
    (ha : s₁.heap.get? a = some { cls := .type "list", data := .seq vs.toArray }) (hi : IntsAre vs ns) (hl : ns.length ≤ sizeLine) (hr : Room k callerA)
    (Fn : ∀ base : Heap, K.In base → base.Ns mainGlobals mg → (∃ o, base.get? sysModules = some o) → FnOkG p w K mg base k fa fd [x] sp) (hbind : ∀ (s : Shared) (u : Value), BindsTo s fd ⟨[u], []⟩ [(x, u)])
    (hsp : ∀ H : Hp, AtLaw K H a ns → sp [.ref a] H (fun v _ => v = .bl true) fun _ _ _ => False) :
    codeAny (model p w) callerA (.call (.ref fa) ⟨[.ref a], []⟩) (fun r s' => r = .ok (.ret (.bool true)) ∧ PySem.OldK s₁.heap s'.heap ∧ s'.os = s₁.os ∧ AllBare s'.gens) s₁ := by
  have rv := vals_ints hi
  have lenV := hi.length
  have core : ∀ H : Hp, Only H → AtLaw K H a ns → HOk p w H s₁.heap → (∀ b, H b ≠ none → b = a) → (H a ≠ none → K.lookup a = none) →
      codeAny (model p w) callerA (.call (.ref fa) ⟨[.ref a], []⟩) (fun r s' => r = .ok (.ret (.bool true)) ∧ PySem.OldK s₁.heap s'.heap ∧ s'.os = s₁.os ∧ AllBare s'.gens) s₁ := by
    intro H hO hS hok hA hK
    have base_of : ∀ {b : Addr} {o : Obj}, s₁.heap.get? b = some o → H b = none → (hidT s₁.heap H).get? b = some o := fun e n => hidT_get e n
    have noA : ∀ {b : Addr} {o : Obj} {es : Array DictEntry} {ep : Nat}, s₁.heap.get? b = some o → o.data = .dict es ep → H b = none := fun {b o es ep} e d => by
      cases q : H b with
      | none => rfl
      | some u =>
        have e' : b = a := hA b (by rw [q]; simp)
        subst e'
        rw [ha] at e; cases e
        have d' : Data.seq vs.toArray _ = Data.dict es ep := d
        cases d'
    have nsK : ∀ {b : Addr} {m : Str → Option Value}, s₁.heap.Ns b m → (hidT s₁.heap H).Ns b m := fun {b m} ⟨o, es, ep, e, d, r⟩ => ⟨o, es, ep, base_of e (noA e d), d, r⟩
    have hKb : K.In (hidT s₁.heap H) := fun b o e => base_of (KX b o e) (by
      cases q : H b with
      | none => rfl
      | some u =>
        have e' : b = a := hA b (by rw [q]; simp)
        subst e'
        rw [hK (by rw [q]; simp)] at e; cases e)
    have hM : Mod K mg (hidT s₁.heap H) := ⟨hKb, nsK hns, ⟨mb, nsK hb, hbb⟩, let ⟨mc, h1, h2⟩ := hlim; ⟨mc, nsK h1, h2⟩⟩
    have hS2 : ∃ o, (hidT s₁.heap H).get? sysModules = some o := let ⟨mm, q⟩ := hsys; let ⟨o, _, _, e, _, _⟩ := nsK q; ⟨o, e⟩
    have e0 : Env0 p w K mg (hidT s₁.heap H) callerA [] s₁ H := ⟨rfl, hM, fun b o e => of_hidT e, Nat.le_of_eq (hidT_size _ _), trivial, fun b hb => absurd (show b ∈ ([] : List Addr) from hb) (by simp), hok, .of_eq hg⟩
    refine codeAny_mono ((Fn _ hKb (nsK hns) hS2).run callerA [] s₁ H ⟨[.ref a], []⟩ [.ref a] [.ref a] _ _ rfl hr e0 (hbind s₁ (.ref a)) (.cons rfl .nil) (hsp H hS)) fun r s' h => ?_
    cases r with
    | error e =>
      obtain ⟨_, _, _, _, _, _, _, _, _, _, _, _, z⟩ := (show L2.CX p w [] H s₁ (fun _ _ _ => False) e s' from h)
      exact z.elim
    | ok fl =>
      cases fl with
      | next => exact False.elim h
      | brk => exact False.elim h
      | cont => exact False.elim h
      | ret u =>
        obtain ⟨v, H', os, bare, un, hok', r', q⟩ := h
        have q' : v = .bl true := q
        subst q'
        obtain rfl : u = Value.bool true := r'
        refine ⟨rfl, PySem.OldK.of_keep fun b o e => ?_, os, bare⟩
        cases q : H b with
        | none => exact un.keep b o e q (by intro z; exact absurd (show b ∈ ([] : List Addr) from z) (by simp)) (by simp)
        | some u =>
          rcases hO b with z | ⟨ob, xs, z⟩
          · rw [q] at z; cases z
          · have z2 := un.frzs b ob _ z
            obtain ⟨e1, _⟩ := hok b _ z
            obtain ⟨e2, _⟩ := hok' b _ z2
            rw [e] at e1; cases e1
            exact e2
  cases hk : K.lookup a with
  | some o =>
    have e := KX a o hk
    rw [ha] at e
    cases e
    exact core (fun _ => none) (fun _ => .inl rfl) (.inr ⟨_, vs.toArray, _, hk, rfl, rfl, rfl, by rw [List.size_toArray, lenV]; exact hl, by simpa using rv⟩) (fun b u z => by have z' : (none : Option HO) = some u := z; cases z') (fun b z => absurd rfl z) fun z => absurd rfl z
  | none =>
    refine core (fun b => if b = a then some (.frz { cls := .type "list", data := .seq vs.toArray } (.lst (ns.map V.int))) else none) (fun b => ?_) (.inl ⟨{ cls := .type "list", data := .seq vs.toArray }, if_pos rfl⟩) (fun b u z => ?_) (fun b z => ?_) fun _ => hk
    · by_cases hb : b = a
      · exact .inr ⟨_, _, if_pos hb⟩
      · exact .inl (if_neg hb)
    · by_cases hb : b = a
      · have z' := (if_pos hb).symm.trans z
        cases z'
        subst hb
        exact ⟨ha, by rw [List.length_map]; exact hl, vs, _, rv, ha⟩
      · have z' := (if_neg hb).symm.trans z
        cases z'
    · by_cases hb : b = a
      · exact hb
      · exact absurd (if_neg hb) z

/-- the law's call over the machine -/
theorem sp_law {P : Pm} {K : PySem.W.Frag} {T : Nat → Option Def} {k i : Nat} {H : Hp} {a : Addr} {ns : List Int} (hP : P.kS = kSof K) (h : AtLaw K H a ns) {st' : Sto} (e : callD T k i [.scr ns] [] = .ok (.dat (.bool true)) st') :
    spD P T k i [.ref a] H (fun v _ => v = .bl true) fun _ _ _ => False := by
  have fin : ∀ F : Hp, Sm P F [] [] H → RR P F [] (.scr ns) (.ref a) → spD P T k i [.ref a] H (fun v _ => v = .bl true) fun _ _ _ => False := fun F S r => by
    refine ⟨F, [], [], [.scr ns], S, .cons r .nil, ?_⟩
    rw [e]
    intro F' ι' H' u s v rv
    simpa only [RR, RD] using rv
  rcases h with ⟨o, z⟩ | z
  · exact fin H ⟨fun a u e => .inl e, rfl, fun n o e => by simp at e, fun n m a o u e => by simp at e⟩ ⟨a, rfl, .inl ⟨o, z⟩⟩
  · exact fin (fun _ => none) ⟨fun a u e => (nomatch e), rfl, fun n o e => by simp at e, fun n m a o u e => by simp at e⟩ ⟨a, rfl, .inr (by rw [hP]; exact z)⟩

theorem walk_ofG {l : PySem.W.OpenLaw} {n k : Nat} {q : Program} {loose : List Str} {XP : (Str → Option Value) → Heap → Prop} {YP : World → Heap → Prop} {d : PySem.DefRec} {K : Params → PySem.W.Frag} {x : Str} {T : Nat → Option Def} {i : Nat}
    (hn : l.most = some n) (hn2 : n ≤ sizeLine) (hdf : d.params.defaults = []) (hr : Room k callerA) (himp : importsNone q = true)
    (hY : ∀ (w : World) (h : Heap), YP w h → (K w.params).In h)
    (Fn : ∀ (w : World) (mg : Str → Option Value) (fa : Addr) (h : Heap), (K w.params).In h → h.Ns mainGlobals mg → mg d.name = some (.ref fa) →
      ∃ (fd : FuncData) (P : Pm), P.kS = kSof (K w.params) ∧ (∀ (s : Shared) (u : Value), BindsTo s fd ⟨[u], []⟩ [(x, u)]) ∧
        ∀ base : Heap, (K w.params).In base → base.Ns mainGlobals mg → (∃ o, base.get? sysModules = some o) → FnOkG l.prog w (K w.params) mg base k fa fd [x] (spD P T k i))
    (law : ∀ ns : List Int, ns.length ≤ n → (∀ z ∈ ns, Builtin.Int.intBits z ≤ 1048576) → ∃ st', callD T k i [.scr ns] [] = .ok (.dat (.bool true)) st') :
    PySem.W.WalkO q loose XP YP l.row.toRowW d [] (fun f vs => PySem.call f vs) := by
  refine Att.attach_callB hn hdf fun w s₀ s₁ mg mb fa o pm cd doc a vs ns G Y ho hd hcd hmg hobj hints hlen hbits hg => ?_
  have KX := hY w _ Y
  obtain ⟨fd, P, hP, hb, hF⟩ := Fn w mg fa _ KX G.T.g hmg
  obtain ⟨st', e⟩ := law ns hlen hbits
  exact law_callG KX G.T.g G.T.b G.T.builtins G.T.nolimit (let ⟨mm, q, _⟩ := (G.T.seer himp).mods; ⟨mm, q⟩) hg hobj hints (Nat.le_trans hlen hn2) hr hF hb fun H hS => sp_law hP hS e
end Mp
end
section
set_option Elab.async false
set_option linter.all false
set_option maxRecDepth 100000
set_option autoImplicit false
/-! What the printed derivations lean on. -/
namespace Mp
open PySem PySem.Spec PyProof.Rows L2

theorem room1 {k : Nat} {A : Around} (h : Room k A) : A.units + 1 < cLine := by have := h.un; omega
theorem room64 {k : Nat} {A : Around} (h : Room k A) : A.units + 64 < cLine := by have := h.un; omega
theorem room65 {k : Nat} {A : Around} (h : Room k A) : A.units + 65 < cLine := by have := h.un; omega
theorem room80 {k : Nat} {A : Around} (h : Room k A) : A.units + 80 < cLine := by have := h.un; omega
/-- several targets of any form -/
def mParN (n : Nat) (ms : ML) (g : MGs) : MS := sBind ms fun rs cal ρ st => if rs.length = n ∧ n ≤ 8 then (g rs cal ρ st).bind fun ρ1 st1 => .ok (.nx ρ1) st1 else .stk

/-! ### a live list becomes data -/
def frzAt (r : R) (st : Sto) : Option (D × Sto) := match r with
  | .loc n => match st[n]? with
    | some (.lst rs) => (datsOf rs).map fun ds => (.list ds, st.set n .dead)
    | _ => none
  | _ => none
def mFrz (i : Nat) : MS := fun _ ρ st => match ρ[i]? with
  | some (some r) => match frzAt r st with
    | some (d, st') => .ok (.nx (ρ.set i (some (.dat d)))) st'
    | none => .stk
  | _ => .stk
section
variable {P : Pm} {W : WX} {cal : Cal} {X : Cx}
theorem Sm.dead {F : Hp} {ι : List Addr} {st : Sto} {H : Hp} {n : Nat} {a : Addr} {rs : List R} {xs : List V} (s : Sm P F ι st H) (e : st[n]? = some (.lst rs)) (ha : ι[n]? = some a) (hH : H a = some (.lst xs)) :
    Sm P (upd F a (.lst xs)) ι (st.set n .dead) H ∧ F a = none := by
  obtain ⟨b, hb, _, hF⟩ := s.obj n _ e
  rw [ha] at hb; cases hb
  have hF := hF trivial
  have hn : n < st.length := (List.getElem?_eq_some_iff.mp e).1
  refine ⟨⟨fun b u z => ?_, by simp [s.len], fun m o z => ?_, fun m m' b o u z l z' l' h h' => ?_⟩, hF⟩
  · by_cases hb : b = a
    · subst hb; rw [upd_same] at z; cases z; exact .inl hH
    · rw [upd_ne hb] at z; exact s.le b u z
  · by_cases hm : n = m
    · subst hm
      rw [List.getElem?_set_self hn] at z
      cases z
      exact ⟨a, ha, ⟨_, upd_same⟩, fun h => h.elim⟩
    · rw [List.getElem?_set_ne hm] at z
      obtain ⟨b, hb, ro, hL⟩ := s.obj m o z
      refine ⟨b, hb, ro.mono (le_upd hF) (List.prefix_refl _) fun _ z => z, fun l => ?_⟩
      have hne : b ≠ a := by
        rintro rfl
        exact hm (s.inj n m b _ _ e trivial z l ha hb)
      rw [upd_ne hne]
      exact hL l
  · have aux : ∀ {m : Nat} {o : MO}, (st.set n .dead)[m]? = some o → Live o → st[m]? = some o := fun {m o} z l => by
      by_cases hm : n = m
      · subst hm
        rw [List.getElem?_set_self hn] at z
        cases z
        exact l.elim
      · rw [List.getElem?_set_ne hm] at z
        exact z
    exact s.inj m m' b o u (aux z l) l (aux z' l') l' h h'
theorem Sm.frzAt {F : Hp} {ι : List Addr} {st st' : Sto} {H : Hp} {r : R} {v : V} {d : D} (s : Sm P F ι st H) (q : RR P F ι r v) (e : Mp.frzAt r st = some (d, st')) : ∃ F', Up F ι H F' ι H ∧ Sm P F' ι st' H ∧ RD F' d v := by
  unfold Mp.frzAt at e
  split at e
  · rename_i n
    split at e
    · rename_i rs e1
      obtain ⟨ds, e2, e3⟩ := Option.map_eq_some_iff.mp e
      cases e3
      obtain ⟨a, rfl, ha, xs, e4, hh⟩ := s.loc e1 q
      obtain ⟨s2, hF⟩ := s.dead e1 ha e4
      rw [datsOf_eq e2] at hh
      refine ⟨_, Up.frz hF (.inr (.inl (List.mem_of_getElem? ha))), s2, ?_⟩
      simp only [RD]
      exact ⟨a, xs, rfl, upd_same, RDs.mono (le_upd hF) _ _ (RDs.of_rrs _ _ hh)⟩
    · cases e
  · cases e
/-- the names hold the same; one of them is data now -/
theorem EnvR.put {F : Hp} {ι : List Addr} {ρ : Rho} {σ : L2.St} {i : Nat} {r : R} {v : V} (h : EnvR P F ι ρ σ) (e : σ[i]? = some (some v)) (q : RR P F ι r v) : EnvR P F ι (ρ.set i (some r)) σ := by
  have := h.set (i := i) q
  have e2 : σ.set i (some v) = σ := by
    apply List.ext_getElem?
    intro j
    by_cases hj : i = j
    · subst hj
      rw [List.getElem?_set_self (List.getElem?_eq_some_iff.mp e).1, e]
    · rw [List.getElem?_set_ne hj]
  rw [e2] at this
  exact this
theorem psd_frz {i : Nat} {ss : List Stmt} {m : MS} (h : PSsd X P W cal ss m) : PSsd X P W cal ss (mSeq (mFrz i) m) := pss_weak h fun D σ H ⟨F, ι, ρ, st, hE, hS, hP⟩ => by
  have h1 := Post.bind hP
  unfold mFrz at h1
  split at h1
  · rename_i r e1
    split at h1
    · rename_i d st' e2
      obtain ⟨v, e3, rv⟩ := hE.2 i r e1
      obtain ⟨F', u, s, rd⟩ := hS.frzAt rv e2
      exact ⟨F', ι, _, st', (u.env hE).put (r := .dat d) e3 rd, s, h1 F' ι H u s⟩
    · exact h1.elim
  · exact h1.elim
end
end Mp
end
section
set_option Elab.async false
set_option linter.all false
set_option maxRecDepth 100000
set_option autoImplicit false
/-! An own error whose __init__ says super().__init__(v); self.f = v, below another own error, below ValueError. -/
namespace Mp.Ex
open PySem PySem.W PySem.Calls PyProof.Rows PySem.HandSPX

/-- the text of __init__ -/
abbrev fld : Str := "place"
def iA : Arguments := { posonlyargs := [], args := [{ arg := "self", annotation := none, pos := ⟨6, 17, 6, 21⟩ }, { arg := "place", annotation := none, pos := ⟨6, 23, 6, 28⟩ }], vararg := none, kwonlyargs := [], kw_defaults := [], kwarg := none, defaults := [] }
def iB : List Stmt :=
  [.Expr (.Call (.Attribute (.Call (.Name "super" ⟨7, 8, 7, 13⟩) [] [] ⟨7, 8, 7, 15⟩) "__init__" ⟨7, 8, 7, 24⟩) [.Name "place" ⟨7, 25, 7, 30⟩] [] ⟨7, 8, 7, 31⟩) ⟨7, 8, 7, 31⟩,
    .Assign [.Attribute (.Name "self" ⟨8, 8, 8, 12⟩) "place" ⟨8, 8, 8, 18⟩] (.Name "place" ⟨8, 21, 8, 26⟩) ⟨8, 8, 8, 26⟩]
def iS : Scope := { kind := .function, names := [("self", .local), (fld, .local), ("__class__", .free), ("super", .globalImplicit)], isGenerator := false, isCoroutine := false, more := [] }
/-- what is written of the class at C, of its __init__ at fI -/
structure Txt (prog : Program) (K : Frag) (mg : Str → Option Value) (cn qn : Str) (C fI : Addr) : Prop where
  gC : mg cn = some (.ref C)
  nS : mg "super" = none
  cls : ∃ nm q N bs bm sn sub ab col dd k0 k1 k2 k3 k5, K.lookup C = some (excClassObj nm q C N bs bm true sn sub ab col dd k0 k1 k2 k3 k5 "ValueError.__new__") ∧ refsVE bm = true
  sa : findIn K (.ref C) "__setattr__" = some (some (.builtin "object.__setattr__"))
  ga : findIn K (.ref C) "__getattribute__" = some (some (.builtin "BaseException.__getattribute__"))
  gg : findIn K (.ref C) "__getattr__" = some none
  noN : findIn K (.ref C) fld = some none
  iC : findIn K (.ref C) "__init__" = some (some (.ref fI))
  tC : typeIn K (.ref fI) = some (.type "function")
  kC : keepIn K (.ref C) = true
  exC : subIn K (.ref C) (.type "BaseException") = some true
  veC : subIn K (.ref C) (.type "ValueError") = some true
  tyC : typeIn K (.ref C) = some (.type "type")
  hdC : hasDictIn K C = true
  te : exmOne K (.ref C) (.ref C) = some true
  up : mroIn K C (.ref C) = some true
  su : ks_superIn K C C "__init__" = some (some (.builtin "ValueError.__init__"))
  tp : nsIn K cStatics "thirdparty.any" = some none
  fn : ∃ (oc : Value) (od : Option Addr) (doc pm : Value) (an : Option Addr) (cda : Addr) (ct : Value) (osl : Array (Option Value)) (cc : Addr),
    K.lookup fI = some ⟨oc, od, .func (ksFn "__init__" qn iA iB iS .none .none doc pm an (.ref cda) ct cc), osl⟩ ∧ codeIn K (.ref cda) qn = true ∧
      (∃ ccl cdd vs ccs file tf, K.lookup cda = some ⟨ccl, cdd, .fields vs, ccs⟩ ∧ vs[2]? = some (.str file tf) ∧ ((prog.main.file : Str) == file) = true) ∧ ∃ cl cld csl, K.lookup cc = some ⟨cl, cld, .cell (some (.ref C)), csl⟩

theorem one_size (v : Value) : [v].length ≤ sizeLine := by
  rw [sizeLine_eq]
  exact (by decide : 1 ≤ 16777216)
/-- what __init__ leaves of a fresh error at x -/
structure InitEnd (h h' : Heap) (x C dx t1 : Addr) (v : Value) : Prop where
  keep : ∀ b o, b ≠ x → h.get? b = some o → h'.get? b = some o
  obj : h'.get? x = some { cls := .ref C, dict := some dx, data := .fields #[.ref t1, .none, .none, .none, .bool false, .none] }
  dbig : h.objs.size ≤ dx
  dne : dx ≠ x
  ns : h'.Ns1 dx (fun y => if y = fld then some v else none)
/-- a made error -/
structure OwnMade (h h' : Heap) (e C d : Addr) (v : Value) : Prop where
  keep : ∀ b o, h.get? b = some o → h'.get? b = some o
  new : h.objs.size ≤ e
  obj : ∃ oe vs, h'.get? e = some oe ∧ oe.cls = .ref C ∧ oe.dict = some d ∧ oe.data = .fields vs ∧ vs[1]? = some .none
  dbig : h.objs.size ≤ d
  dne : d ≠ e
  ns : h'.Ns1 d (fun y => if y = fld then some v else none)

section
variable {prog : Program} {w : World} {A : Around} {E : Value → Shared → Prop} {h : Heap} {g : Array GenState} {d : Drawn} {t : Nat} {os : OsState}
variable {nm q : Str} {C N : Addr} {bs bm : List Value} {hdct : Bool} {sn : List Str} {sub : List Value} {ab : Bool} {col : Option Bool} {dd : Option Addr} {k0 k1 k2 k3 k5 : Option Value}
/-- ValueError.__init__ bound to the error: its args are laid anew -/
theorem mw_call {u e t0 : Addr} {rest : List Value} {Q : Value → Shared → Prop}
    (hC : h.get? C = some (excClassObj nm q C N bs bm hdct sn sub ab col dd k0 k1 k2 k3 k5 "ValueError.__new__")) (he : h.get? e = some (excO C t0)) (hu : h.get? u = some (kxs_mw "ValueError.__init__" e)) (hrest : rest.length ≤ sizeLine)
    (hq : ∀ h' t1, (∀ b o, b ≠ e → h.get? b = some o → h'.get? b = some o) → h'.get? e = some (excO C t1) → Q .none ⟨h', g, d, t, os⟩) :
    wpAny (model prog w) A (call (.ref u) rest) Q E ⟨h, g, d, t, os⟩ := by
  refine wpAny_call (codeAny_of_tree ?_)
  show wpAny _ A.in1 (callAny (.ref u) ⟨rest, []⟩) _ _ _
  simp only [callAny]
  refine wpAny_bind (wpAny_load hu ?_)
  simp only [kxs_mw, show (Value.type "method-wrapper" == Value.type "method" || Value.type "method-wrapper" == Value.type "builtin_function_or_method" || Value.type "method-wrapper" == Value.type "method-wrapper") = true by decide, if_true]
  refine KFB.if_so (by decide) ?_
  refine wpAny_bind (ESX.check_bound F.excBase_ValueError hC he rfl ?_)
  refine wpAny_bind (wpAny_pure (wpAny_pure ?_))
  refine ⟨Code.quiet_builtin _ (by decide +kernel), codeAny_builtin F.excBase_ValueError.initEntry ?_⟩
  rw [Around.under_plainId F.excBase_ValueError.init.plain _]
  wp_walk
  refine hq _ h.objs.size (fun b o hb ho => ?_) ?_
  · rw [Heap.get?_update_other _ _ (Ne.symm hb)]
    exact Heap.get?_push_of_some _ ho
  · rw [Heap.get?_update_self _ (Heap.get?_push_of_some _ he) rfl]
    rfl
end
theorem mw_callWith {M : Model} {A : Around} {E : Value → Shared → Prop} {s : Shared} {i : String} {pos : Pos} {u x : Addr} {env : Env} {e : Expr} {rest : List Expr} {Q : Value → Shared → Prop}
    (h : wpAny M A (spliced (backTo pos (starEach (e :: rest) env))) (fun vs s₁ => KxsAt i u x s₁.heap ∧ wpAny M A (call (.ref u) vs) Q E s₁) E s)
    (he : starEach (e :: rest) env = (false, eval e env) :: starEach rest env := by rfl) (hplain : (backTo pos (starEach rest env)).any (·.1) = false := by rfl) :
    wpAny M A (callWith pos (.ref u) [] (backTo pos (starEach (e :: rest) env)) []) Q E s := by
  rw [he] at h ⊢
  refine kxs_callWith (i := i) (x := x) (by show (false || (backTo pos (starEach rest env)).any (·.1)) = false; rw [hplain]; rfl) ?_
  exact evalArgs_plain h

section
variable {prog : Program} {w : World} {A : Around} {E : Value → Shared → Prop} {R : Result → Shared → Prop} {s : Shared} {K : Frag} {mg mb : Str → Option Value} {cn qn : Str} {C fI : Addr}
theorem ldX {M : Model} {s : Shared} {name : Str} {scope : Scope} {L a cc : Addr} {cd : Value} {m : Str → Option Value} {x : Str} {pos : Pos} {v : Value} {Q : Value → Shared → Prop} {A : Around} {E : Value → Shared → Prop} (hn : s.heap.Ns L m) (hv : m x = some v) (h : Q v s)
    (hk : scope.kind = .function) (hl : (ksEnv name scope L a cd cc).kindOf x = some .local) (hd : (x == ("__debug__" : Str)) = false) :
    wpAny M A (eval (.Name x pos) (ksEnv name scope L a cd cc)) Q E s := wpAny_Name (wpAny_loadName_local hk hl hn hv h) hd
theorem own_init (T : Txt prog K mg cn qn C fI) {x t0 : Addr} {v : Value} (X : K.In s.heap) (hns : s.heap.Ns mainGlobals mg) (hb : s.heap.Ns builtinsNs mb) (hbb : ∀ x : Str, x ≠ "__name__" → mb x = bootBuiltins x)
    (htop : (prog.main.scope.names.lookup ("super" : Str)).isSome = false) (hlim : s.heap.NoLimit) (hx : s.heap.get? x = some (excO C t0)) (hnx : K.lookup x = none) (hroom : A.depth < recursionLimit)
    (hq : ∀ h' tk dx t1, InitEnd s.heap h' x C dx t1 v → R (.ok (.ret .none)) { s with heap := h', toks := tk }) :
    codeAny (model prog w) A (.call (.ref fI) ⟨[.ref x, v], []⟩) R s := by
  obtain ⟨oc, od, doc, pm, an, cda, ct, osl, cc, ho, hcd, ⟨ccl, cdd, vs, ccs, file, tf, hco, hvs, hfile⟩, cl, cld, csl, hcell⟩ := T.fn
  obtain ⟨nm, q, N, bs, bm, sn, sub, ab, col, dd, k0, k1, k2, k3, k5, hC, hbm⟩ := T.cls
  have hcl : clsIn K C = some { name := nm, bases := bs, mro := .ref C :: bm, ns := N, qualname := q, hasDict := true, slotNames := sn, subclasses := sub, abstract := ab, collection := col, hasDel := false } := by unfold clsIn; rw [hC] <;> rfl
  refine ks_codeAny_call_defAt (fd := ksFn "__init__" qn iA iB iS .none .none doc pm an (.ref cda) ct cc) (body := iB)
    (binds := [("self", .ref x), (fld, v)]) hroom (X _ _ ho) rfl hlim (codeRec_of X hcd) rfl (BindsTo.of_eq (by first | rfl | with_unfolding_all rfl)) (fun y hy => ?_) (fun y hy => ?_) (fun h₁ hn k => ?_) rfl rfl rfl
  · have : ∀ y ∈ iS.names, y.2 ≠ .cell := by decide
    exact this y hy
  · simp only [List.mem_cons, List.not_mem_nil, or_false] at hy
    rcases hy with rfl | rfl
    · rfl
    · rfl
  have hxL : s.heap.objs.size ≠ x := Nat.ne_of_gt (Heap.lt_size hx)
  have X₁ : K.In h₁ := X.keeps k
  have hx₁ := k _ _ hx
  have m1 : (fun y => List.lookup y [(("self" : Str), Value.ref x), (("place" : Str), v)].reverse) ("self" : Str) = some (.ref x) := rfl
  have m2 : (fun y => List.lookup y [(("self" : Str), Value.ref x), (("place" : Str), v)].reverse) ("place" : Str) = some v := rfl
  -- super().__init__(v)
  have hloc : ∀ {h' : Heap}, (∀ b o, b ≠ x → h₁.get? b = some o → h'.get? b = some o) → h'.Ns s.heap.objs.size (fun y => List.lookup y [(("self" : Str), Value.ref x), (("place" : Str), v)].reverse) := fun {h'} kk => by
    obtain ⟨oL, es, ep, hL, r⟩ := hn
    exact ⟨oL, es, ep, kk _ _ hxL hL, r⟩
  have I₁ : InstAt h₁ x (excO C t0) C none := ⟨hx₁, rfl, rfl, trivial⟩
  obtain ⟨oD, hD1, hD2⟩ : ∃ oD, h₁.get? C = some oD ∧ oD.data = .cls { name := nm, bases := bs, mro := .ref C :: bm, ns := N, qualname := q, hasDict := true, slotNames := sn, subclasses := sub, abstract := ab, collection := col, hasDel := false } := ⟨_, X₁ _ _ hC, rfl⟩
  obtain ⟨hh, gg, dd', tt, oss⟩ := s
  refine ks_wpAt_execs_cons (ks_wpAt_Expr_any (ks_wpAt_MethodCall ?_) rfl rfl)
  refine ks_wpAt_super_base (env := ksEnv qn iS hh.objs.size fI (.ref cda) cc) rfl rfl (by decide) rfl (X₁ _ _ ho) rfl rfl rfl (X₁ _ _ hco) rfl hvs hfile htop ?_
  refine ks_loadName_global rfl rfl (loadGlobal_builtin (env := ksEnv qn iS hh.objs.size fI (.ref cda) cc) (hns.keepsP k) T.nS (hb.keepsP k) ((hbb _ (by decide +kernel)).trans (by decide +kernel)) ⟨rfl, ?_⟩)
  refine wpAny_loadName_free rfl rfl rfl ⟨_, X₁ _ _ hcell, rfl⟩ ?_
  refine wpAny_loadName_local rfl rfl hn m1 ?_
  refine ks_wpAny_isType_cls hD1 hD2 ⟨rfl, ?_⟩
  refine ks_wpAny_call_super hD1 hD2 hx₁ rfl (fun c e => by cases e) (looks_mroIn X₁ T.up) (fun h₂ e2 k2 => ?_)
  have X₂ : K.In h₂ := X₁.keeps k2
  have hx₂ := k2 _ _ hx₁
  have I₂ : InstAt h₂ x (excO C t0) C none := ⟨hx₂, rfl, rfl, trivial⟩
  refine kxs_getMethod kxs_ValueError e2 (looks_opaque X₂ T.tp) (l₀ := .ref C :: bm) ?_ rfl X₂ ?_ ?_ (ks_ne X₂ I₂ hcl) (by decide) ?_
  · exact fun A Q E s k q => wpAny_bind ((looks_clsIn X₂ hcl) A _ E s k (wpAny_pure q))
  · have z := T.su
    unfold ks_superIn at z
    rw [hcl] at z
    exact z
  · exact I₂.type.andThen (looks_subIn X₂ T.veC)
  · have hu₃ : (h₂.push (kxs_mw "ValueError.__init__" x)).get? h₂.objs.size = some (kxs_mw "ValueError.__init__" x) := Heap.get?_push_size _ rfl
    have k3 : ∀ b o, h₁.get? b = some o → (h₂.push (kxs_mw "ValueError.__init__" x)).get? b = some o := fun b o e => Heap.get?_push_of_some _ (k2 _ _ e)
    have hn₃ := hloc (h' := h₂.push (kxs_mw "ValueError.__init__" x)) fun b o _ e => k3 b o e
    refine mw_callWith (i := "ValueError.__init__") (x := x) ?_
    refine spliced_cons (ldX hn₃ m2 (spliced_nil ⟨hu₃, ?_⟩) rfl rfl (by decide))
    refine mw_call (k3 _ _ (X₁ _ _ hC)) (k3 _ _ hx₁) hu₃ (one_size v) fun h₄ t1 k4 hx₄ => ?_
    -- self.place = v
    have k14 : ∀ b o, b ≠ x → h₁.get? b = some o → h₄.get? b = some o := fun b o hb e => k4 b o hb (k3 b o e)
    have hn₄ := hloc (h' := h₄) k14
    have X₄ : K.In h₄ := fun b o e => k14 b o (fun z => by rw [z, hnx] at e; cases e) (X₁ b o e)
    refine wpAt_of_wpAny ?_
    refine wpAny_execs_cons (plainObj_wpAny_Assign_Attribute ?_)
    refine ldX hn₄ m2 (ldX hn₄ m1 ?_ rfl rfl (by decide)) rfl rfl (by decide)
    refine set_plain X₄ (ox := excO C t1) (od := none) ⟨hx₄, rfl, rfl, trivial⟩ T.sa ?_
    refine exc_osa X₄ hx₄ hcl (show refsVE (.ref C :: bm) = true from hbm) rfl T.noN (fun h₅ tk₅ dx k₅ dn dne hx₅ hn₅ => ?_)
    refine wpAny_execs_nil (hq h₅ tk₅ dx t1 ⟨fun b o hb e => k₅ b o hb (k14 b o hb (k b o e)), hx₅, ?_, dne, hn₅⟩)
    exact Nat.le_of_lt (Nat.lt_of_lt_of_le hn₄.lt dn)
theorem own_made (T : Txt prog K mg cn qn C fI) {v : Value} (X : K.In s.heap) (hns : s.heap.Ns mainGlobals mg) (hb : s.heap.Ns builtinsNs mb) (hbb : ∀ x : Str, x ≠ "__name__" → mb x = bootBuiltins x)
    (htop : (prog.main.scope.names.lookup ("super" : Str)).isSome = false) (hlim : s.heap.NoLimit) (hroom : A.depth + 1 < recursionLimit)
    (hq : ∀ h' tk e d, OwnMade s.heap h' e C d v → R (.ok (.ret (.ref e))) { s with heap := h', toks := tk }) :
    codeAny (model prog w) A (.call (.ref C) ⟨[v], []⟩) R s := by
  obtain ⟨nm, q, N, bs, bm, sn, sub, ab, col, dd, k0, k1, k2, k3, k5, hC, hbm⟩ := T.cls
  obtain ⟨hp, g, dr, tk, os⟩ := s
  have k : ∀ b o, hp.get? b = some o → ((hp.push (kdv_tup [v])).push (excO C hp.objs.size)).get? b = some o := fun b o e => Heap.get?_push_of_some _ (Heap.get?_push_of_some _ e)
  have hget : ((hp.push (kdv_tup [v])).push (excO C hp.objs.size)).get? (hp.objs.size + 1) = some (excO C hp.objs.size) := by heap_get
  have hnx : K.lookup (hp.objs.size + 1) = none := by
    cases e : K.lookup (hp.objs.size + 1) with
    | none => rfl
    | some o =>
      have z : hp.get? (hp.objs.size + 1) = some o := X _ _ e
      exact absurd (Nat.lt_of_succ_lt (Heap.lt_size z)) (Nat.lt_irrefl _)
  refine call_own F.excBase_ValueError (fun X => refsVE_contains X bm hbm) (X _ _ hC) (looks_findIn X T.iC) (fun self => bind_fn X self T.tC) (one_size v) ?_
  refine own_init (s := ⟨(hp.push (kdv_tup [v])).push (excO C hp.objs.size), g, dr, tk, os⟩) T (X.keeps k) (hns.keepsP k) (hb.keepsP k) hbb htop (hlim.keeps k) hget hnx ?_ fun h' tk' dx t1 ⟨k', hx, dn, dne, hns⟩ => ?_
  · show A.depth + 1 < recursionLimit
    exact hroom
  · have old : ∀ b o, hp.get? b = some o → h'.get? b = some o := fun b o e => k' b o (Nat.ne_of_lt (Nat.lt_succ_of_lt (Heap.lt_size e))) (k b o e)
    have z : hp.objs.size + 1 + 1 ≤ dx := by
      first
        | (simpa only [Heap.size_push] using dn)
        | exact dn
        | (have q := dn; rw [Heap.size_push, Heap.size_push] at q; exact q)
    exact ⟨rfl, hq h' tk' (hp.objs.size + 1) dx ⟨old, Nat.le_succ _, ⟨_, _, hx, rfl, rfl, rfl, rfl⟩, Nat.le_trans (Nat.le_trans (Nat.le_succ _) (Nat.le_succ _)) z, dne, hns⟩⟩
end
end Mp.Ex
namespace Mp
open PySem PySem.Spec PyProof.Rows L2
theorem relO_one {v : V} {v' : Value} (r : RelV v v') (f : Str) : RelO (List.lookup f [(("place" : Str), v)]) (if f = ("place" : Str) then some v' else none) := by
  by_cases hw : f = "place"
  · subst hw
    rw [if_pos rfl]
    have q : List.lookup ("place" : Str) [(("place" : Str), v)] = some v := by simp [List.lookup]
    rw [q]
    exact r
  · rw [if_neg hw]
    have qw : (f == ("place" : Str)) = false := by simpa using hw
    have q2 : List.lookup f [(("place" : Str), v)] = none := by simp [List.lookup, qw]
    rw [q2]
    trivial
section
variable {X : Cx} {C fI : Addr} {cn qn : Str}
/-- E(e) -/
def tMkE (C : Addr) (ta : TA) : L2.St → Hp → XK → Prop := fun σ H Q => ta σ H fun vs H1 => ∃ v, vs = [v] ∧ ∀ d, H1 d = none → Q (.ref C) (some d) (upd H1 d (.xd [(("place" : Str), v)]))
theorem pmk_E {a : Expr} {ta : TA} {p pos : Pos} {k : Nat} (T : Ex.Txt X.prog X.K X.mg cn qn C fI) (htop : (X.prog.main.scope.names.lookup ("super" : Str)).isSome = false) (hr : Room k X.A) (ha : PA X [a] ta) (hg : Gl X cn) (hd : (cn == ("__debug__" : Str)) = false)
    (he : starEach (a :: []) X.env = (false, eval a X.env) :: starEach [] X.env := by rfl) (hpl : (backTo pos (starEach [] X.env)).any (·.1) = false := by rfl) :
    PMk X (.Call (.Name cn p) [a] [] pos) (tMkE C ta) := by
  intro pins s σ H Q I h
  refine wpAny_Call_Name_kw (ld_glob I hg T.gC ?_ hd)
  refine PySem.W.callWith_K (h₀ := X.base) I.ok.mod.kin T.kC (thn (ha.run pos pins s σ H _ I h) fun us s1 hh => ?_) he hpl
  obtain ⟨vs, H1, I1, r1, v, ev, q1⟩ := hh
  subst ev
  refine ⟨I1.kIn, ?_⟩
  cases r1 with
  | cons rv rn =>
    rename_i v' us'
    cases rn
    show wpAny _ _ (call (.ref C) [v']) _ _ _
    have hlim := I1.nolimit
    obtain ⟨mb, hb, hbb⟩ := I1.mod.blt
    have hbs := hb.keepsP I1.bk
    have hgs := I1.mod.glob.keepsP I1.bk
    obtain ⟨hp, g, dr, tk, os⟩ := s1
    refine wpAny_call (Ex.own_made T I1.kIn hgs hbs hbb htop hlim (by have := hr.dp; omega) fun h' tk' e d M => ?_)
    show MkP X pins σ Q (.ref e) ⟨h', g, dr, tk', os⟩
    obtain ⟨oe, fv, hoe, hc, hd, hdat, h1⟩ := M.obj
    have hns := M.ns
    obtain ⟨G', g1, g2⟩ := restrict h' fun b => decide (b ≠ e)
    have gk : ∀ b, b ≠ e → G'.get? b = h'.get? b := fun b hb => g1 b (decide_eq_true hb)
    have ge : G'.get? e = none := g2 e (by simp)
    have old : ∀ b o, hp.get? b = some o → G'.get? b = some o := fun b o q => (gk b (Nat.ne_of_lt (Nat.lt_of_lt_of_le (Heap.lt_size q) M.new))).trans (M.keep b o q)
    have ob : ObjOk X.prog X.w (upd H1 d (.xd [(("place" : Str), v)])) G' d (.xd [(("place" : Str), v)]) :=
      ⟨_, hns.at (fun o q => (gk d M.dne).trans q), fun f => relO_one rv f⟩
    have J : Inv X pins σ (upd H1 d (.xd [(("place" : Str), v)])) ⟨G', g, dr, tk', os⟩ := I1.laid (t' := tk') old M.dbig ob
    refine ⟨e, oe, fv, ⟨G', g, dr, tk', os⟩, _, .ref C, some d, rfl, J, fun b o q => ?_, ge, hoe, ⟨hc, hd⟩, hdat, h1, ?_, rfl, I1.bare, raises_own T.exC T.tyC, q1 d (I1.hok.fresh M.dbig)⟩
    · by_cases hb : b = e
      · have q' : G'.get? b = some o := q
        rw [hb, ge] at q'; cases q'
      · exact (gk b hb).symm.trans q
    · rw [upd_ne (Ne.symm M.dne)]
      exact I1.hok.fresh M.new
/-- low.by, low the exception that the suite holds (at a; its class cls, its dict d) -/
def tFldE (C : Addr) (a : Addr) (cls : Value) (d : Option Addr) (te : TE) : TE := fun σ H Q => te σ H fun x H1 => x = .ref a ∧ cls = .ref C ∧ ∃ (dd : Addr) (v : V), d = some dd ∧ H1 dd = some (.xd [(("place" : Str), v)]) ∧ Q v H1
theorem pe_fldE {a : Addr} {oe : Obj} {cls : Value} {d : Option Addr} {pn : List (Addr × Obj)} {e : Expr} {te : TE} {pos : Pos} (T : Ex.Txt X.prog X.K X.mg cn qn C fI) (hz : Zc cls d oe) (hf : ∃ vs, oe.data = .fields vs) (he : PE (X.suite a ((a, oe) :: pn)) e te)
    (hb : attributeBase e "place" X.env (eval e X.env) = eval e X.env := by rfl) :
    PE (X.suite a ((a, oe) :: pn)) (.Attribute e "place" pos) (tFldE C a cls d te) := by
  refine ⟨fun pins s σ H Q I h => ?_⟩
  refine attr_of hb (thn (he.run pins s σ H _ I h) fun u s1 hh => ?_)
  obtain ⟨x, H1, I1, rx, ex, ec, dd, v, ed, ea, q⟩ := hh
  subst ex
  obtain rfl : u = Value.ref a := rx
  subst ec
  subst ed
  obtain ⟨ha, _⟩ := I1.pin (a, oe) (List.mem_append_left _ List.mem_cons_self)
  obtain ⟨vs, hd⟩ := hf
  have hx : ObjOk X.prog X.w H1 s1.heap dd (.xd [(("place" : Str), v)]) := I1.hok dd _ ea
  obtain ⟨mA, hns, hr⟩ := hx
  obtain ⟨od, ho, hl⟩ := lookIn_ns hns
  have l : List.lookup ("place" : Str) [(("place" : Str), v)] = some v := by simp [List.lookup]
  obtain ⟨u, hu, ru⟩ := RelO.some_of (v := v) (o := mA "place") (by rw [← l]; exact hr "place")
  have J : PySem.W.InstAt s1.heap a oe C (some od) := ⟨ha, hz.1, by unfold PySem.W.notCls; rw [hd] <;> rfl, by rw [hz.2]; exact ho⟩
  exact HandSPX.exc_get I1.kIn J T.ga T.gg T.exC (PySem.W.findObj_own T.hdC T.noN rfl (by rw [hl, hu])) (handed_of ru) ⟨v, H1, I1.tok _, ru, q⟩
variable {P : Pm} {W : WX} {cal : Cal} {c : Nat} {ma : M}
/-- raise E(e) -/
def mRaise (c : Nat) (m : M) : MS := sBind m fun r _ _ st => match r with
  | .dat d => .exc c [d] st
  | _ => .stk
theorem psd_raiseE {a : Expr} {p pos pos2 : Pos} {k : Nat} (T : Ex.Txt X.prog X.K X.mg cn qn C fI) (htop : (X.prog.main.scope.names.lookup ("super" : Str)).isSome = false) (hcl : P.clA c = some C) (hc : X.calm = true) (hr : Room k X.A) (tk : Takes X W) (hg : Gl X cn) (hd : (cn == ("__debug__" : Str)) = false)
    (he : PEd X P W cal a ma) (hs : starEach (a :: []) X.env = (false, eval a X.env) :: starEach [] X.env := by rfl) (hpl : (backTo pos (starEach [] X.env)).any (·.1) = false := by rfl) :
    PSd X P W cal (.Raise (some (.Call (.Name cn p) [a] [] pos)) none pos2) (mRaise c ma) :=
  ps_weak (ps_raise hc tk (pmk_E T htop hr (L2.pa_cons he L2.pa_nil hs) hg hd hs hpl)) fun D σ H h => by
    refine h.then fun F ι ρ st H1 r v hE hS rr h1 => ?_
    refine ⟨v, rfl, fun d hd => ?_⟩
    split at h1
    · rename_i x
      exact (h1 F ι _ (.ref C) (some d) (Up.nw hS hd) (hS.new hd) ⟨C, hcl, rfl, d, v, rfl, upd_same, rr⟩).here
    · exact h1.elim
/-- try: .. except E as n: return ['z', n.place] -/
def mTryPl (c i : Nat) (live : Bool) (z : Str) (mb : MS) : MS := fun cal ρ st => match mb cal ρ st with
  | .exc c' as st1 => if c' = c ∧ i < ρ.length then match as with
    | d :: _ => (mkL live [.dat (.str z), .dat d] st1).bind fun r st2 => .ok (.rt r) st2
    | [] => .stk
    else .stk
  | o => o
theorem psd_tryE {body : List Stmt} {mb : MS} {i j : Nat} {n z : Str} {live : Bool} {np p1 p2 p3 p4 p5 pos' pos : Pos} (T : Ex.Txt X.prog X.K X.mg cn qn C fI) (hcl : P.clA c = some C) (hsT : X.stack = X.env :: X.outer) (hf : X.env.frame = some X.env.locals) (hN : X.N.Nodup) (hi : X.N[i]? = some n) (hln : X.env.kindOf n = some .local)
    (hg : Gl X cn) (hd : (cn == ("__debug__" : Str)) = false) (hdn : (n == ("__debug__" : Str)) = false) (hcd : (n == ("__classdict__" : Str)) = false) (hvs : Vis X.env.scope n) (tk : Takes X W)
    (hb : ∀ (W : WX) (pn : List (Addr × Obj)) (xe : Value → Shared → Prop), Takes (X.tr pn xe) W → PassesOwn (model X.prog X.w) X.A X.env xe → PSsd (X.tr pn xe) P W cal body mb)
    (hba : attributeBase (.Name n p2) "place" X.env (eval (.Name n p2) X.env) = eval (.Name n p2) X.env := by rfl)
    (h1s : starEach (.Constant (.str z) j p1 :: [.Attribute (.Name n p2) "place" p3]) X.env = (false, eval (.Constant (.str z) j p1) X.env) :: starEach [.Attribute (.Name n p2) "place" p3] X.env := by rfl)
    (h2s : starEach (.Attribute (.Name n p2) "place" p3 :: []) X.env = (false, eval (.Attribute (.Name n p2) "place" p3) X.env) :: starEach [] X.env := by rfl) :
    PSd X P W cal (.Try body [.ExceptHandler (some (.Name cn np)) (some n) [.Return (some (.List [.Constant (.str z) j p1, .Attribute (.Name n p2) "place" p3] p4)) p5] pos'] [] [] pos) (mTryPl c i live z mb) :=
  ps_weak (ps_try_as (ts := fun a cls d => tRet (L2.tLst (L2.tCons (tC (.str z)) (L2.tCons (tFldE C a cls d (tVar i)) L2.tNil)))) hsT hf hN hi hln ⟨hg, hd, .inl T.gC⟩ tk hb (fun a oe cls d pn hz hfl => by
    refine pss_one (L2.ps_ret (L2.pe_lst (L2.pa_cons L2.pe_str (L2.pa_cons (pe_fldE T hz hfl (L2.pe_var (i := i) hi hvs hdn hcd) hba) L2.pa_nil h2s) h1s)))))
  fun D σ H ⟨F, ι, ρ, st, hE, hS, hP⟩ => by
    refine ⟨F, ι, ρ, st, hE, hS, ?_⟩
    unfold mTryPl at hP
    cases q : mb cal ρ st with
    | ok f st1 => rw [q] at hP; exact hP
    | stk => rw [q] at hP; exact hP
    | exc c' as st1 =>
      rw [q] at hP
      simp only [] at hP
      split at hP
      · rename_i hc
        obtain ⟨rfl, hlt⟩ := hc
        split at hP
        · rename_i d ds
          intro F' ι' H' cls dx u s x σ' hl
          obtain ⟨C', hC', rfl, p, v, rfl, hp, rd⟩ := x
          rw [hcl] at hC'; cases hC'
          refine ⟨true, T.te, fun _ a ha => ?_, fun hf => Bool.noConfusion hf⟩
          have hlt' : i < σ'.length := by rw [hl, ← hE.1]; exact hlt
          refine ⟨_, List.getElem?_set_self hlt', rfl, rfl, p, v, rfl, hp, ?_, fun q hq => ?_⟩
          · show 2 ≤ sizeLine; decide
          · have h2 := (Post.bind (Post.up hP u)).imp (ψ := Ret P D.rt) fun r st2 F2 ι2 H2 u2 s2 h3 v rv => h3.now s2 v rv
            exact h2.mkL s hq (.cons (by simp only [RR, RD]) (.cons rd .nil))
        · exact hP.elim
      · exact hP.elim
end
end Mp
namespace Mp
open PySem PySem.Spec PyProof.Rows L2
structure PmOk (P : Pm) (K : PySem.W.Frag) (cl : Nat → Addr) : Prop where
  kS : P.kS = kSof K
  cl : ∀ c, P.clA c = some (cl c)
end Mp
namespace Mp.Ex
open PySem PySem.W PySem.Calls PyProof.Rows PySem.HandSPX
theorem su_of {K : Frag} {C FE EN FN : Addr} {enm eq fnm fq : Str} {ebs fbs bm : List Value} {esn fsn : List Str} {esub fsub : List Value} {eab fab fh eh : Bool} {ecol fcol : Option Bool} {edd fdd : Option Addr} {m0 m1 m2 m3 m5 l0 l1 l2 l3 l5 : Option Value} {ni nj : String} {v : Option (Option Value)}
    (xL : K.lookup C = some (excClassObj enm eq C EN ebs (.ref FE :: bm) eh esn esub eab ecol edd m0 m1 m2 m3 m5 ni))
    (xF : K.lookup FE = some (excClassObj fnm fq FE FN fbs bm fh fsn fsub fab fcol fdd l0 l1 l2 l3 l5 nj)) (xs : findIn K (.ref FE) "__init__" = v) : ks_superIn K C C "__init__" = v := by
  have h1 : clsIn K C = some { name := enm, bases := ebs, mro := .ref C :: .ref FE :: bm, ns := EN, qualname := eq, hasDict := eh, slotNames := esn, subclasses := esub, abstract := eab, collection := ecol, hasDel := false } := by unfold clsIn; rw [xL] <;> rfl
  have h2 : findIn K (.ref FE) "__init__" = alongIn K "__init__" (.ref FE :: bm) := by
    show (match K.lookup FE with
      | some ⟨_, _, .cls cd, _⟩ => alongIn K "__init__" cd.mro
      | _ => none) = _
    rw [xF]
  unfold ks_superIn
  rw [h1]
  show alongIn K "__init__" (((Value.ref C :: .ref FE :: bm).dropWhile (· != .ref C)).drop 1) = v
  have h3 : ((Value.ref C :: .ref FE :: bm).dropWhile (· != .ref C)).drop 1 = .ref FE :: bm := by
    simp [List.dropWhile_cons]
  rw [h3, ← h2, xs]
end Mp.Ex
end
section
set_option Elab.async false
set_option linter.all false
set_option maxRecDepth 100000
set_option autoImplicit false
/-! The machine's steps, as rewriting rules. -/
namespace Mp
open PySem PySem.Spec PyProof.Rows L2
section
variable {cal : Cal} {ρ : Rho} {st : Sto} {a b : M} {ms : ML} {i j n : Nat} {x y : R}
@[simp] theorem e_mSeq {p q : MS} : mSeq p q cal ρ st = (p cal ρ st).bind fun f st1 => match f with
  | .nx ρ1 => q cal ρ1 st1
  | f => .ok f st1 := rfl
@[simp] theorem e_mBind {α β : Type} {m : Cal → Rho → Sto → Out α} {f : α → Cal → Rho → Sto → Out β} : mBind m f cal ρ st = (m cal ρ st).bind fun a st1 => f a cal ρ st1 := rfl
@[simp] theorem e_sBind {α : Type} {m : Cal → Rho → Sto → Out α} {f : α → MS} : sBind m f cal ρ st = (m cal ρ st).bind fun a st1 => f a cal ρ st1 := rfl
@[simp] theorem e_mVar : mVar i cal ρ st = match ρ[i]? with
  | some (some r) => .ok r st
  | _ => .stk := rfl
@[simp] theorem e_mDat {d : D} : mDat d cal ρ st = .ok (.dat d) st := rfl
@[simp] theorem e_mNil : mNil cal ρ st = .ok [] st := rfl
@[simp] theorem e_mCons : mCons a ms cal ρ st = (a cal ρ st).bind fun r st1 => (ms cal ρ st1).bind fun rs st2 => .ok (r :: rs) st2 := rfl
@[simp] theorem e_mTup : mTup ms cal ρ st = (ms cal ρ st).bind fun rs st1 => fTup rs cal ρ st1 := rfl
@[simp] theorem e_mLst {lv : Bool} : mLst lv ms cal ρ st = (ms cal ρ st).bind fun rs st1 => fLst lv rs cal ρ st1 := rfl
@[simp] theorem e_mOp {sem : Sem2} : mOp sem a b cal ρ st = (a cal ρ st).bind fun x st1 => (b cal ρ st1).bind fun y st2 => sem x y st2 := rfl
@[simp] theorem e_mCmpB {sem : SemB} : mCmpB sem a b cal ρ st = (a cal ρ st).bind fun x st1 => (b cal ρ st1).bind fun y st2 => fCmp sem x y cal ρ st2 := rfl
@[simp] theorem e_mTst {t : MB} : mTst t cal ρ st = (t cal ρ st).bind fun b st1 => .ok (.dat (.bool b)) st1 := rfl
@[simp] theorem e_mIsN : mIsN a cal ρ st = (a cal ρ st).bind fun x st1 => .ok (isNon x) st1 := rfl
@[simp] theorem e_mNotB {t : MB} : mNotB t cal ρ st = (t cal ρ st).bind fun b st1 => .ok (!b) st1 := rfl
@[simp] theorem e_mAnd {t u : MB} : mAnd t u cal ρ st = (t cal ρ st).bind fun b st1 => if b then u cal ρ st1 else .ok false st1 := by
  show (t cal ρ st).bind (fun b st1 => fAnd u b cal ρ st1) = _
  congr 1
  funext b st1
  unfold fAnd
  cases b <;> rfl
@[simp] theorem e_mOr {t u : MB} : mOr t u cal ρ st = (t cal ρ st).bind fun b st1 => if b then .ok true st1 else u cal ρ st1 := by
  show (t cal ρ st).bind (fun b st1 => fOr u b cal ρ st1) = _
  congr 1
  funext b st1
  unfold fOr
  cases b <;> rfl
@[simp] theorem e_mIf {t : MB} : mIf t a b cal ρ st = (t cal ρ st).bind fun c st1 => if c then a cal ρ st1 else b cal ρ st1 := by
  show (t cal ρ st).bind (fun c st1 => (if c then a else b) cal ρ st1) = _
  congr 1
  funext c st1
  cases c <;> rfl
@[simp] theorem e_mB : mB a cal ρ st = (a cal ρ st).bind fun x st1 => fB x cal ρ st1 := rfl
@[simp] theorem e_mCall {sem : SemC} : mCall sem ms cal ρ st = (ms cal ρ st).bind fun rs st1 => sem rs st1 := rfl
@[simp] theorem e_mMethL {sem : SemM} : mMethL sem a ms cal ρ st = (a cal ρ st).bind fun x st1 => (fIsL x cal ρ st1).bind fun x st2 => (ms cal ρ st2).bind fun rs st3 => sem x rs st3 := rfl
@[simp] theorem e_mIx : mIx a b cal ρ st = (a cal ρ st).bind fun x st1 => (b cal ρ st1).bind fun y st2 => semIx x y st2 := rfl
@[simp] theorem e_mNoPart : mNoPart cal ρ st = .ok none st := rfl
@[simp] theorem e_mPart : mPart a cal ρ st = (a cal ρ st).bind fun r st1 => fPart r cal ρ st1 := rfl
@[simp] theorem e_mSl {lv : Bool} {l u : MO'} : mSl lv a l u cal ρ st = (a cal ρ st).bind fun x st1 => (l cal ρ st1).bind fun lo st2 => (u cal ρ st2).bind fun hi st3 => semSl lv x lo hi st3 := rfl
@[simp] theorem e_mRev {lv : Bool} : mRev lv a cal ρ st = (a cal ρ st).bind fun x st1 => semRev lv x cal ρ st1 := rfl
@[simp] theorem e_mExp : mExp a cal ρ st = (a cal ρ st).bind fun _ st1 => .ok (.nx ρ) st1 := rfl
@[simp] theorem e_mRet : mRet a cal ρ st = (a cal ρ st).bind fun r st1 => .ok (.rt r) st1 := rfl
@[simp] theorem e_mIfS {t : MB} {p q : MS} : mIfS t p q cal ρ st = (t cal ρ st).bind fun c st1 => if c then p cal ρ st1 else q cal ρ st1 := by
  show (t cal ρ st).bind (fun c st1 => (if c then p else q) cal ρ st1) = _
  congr 1
  funext c st1
  cases c <;> rfl
@[simp] theorem e_mPass : mPass cal ρ st = .ok (.nx ρ) st := rfl
@[simp] theorem e_mCnt : mCnt cal ρ st = .ok (.ct ρ) st := rfl
@[simp] theorem e_mBrk : mBrk cal ρ st = .ok (.bk ρ) st := rfl
@[simp] theorem e_mAsg {g : MG} : mAsg a g cal ρ st = (a cal ρ st).bind fun r st1 => (g r cal ρ st1).bind fun ρ1 st2 => .ok (.nx ρ1) st2 := rfl
@[simp] theorem e_gNm : gNm i x cal ρ st = .ok (ρ.set i (some x)) st := rfl
@[simp] theorem e_gNo : gNo [] cal ρ st = .ok ρ st := rfl
@[simp] theorem e_gMore {g : MG} {gs : MGs} {rs : List R} : gMore g gs (x :: rs) cal ρ st = (g x cal ρ st).bind fun ρ1 st1 => gs rs cal ρ1 st1 := rfl
@[simp] theorem e_gUn {gs : MGs} {ds : List D} : gUn n gs (.dat (.tuple ds)) cal ρ st = if ds.length = n then gs (ds.map R.dat) cal ρ st else .stk := rfl
@[simp] theorem e_gSb : gSb a b x cal ρ st = (a cal ρ st).bind fun o st1 => (b cal ρ st1).bind fun i st2 => match semPut o i x st2 with
  | some st3 => .ok ρ st3
  | none => .stk := rfl
@[simp] theorem e_mPar {gs : MGs} : mPar ms gs cal ρ st = (ms cal ρ st).bind fun rs st1 => (gs rs cal ρ st1).bind fun ρ1 st2 => .ok (.nx ρ1) st2 := rfl
@[simp] theorem e_mParN {gs : MGs} : mParN n ms gs cal ρ st = (ms cal ρ st).bind fun rs st1 => if rs.length = n ∧ n ≤ 8 then (gs rs cal ρ st1).bind fun ρ1 st2 => .ok (.nx ρ1) st2 else .stk := rfl
@[simp] theorem e_mAug {sem : Sem2} : mAug i sem a cal ρ st = match ρ[i]? with
  | some (some r) => (a cal ρ st).bind fun y st1 => (sem r y st1).bind fun z st2 => .ok (.nx (ρ.set i (some z))) st2
  | _ => .stk := rfl
@[simp] theorem e_mDef : mDef i ms cal ρ st = (ms cal ρ st).bind fun rs st1 => cal i rs st1 := rfl
@[simp] theorem e_mFrz : mFrz i cal ρ st = match ρ[i]? with
  | some (some r) => match frzAt r st with
    | some (d, st') => .ok (.nx (ρ.set i (some (.dat d)))) st'
    | none => .stk
  | _ => .stk := rfl
@[simp] theorem e_mRaise {c : Nat} : mRaise c a cal ρ st = (a cal ρ st).bind fun r st1 => match r with
  | .dat d => .exc c [d] st1
  | _ => .stk := rfl
@[simp] theorem e_mWhile {c : MB} {p : MS} : mWhile n c p cal ρ st = whileGo c p cal n ρ st := rfl
@[simp] theorem e_mSeqI : mSeqI a cal ρ st = (a cal ρ st).bind fun r st1 => fSeq r cal ρ st1 := rfl
theorem e_whileGo {c : MB} {p : MS} {k : Nat} : whileGo c p cal (k + 1) ρ st = (c cal ρ st).bind fun b st1 => if b then (p cal ρ st1).bind fun f st2 => match f with
      | .nx ρ2 => whileGo c p cal k ρ2 st2
      | .ct ρ2 => whileGo c p cal k ρ2 st2
      | .bk ρ2 => .ok (.nx ρ2) st2
      | .rt r2 => .ok (.rt r2) st2
    else .ok (.nx ρ) st1 := rfl
theorem e_mFor {mi : MI} {g : MG} {p : MS} : mFor mi g p cal ρ st = (mi cal ρ st).bind fun it st1 => match itAt it st1 with
  | some rs => forGo it g p cal (rs.length + 1) 0 ρ st1
  | none => .stk := rfl

/-! ### on numbers and texts -/
@[simp] theorem s_lt (i j : Int) : semLt (.dat (.int i)) (.dat (.int j)) st = some (decide (i < j)) := by
  show ltD (.int i) (.int j) = _
  unfold ltD
  have e : (PyData.int i).depth ≤ 64 := by simp [PyData.depth]
  rw [if_pos (by rfl)]
  simp only [e, if_true]
  congr 1
  show PySem.W.dataLt (.int i) (.int j) = _
  unfold PySem.W.dataLt
  simp [PySem.W.keyToks, PyProof.Rows.lexLt, PyProof.Rows.itemLt]
@[simp] theorem s_gt (i j : Int) : semGt (.dat (.int i)) (.dat (.int j)) st = some (decide (j < i)) := rfl
@[simp] theorem s_ge (i j : Int) : semGe (.dat (.int i)) (.dat (.int j)) st = some (decide (j ≤ i)) := rfl
theorem shInt (i : Int) : SeqAt.shaped (.int i) = true := by simp [SeqAt.shaped, PyData.canLay0, PyData.depth]
@[simp] theorem s_eqI (i j : Int) : semEq (.dat (.int i)) (.dat (.int j)) st = some (decide (i = j)) := by
  show (if SeqAt.shaped (.int i) && SeqAt.shaped (.int j) then some (PyData.eqv (.int i) (.int j)) else none) = _
  rw [shInt, shInt]
  simp [PyData.eqv, Bool.beq_eq_decide_eq]
@[simp] theorem s_eqS (x y : Str) : semEq (.dat (.str x)) (.dat (.str y)) st = some (decide (x = y)) := rfl
@[simp] theorem s_neI (i j : Int) : semNe (.dat (.int i)) (.dat (.int j)) st = some (!decide (i = j)) := by simp [semNe]
@[simp] theorem s_neS (x y : Str) : semNe (.dat (.str x)) (.dat (.str y)) st = some (!decide (x = y)) := by simp [semNe]
/-- one sign in a text -/
@[simp] theorem s_in1 (c : Nat) (y : Str) : semIn (.dat (.str ⟨#[c]⟩)) (.dat (.str y)) st = some (decide (c ∈ y.cps.toList)) := by
  show some (strIn ⟨#[c]⟩ y) = _
  unfold strIn
  rw [PySem.StrLaws.found_one]
@[simp] theorem s_addI {lv : Bool} (i j : Int) : semAdd lv (.dat (.int i)) (.dat (.int j)) st = .ok (.dat (.int (i + j))) st := rfl
@[simp] theorem s_subI (i j : Int) : semSub (.dat (.int i)) (.dat (.int j)) st = .ok (.dat (.int (i - j))) st := rfl
theorem s_mulI {lv : Bool} (i j : Int) (h : CMul i j) : semMul lv (.dat (.int i)) (.dat (.int j)) st = .ok (.dat (.int (i * j))) st := by
  show (if CMul i j then _ else _) = _
  rw [if_pos h]
theorem s_divI (i j : Int) (h : 0 < j ∧ j < 1073741824) : semDiv (.dat (.int i)) (.dat (.int j)) st = .ok (.dat (.int (i / j))) st := by
  show (if CDiv i j then _ else _) = _
  exact if_pos h
theorem s_modI (i j : Int) (h : 0 < j) : semMod (.dat (.int i)) (.dat (.int j)) st = .ok (.dat (.int (i % j))) st := by
  show (if 0 < j then _ else _) = _
  rw [if_pos h]
@[simp] theorem s_int (i : Int) : semInt [.dat (.int i)] st = .ok (.dat (.int i)) st := rfl
@[simp] theorem s_max (i j : Int) : semMax2 [.dat (.int i), .dat (.int j)] st = .ok (.dat (.int (if j > i then j else i))) st := rfl
@[simp] theorem f_cmp {x y : R} {sem : SemB} : fCmp sem x y cal ρ st = match sem x y st with
  | some b => .ok b st
  | none => .stk := rfl
end
end Mp
end
section
set_option Elab.async false
set_option linter.all false
set_option maxRecDepth 100000
set_option autoImplicit false
/-! Loops and comprehensions over items that stand. -/
namespace Mp
open PySem PySem.Spec PyProof.Rows L2
def forL (g : MG) (p : MS) (cal : Cal) : List R → Rho → Sto → Out Flw
  | [], ρ, st => .ok (.nx ρ) st
  | r :: rs, ρ, st => (g r cal ρ st).bind fun ρ1 st1 => (p cal ρ1 st1).bind fun f st2 => match f with
    | .nx ρ2 => forL g p cal rs ρ2 st2
    | .ct ρ2 => forL g p cal rs ρ2 st2
    | .bk ρ2 => .ok (.nx ρ2) st2
    | .rt r2 => .ok (.rt r2) st2
theorem forGo_items {g : MG} {p : MS} {cal : Cal} (rs : List R) : ∀ (k i : Nat), k + i = rs.length + 1 → ∀ ρ st, forGo (.items rs) g p cal k i ρ st = if k = 0 then .stk else forL g p cal (rs.drop i) ρ st
  | 0, i, h, ρ, st => rfl
  | k + 1, i, h, ρ, st => by
    rw [if_neg (Nat.succ_ne_zero k)]
    unfold forGo
    simp only [itAt]
    cases e : rs[i]? with
    | none =>
      have hi := List.getElem?_eq_none_iff.mp e
      rw [List.drop_eq_nil_of_le hi]; rfl
    | some r =>
      have hi := (List.getElem?_eq_some_iff.mp e).1
      have e2 : rs.drop i = r :: rs.drop (i + 1) := by
        rw [List.drop_eq_getElem_cons hi]
        congr 1
        rw [List.getElem?_eq_getElem hi] at e
        exact Option.some.inj e
      rw [e2]
      have hk : k ≠ 0 := by omega
      have ih := forGo_items (g := g) (p := p) (cal := cal) rs k (i + 1) (by omega)
      simp only [ih, hk, if_false]
      rfl
theorem for_items {mi : MI} {g : MG} {p : MS} {cal : Cal} {ρ : Rho} {st st1 : Sto} {rs : List R} (h : mi cal ρ st = .ok (.items rs) st1) : mFor mi g p cal ρ st = forL g p cal rs ρ st1 := by
  rw [e_mFor, h]
  show forGo (.items rs) g p cal (rs.length + 1) 0 ρ st1 = _
  rw [forGo_items rs (rs.length + 1) 0 (by omega)]
  rfl
def lcL (live : Bool) (g : MG) (ts : MB) (me : M) (cal : Cal) (ρ : Rho) : List R → List R → Sto → Out R
  | [], acc, st => mkL live acc st
  | r :: rs, acc, st => (noX (g r cal ρ st)).bind fun ρ1 st1 => (noX (ts cal ρ1 st1)).bind fun b st2 => if b then (noX (me cal ρ1 st2)).bind fun y st3 => if acc.length < sizeLine then lcL live g ts me cal ρ rs (acc ++ [y]) st3 else .stk
        else lcL live g ts me cal ρ rs acc st2
theorem lcGo_items {live : Bool} {g : MG} {ts : MB} {me : M} {cal : Cal} {ρ : Rho} (rs : List R) : ∀ (k i : Nat), k + i = rs.length + 1 → ∀ acc st, lcGo live (.items rs) g ts me cal ρ k i acc st = if k = 0 then .stk else lcL live g ts me cal ρ (rs.drop i) acc st
  | 0, i, h, acc, st => rfl
  | k + 1, i, h, acc, st => by
    rw [if_neg (Nat.succ_ne_zero k)]
    unfold lcGo
    simp only [itAt]
    cases e : rs[i]? with
    | none =>
      have hi := List.getElem?_eq_none_iff.mp e
      rw [List.drop_eq_nil_of_le hi]; rfl
    | some r =>
      have hi := (List.getElem?_eq_some_iff.mp e).1
      have e2 : rs.drop i = r :: rs.drop (i + 1) := by
        rw [List.drop_eq_getElem_cons hi]
        congr 1
        rw [List.getElem?_eq_getElem hi] at e
        exact Option.some.inj e
      rw [e2]
      have hk : k ≠ 0 := by omega
      have ih := lcGo_items (live := live) (g := g) (ts := ts) (me := me) (cal := cal) (ρ := ρ) rs k (i + 1) (by omega)
      simp only [ih, hk, if_false]
      rfl
theorem lc_items {live : Bool} {vs : List Nat} {mi : MI} {g : MG} {ts : MB} {me : M} {cal : Cal} {ρ : Rho} {st st1 : Sto} {rs : List R} (h : mi cal ρ st = .ok (.items rs) st1) : mLc live vs mi g ts me cal ρ st = lcL live g ts me cal (wipeR ρ vs) rs [] st1 := by
  show (mi cal ρ st).bind _ = _
  rw [h]
  show lcGo live (.items rs) g ts me cal (wipeR ρ vs) (rs.length + 1) 0 [] st1 = _
  rw [lcGo_items rs (rs.length + 1) 0 (by omega)]
  rfl
end Mp
end
section
set_option Elab.async false
set_option linter.all false
set_option maxRecDepth 100000
set_option autoImplicit false
namespace Mp.K07
open PySem PySem.Spec PyProof.Rows L2 Mp
/-- run_end -/
def b_run_end : MS :=
  (mSeq (mWhile 33554432 (mAnd (mCmpB semLt (mVar 1) (mCall semLen (mCons (mVar 0) mNil))) (mCmpB semIn (mIx (mVar 0) (mVar 1)) (mVar 2))) (mAug 1 semIAdd (mInt 1))) (mRet (mVar 1)))
/-- lexeme_at -/
def b_lexeme_at : MS :=
  (mSeq (mSet 1 (mDef 8 (mCons (mVar 0) (mCons (mVar 1) (mCons (mStr " \n") mNil))))) (mSeq (mIfS (mCmpB semEq (mVar 1) (mCall semLen (mCons (mVar 0) mNil))) (mRet (mTup (mCons (mStr "end") (mCons (mStr "") (mCons (mVar 1) mNil))))) mPass) (mSeq (mIfS (mCmpB semIn (mIx (mVar 0) (mVar 1)) (mStr "{};-")) (mRet (mTup (mCons (mStr "sign") (mCons (mIx (mVar 0) (mVar 1)) (mCons (mVar 1) mNil))))) mPass) (mSeq (mIfS (mCmpB semEq (mIx (mVar 0) (mVar 1)) (mStr "0")) (mRet (mTup (mCons (mStr "numeral") (mCons (mStr "0") (mCons (mVar 1) mNil))))) mPass) (mSeq (mIfS (mCmpB semIn (mIx (mVar 0) (mVar 1)) (mStr "0123456789")) (mRet (mTup (mCons (mStr "numeral") (mCons (mSl false (mVar 0) (mPart (mVar 1)) (mPart (mDef 8 (mCons (mVar 0) (mCons (mVar 1) (mCons (mStr "0123456789") mNil)))))) (mCons (mVar 1) mNil))))) mPass) (mSeq (mIfS (mCmpB semNotIn (mIx (mVar 0) (mVar 1)) (mStr "abcdefghijklmnopqrstuvwxyz")) (mRet (mTup (mCons (mStr "wrong") (mCons (mStr "") (mCons (mVar 1) mNil))))) mPass) (mSeq (mSet 2 (mSl false (mVar 0) (mPart (mVar 1)) (mPart (mDef 8 (mCons (mVar 0) (mCons (mVar 1) (mCons (mOp (semAdd false) (mStr "abcdefghijklmnopqrstuvwxyz") (mStr "0123456789")) mNil))))))) (mRet (mIf (mCmpB semLe (mCall semLen (mCons (mVar 2) mNil)) (mInt 12)) (mTup (mCons (mStr "word") (mCons (mVar 2) (mCons (mVar 1) mNil)))) (mTup (mCons (mStr "wrong") (mCons (mStr "") (mCons (mVar 1) mNil)))))))))))))
/-- lexemes -/
def b_lexemes : MS :=
  (mSeq (mPar (mCons (mLst true mNil) (mCons (mDef 7 (mCons (mVar 0) (mCons (mInt 0) mNil))) mNil)) (gMore (gNm 1) (gMore (gNm 2) gNo))) (mSeq (mWhile 33554432 (mCmpB semNe (mIx (mVar 2) (mInt 0)) (mStr "end")) (mSeq (mIfS (mCmpB semEq (mIx (mVar 2) (mInt 0)) (mStr "wrong")) (mRaise 1 (mIx (mVar 2) (mInt 2))) mPass) (mSeq (mExp (mMethL semAppend (mVar 1) (mCons (mVar 2) mNil))) (mSet 2 (mDef 7 (mCons (mVar 0) (mCons (mOp (semAdd false) (mIx (mVar 2) (mInt 2)) (mCall semLen (mCons (mIx (mVar 2) (mInt 1)) mNil))) mNil))))))) (mRet (mVar 1))))
/-- _law_source -/
def b__law_source : MS :=
  (mSeq (mSet 1 (mInt 11)) (mSeq (mFor (mSeqI (mVar 0)) (gNm 2) (mSet 1 (mOp semMod (mCall semInt (mCons (mOp (semAdd false) (mOp (semAdd false) (mOp (semMul false) (mVar 1) (mInt 69069)) (mOp (semMul false) (mVar 2) (mInt 31))) (mInt 5)) mNil)) (mInt 2147483629)))) (mRet (mDsp [((Sum.inr "cells" : Key), (mRev true (mLc false [2] (mSeqI (mVar 0)) (gNm 2) mYes (mCall semAbs (mCons (mVar 2) mNil))))), ((Sum.inr "left" : Key), (mInt 1)), ((Sum.inr "mixed" : Key), (mVar 1)), ((Sum.inr "turn" : Key), (mInt 0))]))))
/-- _law_pick -/
def b__law_pick : MS :=
  (mSeq (mWhile 33554432 (mAnd (mCmpB semGt (mVar 1) (mInt 1)) (mAnd (mCmpB semLt (mIx (mVar 0) (mStr "left")) (mInt 2)) (mCmpB semGt (mCall semLen (mCons (mIx (mVar 0) (mStr "cells")) mNil)) (mInt 0)))) (mAsg (mMethL semPop (mIx (mVar 0) (mStr "cells")) mNil) (gSb (mVar 0) (mStr "left")))) (mSeq (mSet 2 (mIx (mVar 0) (mStr "left"))) (mSeq (mIfS (mOr (mCmpB semLt (mVar 1) (mInt 2)) (mCmpB semGt (mVar 2) (mInt 1))) (mSeq (mAsg (mOp semDiv (mVar 2) (mCall semMax2 (mCons (mInt 1) (mCons (mVar 1) mNil)))) (gSb (mVar 0) (mStr "left"))) (mRet (mOp semMod (mCall semInt (mCons (mVar 2) mNil)) (mCall semMax2 (mCons (mInt 1) (mCons (mVar 1) mNil)))))) mPass) (mSeq (mAsg (mOp (semAdd false) (mIx (mVar 0) (mStr "turn")) (mInt 1)) (gSb (mVar 0) (mStr "turn"))) (mSeq (mSet 3 (mOp semMod (mCall semInt (mCons (mOp (semAdd false) (mIx (mVar 0) (mStr "mixed")) (mOp (semMul false) (mIx (mVar 0) (mStr "turn")) (mInt 104729))) mNil)) (mInt 998244353))) (mSeq (mSet 3 (mOp semMod (mCall semInt (mCons (mOp (semAdd false) (mOp (semMul false) (mVar 3) (mVar 3)) (mOp (semMul false) (mIx (mVar 0) (mStr "turn")) (mInt 17))) mNil)) (mInt 2147483647))) (mSeq (mAsg (mVar 3) (gSb (mVar 0) (mStr "mixed"))) (mRet (mOp semMod (mCall semInt (mCons (mOp semDiv (mVar 3) (mInt 16)) mNil)) (mVar 1))))))))))
/-- _law_of -/
def b__law_of : MS :=
  (mRet (mIx (mVar 1) (mDef 9 (mCons (mVar 0) (mCons (mCall semLen (mCons (mVar 1) mNil)) mNil)))))
/-- _law_read -/
def b__law_read : MS :=
  (mSeq (mParN 4 (mCons (mStr "abcdefghijklmnopqrstuvwxyz") (mCons (mStr "0123456789") (mCons (mLst true mNil) (mCons (mInt 0) mNil)))) (gMore (gNm 1) (gMore (gNm 2) (gMore (gNm 3) (gMore (gNm 4) gNo))))) (mSeq (mWhile 33554432 (mCmpB semLt (mVar 4) (mCall semLen (mCons (mVar 0) mNil))) (mSeq (mPar (mCons (mIx (mVar 0) (mVar 4)) (mCons (mOp (semAdd false) (mVar 4) (mInt 1)) mNil)) (gMore (gNm 5) (gMore (gNm 6) gNo))) (mSeq (mIfS (mCmpB semIn (mVar 5) (mStr " \n")) (mSeq (mSet 4 (mVar 6)) mCnt) mPass) (mSeq (mIfS (mCmpB semIn (mVar 5) (mVar 1)) (mSeq (mWhile 33554432 (mAnd (mCmpB semLt (mVar 6) (mCall semLen (mCons (mVar 0) mNil))) (mCmpB semIn (mIx (mVar 0) (mVar 6)) (mOp (semAdd false) (mVar 1) (mVar 2)))) (mSet 6 (mOp (semAdd false) (mVar 6) (mInt 1)))) (mSeq (mIfS (mCmpB semGt (mOp semSub (mVar 6) (mVar 4)) (mInt 12)) (mSeq (mFrz 3) (mRet (mTup (mCons (mVar 3) (mCons (mVar 4) mNil))))) mPass) (mExp (mMethL semAppend (mVar 3) (mCons (mTup (mCons (mStr "word") (mCons (mSl false (mVar 0) (mPart (mVar 4)) (mPart (mVar 6))) (mCons (mVar 4) mNil)))) mNil))))) (mIfS (mCmpB semIn (mVar 5) (mVar 2)) (mSeq (mWhile 33554432 (mAnd (mCmpB semNe (mVar 5) (mStr "0")) (mAnd (mCmpB semLt (mVar 6) (mCall semLen (mCons (mVar 0) mNil))) (mCmpB semIn (mIx (mVar 0) (mVar 6)) (mVar 2)))) (mSet 6 (mOp (semAdd false) (mVar 6) (mInt 1)))) (mExp (mMethL semAppend (mVar 3) (mCons (mTup (mCons (mStr "numeral") (mCons (mSl false (mVar 0) (mPart (mVar 4)) (mPart (mVar 6))) (mCons (mVar 4) mNil)))) mNil)))) (mIfS (mCmpB semIn (mVar 5) (mStr "{};-")) (mExp (mMethL semAppend (mVar 3) (mCons (mTup (mCons (mStr "sign") (mCons (mSl false (mVar 0) (mPart (mVar 4)) (mPart (mVar 6))) (mCons (mVar 4) mNil)))) mNil))) (mSeq (mFrz 3) (mRet (mTup (mCons (mVar 3) (mCons (mVar 4) mNil)))))))) (mSet 4 (mVar 6)))))) (mSeq (mFrz 3) (mRet (mTup (mCons (mVar 3) (mCons mNon mNil)))))))
/-- _law_told -/
def b__law_told : MS :=
  (mTryPl 1 1 false "place" (mRet (mLst true (mCons (mStr "told") (mCons (mDef 6 (mCons (mVar 0) mNil)) mNil)))))
/-- _law_piece -/
def b__law_piece : MS :=
  (mSeq (mSet 1 (mStr "abcdefghijklmnopqrstuvwxyz0123456789")) (mSeq (mSet 2 (mDef 2 (mCons (mVar 0) (mCons (mCall (semList false) (mCons (mSl false (mVar 1) mNoPart (mPart (mInt 26))) mNil)) mNil)))) (mSeq (mFor (mBind (mCons (mDef 9 (mCons (mVar 0) (mCons (mInt 12) mNil))) mNil) fRng1) (gNm 3) (mSet 2 (mOp (semAdd false) (mVar 2) (mDef 2 (mCons (mVar 0) (mCons (mCall (semList false) (mCons (mVar 1) mNil)) mNil)))))) (mSeq (mSet 4 (mLst false (mCons (mStr "{") (mCons (mStr "}") (mCons (mStr ";") (mCons (mStr "-") (mCons (mStr "a") (mCons (mStr "ab1") (mCons (mStr "x") (mCons (mStr "floor") (mCons (mStr "east") (mCons (mStr "flux") (mCons (mStr "0") (mCons (mStr "7") (mCons (mStr "007") (mCons (mStr "12ab") (mCons (mStr "a12") (mCons (mStr " ") (mCons (mStr "\n") (mCons (mStr "  ") (mCons (mStr "--") (mCons (mStr "of") mNil)))))))))))))))))))))) (mSeq (mSet 4 (mOp (semAdd false) (mVar 4) (mLst false (mCons (mOp (semMul false) (mStr "9") (mDef 2 (mCons (mVar 0) (mCons (mLst false (mCons (mInt 1) (mCons (mInt 5) (mCons (mInt 30) mNil)))) mNil)))) (mCons (mOp (semMul false) (mStr "a") (mInt 12)) (mCons (mOp (semMul false) (mStr "z9") (mInt 6)) (mCons (mVar 2) (mCons (mVar 2) (mCons (mVar 2) (mCons (mVar 2) mNil)))))))))) (mSeq (mSet 5 (mLst false (mCons (mStr "?") (mCons (mStr "$") (mCons (mStr "A") (mCons (mStr "aB") (mCons (mStr "_") (mCons (mStr "a_b") (mCons (mStr "\t") (mCons (mStr "+") (mCons (mStr "'") (mCons (mStr "\"") (mCons (mOp (semMul false) (mStr "a") (mInt 13)) (mCons (mOp (semMul false) (mStr "b1") (mInt 7)) (mCons (mStr ".") (mCons (mStr ",") (mCons (mStr "=") (mCons (mStr "/") (mCons (mStr "~") (mCons (mStr "@") (mCons (mStr "(") (mCons (mStr "<") (mCons (mStr ":") (mCons (mStr "*") mNil)))))))))))))))))))))))) (mRet (mIf (mCmpB semEq (mDef 9 (mCons (mVar 0) (mCons (mInt 40) mNil))) (mInt 0)) (mDef 2 (mCons (mVar 0) (mCons (mVar 5) mNil))) (mDef 2 (mCons (mVar 0) (mCons (mVar 4) mNil)))))))))))
/-- law -/
def b_law : MS :=
  (mSeq (mSet 1 (mDef 1 (mCons (mVar 0) mNil))) (mSeq (mFor (mBind (mCons (mInt 8) mNil) fRng1) (gNm 2) (mSeq (mSet 3 (mStr "")) (mSeq (mFor (mBind (mCons (mDef 2 (mCons (mVar 1) (mCons (mLst false (mCons (mInt 1) (mCons (mInt 4) (mCons (mInt 12) (mCons (mInt 40) mNil))))) mNil))) mNil) fRng1) (gNm 4) (mSet 3 (mOp (semAdd false) (mOp (semAdd false) (mVar 3) (mDef 3 (mCons (mVar 1) mNil))) (mDef 2 (mCons (mVar 1) (mCons (mLst false (mCons (mStr "") (mCons (mStr "") (mCons (mStr " ") (mCons (mStr "\n") mNil))))) mNil)))))) (mSeq (mAsg (mDef 4 (mCons (mVar 3) mNil)) (gUn 2 (gMore (gNm 5) (gMore (gNm 6) gNo)))) (mSeq (mSet 7 (mIf (mIsN (mVar 6)) (mLst false (mCons (mStr "told") (mCons (mVar 5) mNil))) (mLst false (mCons (mStr "place") (mCons (mVar 6) mNil))))) (mSeq (mSet 8 (mDef 5 (mCons (mVar 3) mNil))) (mSeq (mIfS (mCmpB semNe (mCall semRepr (mCons (mVar 8) mNil)) (mCall semRepr (mCons (mVar 7) mNil))) (mRet (mBool false)) mPass) (mIfS (mCmpB semEq (mIx (mVar 8) (mInt 0)) (mStr "told")) (mSeq (mExp (mMethL semAppend (mIx (mVar 8) (mInt 1)) (mCons mNon mNil))) (mIfS (mCmpB semNe (mCall semRepr (mCons (mDef 5 (mCons (mVar 3) mNil)) mNil)) (mCall semRepr (mCons (mVar 7) mNil))) (mRet (mBool false)) mPass)) mPass)))))))) (mSeq (mSet 9 (mOp (semAdd false) (mOp (semMul false) (mStr "a ") (mInt 3000)) (mOp (semMul false) (mStr "9") (mInt 5000)))) (mSeq (mIfS (mOr (mCmpB semNe (mCall semLen (mCons (mDef 6 (mCons (mVar 9) mNil)) mNil)) (mInt 3001)) (mOr (mCmpB semNe (mCall semRepr (mCons (mDef 6 (mCons (mStr "") mNil)) mNil)) (mStr "[]")) (mCmpB semNe (mCall semRepr (mCons (mDef 6 (mCons (mStr " \n ") mNil)) mNil)) (mStr "[]")))) (mRet (mBool false)) mPass) (mSeq (mSet 7 (mLst false (mCons (mTup (mCons (mStr "numeral") (mCons (mStr "0") (mCons (mInt 0) mNil)))) (mCons (mTup (mCons (mStr "numeral") (mCons (mStr "0") (mCons (mInt 1) mNil)))) (mCons (mTup (mCons (mStr "numeral") (mCons (mStr "7") (mCons (mInt 2) mNil)))) (mCons (mTup (mCons (mStr "sign") (mCons (mStr "-") (mCons (mInt 4) mNil)))) (mCons (mTup (mCons (mStr "sign") (mCons (mStr "-") (mCons (mInt 5) mNil)))) (mCons (mTup (mCons (mStr "word") (mCons (mStr "a1") (mCons (mInt 7) mNil)))) mNil)))))))) (mRet (mTst (mCmpB semEq (mCall semRepr (mCons (mDef 6 (mCons (mStr "007 --\na1") mNil)) mNil)) (mCall semRepr (mCons (mVar 7) mNil))))))))))
def T : Nat → Option Def
  | 8 => some ⟨3, 3, b_run_end⟩
  | 7 => some ⟨2, 3, b_lexeme_at⟩
  | 6 => some ⟨1, 3, b_lexemes⟩
  | 1 => some ⟨1, 3, b__law_source⟩
  | 9 => some ⟨2, 4, b__law_pick⟩
  | 2 => some ⟨2, 2, b__law_of⟩
  | 4 => some ⟨1, 7, b__law_read⟩
  | 5 => some ⟨1, 2, b__law_told⟩
  | 3 => some ⟨1, 6, b__law_piece⟩
  | 0 => some ⟨1, 10, b_law⟩
  | _ => none
abbrev LV : Nat := 12
end Mp.K07
end
section
set_option Elab.async false
set_option linter.all false
set_option maxRecDepth 100000
set_option autoImplicit false
set_option maxHeartbeats 2000000
namespace Mp.K07
open PySem PySem.Spec PyProof.Rows L2 Mp

/-! ### the source of drawn numbers -/
def srcO (c : Nat) (L M t : Int) : MO := .dK [(.inr "cells", .loc c), (.inr "left", .dat (.int L)), (.inr "mixed", .dat (.int M)), (.inr "turn", .dat (.int t))]
def celO (xs : List Int) : MO := .lst (xs.reverse.map fun i => .dat (.int i))
/-- the source stands at s, its numbers at c -/
def Src (s c : Nat) (st : Sto) : Prop := ∃ xs L M t, st[s]? = some (srcO c L M t) ∧ st[c]? = some (celO xs) ∧ c ≠ s ∧ xs.length ≤ 63
def Fr (s c : Nat) (st st' : Sto) : Prop := st'.length = st.length ∧ ∀ i, i ≠ s → i ≠ c → st'[i]? = st[i]?
theorem Fr.refl {s c : Nat} {st : Sto} : Fr s c st st := ⟨rfl, fun _ _ _ => rfl⟩
theorem Fr.trans {s c : Nat} {st st' st'' : Sto} (a : Fr s c st st') (b : Fr s c st' st'') : Fr s c st st'' := ⟨b.1.trans a.1, fun i h1 h2 => (b.2 i h1 h2).trans (a.2 i h1 h2)⟩
theorem Fr.setS {s c : Nat} {st : Sto} {o : MO} : Fr s c st (st.set s o) := ⟨by simp, fun i h1 h2 => List.getElem?_set_ne (Ne.symm h1)⟩
theorem Fr.setC {s c : Nat} {st : Sto} {o : MO} : Fr s c st (st.set c o) := ⟨by simp, fun i h1 h2 => List.getElem?_set_ne (Ne.symm h2)⟩
section
variable {s c : Nat} {st : Sto} {L M t v : Int} {xs : List Int} {x : Int}
theorem ix_cells (h : st[s]? = some (srcO c L M t)) : semIx (.loc s) (.dat (.str "cells")) st = .ok (.loc c) st := by
  simp only [semIx, dGet, h]; rfl
theorem ix_left (h : st[s]? = some (srcO c L M t)) : semIx (.loc s) (.dat (.str "left")) st = .ok (.dat (.int L)) st := by
  simp only [semIx, dGet, h]; rfl
theorem ix_mixed (h : st[s]? = some (srcO c L M t)) : semIx (.loc s) (.dat (.str "mixed")) st = .ok (.dat (.int M)) st := by
  simp only [semIx, dGet, h]; rfl
theorem ix_turn (h : st[s]? = some (srcO c L M t)) : semIx (.loc s) (.dat (.str "turn")) st = .ok (.dat (.int t)) st := by
  simp only [semIx, dGet, h]; rfl
theorem put_left (h : st[s]? = some (srcO c L M t)) : semPut (.loc s) (.dat (.str "left")) (.dat (.int v)) st = some (st.set s (srcO c v M t)) := by
  simp only [semPut, h]; rfl
theorem put_mixed (h : st[s]? = some (srcO c L M t)) : semPut (.loc s) (.dat (.str "mixed")) (.dat (.int v)) st = some (st.set s (srcO c L v t)) := by
  simp only [semPut, h]; rfl
theorem put_turn (h : st[s]? = some (srcO c L M t)) : semPut (.loc s) (.dat (.str "turn")) (.dat (.int v)) st = some (st.set s (srcO c L M v)) := by
  simp only [semPut, h]; rfl
theorem len_cells (h : st[c]? = some (celO xs)) : semLen [.loc c] st = .ok (.dat (.int xs.length)) st := by
  simp only [semLen, lenOf, h, celO, List.length_map, List.length_reverse]
theorem lst_cells (h : st[c]? = some (celO xs)) : lstOf st (.loc c) = some (xs.reverse.map fun i => .dat (.int i)) := by
  simp only [lstOf, h, celO]
theorem pop_cells (h : st[c]? = some (celO (x :: xs))) : semPop (.loc c) [] st = .ok (.dat (.int x)) (st.set c (celO xs)) := by
  simp only [semPop, h, celO]
  simp
end
def pC : MB := (mAnd (mCmpB semGt (mVar 1) (mInt 1)) (mAnd (mCmpB semLt (mIx (mVar 0) (mStr "left")) (mInt 2)) (mCmpB semGt (mCall semLen (mCons (mIx (mVar 0) (mStr "cells")) mNil)) (mInt 0))))
def pB : MS := (mAsg (mMethL semPop (mIx (mVar 0) (mStr "cells")) mNil) (gSb (mVar 0) (mStr "left")))
theorem pick_loop {cal : Cal} {s c : Nat} {many : Int} {a b : Option R} : ∀ (xs : List Int) (fuel : Nat) (L M t : Int) (st : Sto), xs.length < fuel → st[s]? = some (srcO c L M t) → st[c]? = some (celO xs) → c ≠ s → xs.length ≤ 63 →
    ∃ st', whileGo pC pB cal fuel [some (.loc s), some (.dat (.int many)), a, b] st = .ok (.nx [some (.loc s), some (.dat (.int many)), a, b]) st' ∧ Src s c st' ∧ Fr s c st st' := by
  intro xs
  induction xs with
  | nil =>
    intro fuel L M t st hf h1 h2 hc hl
    obtain ⟨k, rfl⟩ : ∃ k, fuel = k + 1 := ⟨fuel - 1, by omega⟩
    refine ⟨st, ?_, ⟨[], L, M, t, h1, h2, hc, hl⟩, .refl⟩
    rw [e_whileGo]
    simp [pC, ix_left h1, ix_cells h1, len_cells h2]
  | cons x xs ih =>
    intro fuel L M t st hf h1 h2 hc hl
    obtain ⟨k, rfl⟩ : ∃ k, fuel = k + 1 := ⟨fuel - 1, by omega⟩
    rw [e_whileGo]
    have hs : s < st.length := (List.getElem?_eq_some_iff.mp h1).1
    have hcc : c < st.length := (List.getElem?_eq_some_iff.mp h2).1
    have h3 : (st.set c (celO xs))[s]? = some (srcO c L M t) := by rw [List.getElem?_set_ne hc]; exact h1
    by_cases m : 1 < many ∧ L < 2
    · obtain ⟨st', e, hS, hF⟩ := ih k x M t ((st.set c (celO xs)).set s (srcO c x M t)) (by simp at hf; omega) (by rw [List.getElem?_set_self (by simpa using hs)]) (by rw [List.getElem?_set_ne (Ne.symm hc), List.getElem?_set_self hcc]) hc (by simp at hl; omega)
      refine ⟨st', ?_, hS, Fr.setC.trans (Fr.setS.trans hF)⟩
      simp [pC, pB, ix_left h1, ix_cells h1, len_cells h2, m.1, m.2, fIsL, lst_cells h2, pop_cells h2, put_left h3]
      exact e
    · refine ⟨st, ?_, ⟨x :: xs, L, M, t, h1, h2, hc, hl⟩, .refl⟩
      simp [pC, ix_left h1, ix_cells h1, len_cells h2]
      by_cases m1 : 1 < many
      · have m2 : ¬ L < 2 := fun h => m ⟨m1, h⟩
        simp [m1, m2]
      · simp [m1]
theorem pick_ok {k : Nat} {s c : Nat} {many : Int} {st : Sto} (h : Src s c st) (hm : many < 1073741824) :
    ∃ r st', callD T (k + 1) 9 [.loc s, .dat (.int many)] st = .ok (.dat (.int r)) st' ∧ 0 ≤ r ∧ (1 ≤ many → r < many) ∧ Src s c st' ∧ Fr s c st st' := by
  obtain ⟨xs, L, M, t, h1, h2, hc, hl⟩ := h
  obtain ⟨st1, e1, ⟨xs1, L1, M1, t1, a1, a2, _, al⟩, f1⟩ := pick_loop (cal := callD T k) (many := many) (a := none) (b := none) xs 33554432 L M t st (by omega) h1 h2 hc hl
  have e0 : callD T (k + 1) 9 [.loc s, .dat (.int many)] st = finish st.length (b__law_pick (callD T k) [some (.loc s), some (.dat (.int many)), none, none] st) := rfl
  have hsl : s < st1.length := (List.getElem?_eq_some_iff.mp a1).1
  have hcl : c < st1.length := (List.getElem?_eq_some_iff.mp a2).1
  have fin : ∀ (r : Int) (st' : Sto), st'.length = st.length → finish st.length (.ok (.rt (.dat (.int r))) st') = .ok (.dat (.int r)) st' := fun r st' hl => by
    show Out.ok (R.dat (.int r)) (st'.take st.length) = _
    rw [List.take_of_length_le (by omega)]
  rw [e0]
  unfold b__law_pick
  have e1' : whileGo (mAnd (mCmpB semGt (mVar 1) (mInt 1)) (mAnd (mCmpB semLt (mIx (mVar 0) (mStr "left")) (mInt 2)) (mCmpB semGt (mCall semLen (mCons (mIx (mVar 0) (mStr "cells")) mNil)) (mInt 0)))) (mAsg (mMethL semPop (mIx (mVar 0) (mStr "cells")) mNil) (gSb (mVar 0) (mStr "left"))) (callD T k) 33554432 [some (.loc s), some (.dat (.int many)), none, none] st = _ := e1
  by_cases hA : many < 2 ∨ 1 < L1
  · have hmax : 0 < (if many > 1 then many else 1) ∧ (if many > 1 then many else 1) < 1073741824 := by
      by_cases m : many > 1
      · rw [if_pos m]; omega
      · rw [if_neg m]; omega
    refine ⟨L1 % (if many > 1 then many else 1), st1.set s (srcO c (L1 / (if many > 1 then many else 1)) M1 t1), ?_, Int.emod_nonneg _ (by omega), fun hm1 => ?_, ⟨xs1, _, M1, t1, List.getElem?_set_self hsl, by rw [List.getElem?_set_ne (Ne.symm hc)]; exact a2, hc, al⟩, f1.trans .setS⟩
    · rw [← fin _ _ (by simp [f1.1])]
      congr 1
      have hor : (decide (many < 2) || decide (1 < L1)) = true := by simpa using hA
      simp only [e_mSeq, e_mWhile, e1', Out.bind_ok]
      rcases hA with q | q
      · simp [ix_left a1, q, s_divI _ _ hmax, s_modI _ _ hmax.1, put_left a1]
      · simp [ix_left a1, q, s_divI _ _ hmax, s_modI _ _ hmax.1, put_left a1]
    · have := Int.emod_lt_of_pos L1 hmax.1
      by_cases m : many > 1
      · rw [if_pos m] at this ⊢; exact this
      · rw [if_neg m] at this ⊢; omega
  · have q1 : ¬ many < 2 := fun h => hA (.inl h)
    have q2 : ¬ 1 < L1 := fun h => hA (.inr h)
    have h3 : (st1.set s (srcO c L1 M1 (t1 + 1)))[s]? = some (srcO c L1 M1 (t1 + 1)) := List.getElem?_set_self hsl
    have c1 : CMul (t1 + 1) 104729 := .inr ⟨by decide, by decide⟩
    have c2 : CMul (t1 + 1) 17 := .inr ⟨by decide, by decide⟩
    have p1 : (0 : Int) < 998244353 := by decide
    have p2 : (0 : Int) < 2147483647 := by decide
    have p3 : (0 : Int) < 16 ∧ (16 : Int) < 1073741824 := by decide
    have b1 := Int.emod_nonneg (M1 + (t1 + 1) * 104729) (show (998244353 : Int) ≠ 0 by decide)
    have b2 := Int.emod_lt_of_pos (M1 + (t1 + 1) * 104729) p1
    have c3 : CMul ((M1 + (t1 + 1) * 104729) % 998244353) ((M1 + (t1 + 1) * 104729) % 998244353) := .inr ⟨by omega, by omega⟩
    refine ⟨((((M1 + (t1 + 1) * 104729) % 998244353 * ((M1 + (t1 + 1) * 104729) % 998244353) + (t1 + 1) * 17) % 2147483647) / 16) % many,
      (st1.set s (srcO c L1 M1 (t1 + 1))).set s (srcO c L1 (((M1 + (t1 + 1) * 104729) % 998244353 * ((M1 + (t1 + 1) * 104729) % 998244353) + (t1 + 1) * 17) % 2147483647) (t1 + 1)), ?_, Int.emod_nonneg _ (by omega), fun _ => Int.emod_lt_of_pos _ (by omega),
      ⟨xs1, L1, _, t1 + 1, List.getElem?_set_self (by simpa using hsl), by rw [List.getElem?_set_ne (Ne.symm hc), List.getElem?_set_ne (Ne.symm hc)]; exact a2, hc, al⟩, f1.trans (Fr.setS.trans Fr.setS)⟩
    rw [← fin _ _ (by simp [f1.1])]
    congr 1
    simp only [e_mSeq, e_mWhile, e1', Out.bind_ok]
    have pm : (0 : Int) < many := by omega
    simp [ix_left a1, q1, q2, ix_turn a1, put_turn a1, ix_mixed h3, ix_turn h3, s_mulI _ _ c1, s_modI _ _ p1, s_mulI _ _ c3, s_mulI _ _ c2, s_modI _ _ p2, put_mixed h3, s_divI _ _ p3, s_modI _ _ pm]
end Mp.K07
end
section
set_option Elab.async false
set_option linter.all false
set_option maxRecDepth 100000
set_option autoImplicit false
set_option maxHeartbeats 2000000
namespace Mp.K07
open PySem PySem.Spec PyProof.Rows L2 Mp

theorem take_same {st st' : Sto} (h : st'.length = st.length) : st'.take st.length = st' := List.take_of_length_le (by omega)
/-- one of the things -/
theorem of_ok {k s c : Nat} {st : Sto} {ds : List D} (h : Src s c st) (hn : ds ≠ []) (hl : ds.length < 1073741824) :
    ∃ d st', callD T (k + 2) 2 [.loc s, .dat (.list ds)] st = .ok (.dat d) st' ∧ d ∈ ds ∧ Src s c st' ∧ Fr s c st st' := by
  obtain ⟨r, st', e, h0, h1, hS, hF⟩ := pick_ok (k := k) (many := (ds.length : Int)) h (by omega)
  have hpos : 0 < ds.length := List.length_pos_iff.mpr hn
  have hr := h1 (by omega)
  obtain ⟨j, rfl⟩ := Int.eq_ofNat_of_zero_le h0
  have hj : j < ds.length := by omega
  refine ⟨ds[j], st', ?_, List.getElem_mem hj, hS, hF⟩
  have e0 : callD T (k + 2) 2 [.loc s, .dat (.list ds)] st = finish st.length (b__law_of (callD T (k + 1)) [some (.loc s), some (.dat (.list ds))] st) := rfl
  rw [e0]
  unfold b__law_of
  have g : atI (ds.map R.dat) (j : Int) = some (.dat ds[j]) := atI_nat (by rw [List.getElem?_map, List.getElem?_eq_getElem hj]; rfl)
  have hlen : semLen [.dat (.list ds)] st = .ok (.dat (.int ds.length)) st := rfl
  have hix : semIx (.dat (.list ds)) (.dat (.int (j : Int))) st' = .ok (.dat ds[j]) st' := by
    simp [semIx, dGet, lstOf, g]
  simp [hlen, e, hix, finish, take_same hF.1]

/-! ### the source, made -/
def mixL : List Int → Int → Int
  | [], m => m
  | x :: xs, m => mixL xs ((m * 69069 + x * 31 + 5) % 2147483629)
def absI (i : Int) : Int := if i < 0 then -i else i
theorem src_loop {cal : Cal} {a : Option R} {st : Sto} {n : R} : ∀ (ns : List Int) (m : Int) (a : Option R), ∃ b,
    forL (gNm 2) (mSet 1 (mOp semMod (mCall semInt (mCons (mOp (semAdd false) (mOp (semAdd false) (mOp (semMul false) (mVar 1) (mInt 69069)) (mOp (semMul false) (mVar 2) (mInt 31))) (mInt 5)) mNil)) (mInt 2147483629))) cal (ns.map fun i => R.dat (.int i)) [some n, some (.dat (.int m)), a] st =
      .ok (.nx [some n, some (.dat (.int (mixL ns m))), b]) st := by
  intro ns
  induction ns with
  | nil => exact fun m a => ⟨a, rfl⟩
  | cons x xs ih =>
    intro m a
    obtain ⟨b, e⟩ := ih ((m * 69069 + x * 31 + 5) % 2147483629) (some (.dat (.int x)))
    refine ⟨b, ?_⟩
    have c1 : CMul m 69069 := .inr ⟨by decide, by decide⟩
    have c2 : CMul x 31 := .inr ⟨by decide, by decide⟩
    have p1 : (0 : Int) < 2147483629 := by decide
    simp [forL, s_mulI _ _ c1, s_mulI _ _ c2, s_modI _ _ p1]
    exact e
theorem abs_comp {cal : Cal} {st : Sto} {a b : Option R} : ∀ (ns : List Int) (acc : List D), acc.length + ns.length ≤ 1000 →
    lcL false (gNm 2) mYes (mCall semAbs (mCons (mVar 2) mNil)) cal [a, b, none] (ns.map fun i => R.dat (.int i)) (acc.map R.dat) st = .ok (.dat (.list (acc ++ ns.map fun i => .int (absI i)))) st := by
  intro ns
  induction ns with
  | nil =>
    intro acc _
    show (match datsOf (acc.map R.dat) with | some ds => Out.ok (R.dat (.list ds)) st | none => .stk) = _
    rw [datsOf_map]
    simp
  | cons x xs ih =>
    intro acc hl
    have h := ih (acc ++ [.int (absI x)]) (by simp at hl ⊢; omega)
    have hz : acc.length < sizeLine := by
      have : (1000 : Nat) < sizeLine := by decide
      simp at hl; omega
    have e : ∀ st : Sto, semAbs [R.dat (.int x)] st = .ok (.dat (.int (absI x))) st := fun _ => rfl
    simp [lcL, noX, mYes, e, hz]
    simpa using h
theorem merge4 (a b c d : R) : mergeR [] [((.inr "cells" : Key), a), (.inr "left", b), (.inr "mixed", c), (.inr "turn", d)] = [((.inr "cells" : Key), a), (.inr "left", b), (.inr "mixed", c), (.inr "turn", d)] := rfl
theorem src_ok {k : Nat} {ns : List Int} {st : Sto} (hl : ns.length ≤ 63) :
    ∃ st', callD T (k + 1) 1 [.scr ns] st = .ok (.loc (st.length + 1)) st' ∧ Src (st.length + 1) st.length st' ∧ st'.length = st.length + 2 := by
  have e0 : callD T (k + 1) 1 [.scr ns] st = finish st.length (b__law_source (callD T k) [some (.scr ns), none, none] st) := rfl
  obtain ⟨b, e1⟩ := src_loop (cal := callD T k) (st := st) (n := .scr ns) (a := none) ns 11 none
  have e2 : mFor (mSeqI (mVar 0)) (gNm 2) (mSet 1 (mOp semMod (mCall semInt (mCons (mOp (semAdd false) (mOp (semAdd false) (mOp (semMul false) (mVar 1) (mInt 69069)) (mOp (semMul false) (mVar 2) (mInt 31))) (mInt 5)) mNil)) (mInt 2147483629))) (callD T k) [some (.scr ns), some (.dat (.int 11)), none] st = _ := (for_items (rs := ns.map fun i => R.dat (.int i)) rfl).trans e1
  have e3 : mLc false [2] (mSeqI (mVar 0)) (gNm 2) mYes (mCall semAbs (mCons (mVar 2) mNil)) (callD T k) [some (.scr ns), some (.dat (.int (mixL ns 11))), b] st = .ok (.dat (.list (ns.map fun i => .int (absI i)))) st := by
    rw [lc_items (rs := ns.map fun i => R.dat (.int i)) (st1 := st) rfl]
    exact abs_comp (cal := callD T k) (st := st) ns [] (by simp; omega)
  refine ⟨st ++ [celO (ns.map absI), srcO st.length 1 (mixL ns 11) 0], ?_, ⟨ns.map absI, 1, mixL ns 11, 0, by simp, by simp, by omega, by simpa using hl⟩, by simp⟩
  rw [e0]
  unfold b__law_source
  simp only [e_mSeq, e_mAsg, e_mDat, Out.bind_ok, e_gNm, List.set_cons_succ, List.set_cons_zero, e2, e_mRet, mDsp, dspGo, e_mBind, e_mRev, e3]
  have hrev : ((ns.map fun i => PyData.int (absI i)).map R.dat).reverse = (ns.map absI).reverse.map fun i => R.dat (.int i) := by
    simp [List.map_reverse, Function.comp_def]
  have e4 : semRev true (.dat (.list (ns.map fun i => .int (absI i)))) (callD T k) [some (.scr ns), some (.dat (.int (mixL ns 11))), b] st = .ok (.loc st.length) (st ++ [celO (ns.map absI)]) := by
    unfold celO
    rw [← hrev]
    rfl
  rw [e4]
  simp [finish, merge4, srcO]
end Mp.K07
end
section
set_option Elab.async false
set_option linter.all false
set_option maxRecDepth 100000
set_option autoImplicit false
set_option maxHeartbeats 4000000
namespace Mp.K07
open PySem PySem.Spec PyProof.Rows L2 Mp

/-- a short plain text -/
def okS (n : Nat) (z : Str) : Prop := z.length ≤ n ∧ ∀ c ∈ z.cps.toList, c < 128
def okB (n : Nat) (d : D) : Bool := match d with
  | .str z => decide (z.length ≤ n) && z.cps.toList.all fun c => decide (c < 128)
  | _ => false
theorem okB_of {n : Nat} {d : D} (h : okB n d = true) : ∃ z, d = .str z ∧ okS n z := by
  unfold okB at h
  split at h
  · rename_i z
    simp only [Bool.and_eq_true, decide_eq_true_eq, List.all_eq_true] at h
    exact ⟨z, rfl, h.1, h.2⟩
  · cases h
theorem all_of {n : Nat} {ds : List D} (h : ds.all (okB n) = true) {d : D} (m : d ∈ ds) : ∃ z, d = .str z ∧ okS n z := okB_of (List.all_eq_true.mp h d m)
theorem okB_to {n : Nat} {z : Str} (h : okS n z) : okB n (.str z) = true := by
  unfold okB
  simp only [Bool.and_eq_true, decide_eq_true_eq, List.all_eq_true]
  exact h
theorem len_app (a b : Str) : (a ++ b).length = a.length + b.length := by
  show (a.cps ++ b.cps).size = _
  simp [Str.length]
theorem okS.app {m n : Nat} {a b : Str} (h1 : okS m a) (h2 : okS n b) : okS (m + n) (a ++ b) := by
  refine ⟨by rw [len_app]; have := h1.1; have := h2.1; omega, fun c hc => ?_⟩
  have e : (a ++ b).cps.toList = a.cps.toList ++ b.cps.toList := by
    show (a.cps ++ b.cps).toList = _
    simp
  rw [e] at hc
  rcases List.mem_append.mp hc with h | h
  · exact h1.2 c h
  · exact h2.2 c h
theorem okS.mono {m n : Nat} {a : Str} (h : okS m a) (hm : m ≤ n) : okS n a := ⟨Nat.le_trans h.1 hm, h.2⟩
theorem s_addS {lv : Bool} {st : Sto} {a b : Str} (h : a.length + b.length ≤ 100000) : semAdd lv (.dat (.str a)) (.dat (.str b)) st = .ok (.dat (.str (a ++ b))) st := by
  have hs : (100000 : Nat) ≤ sizeLine := by decide
  show (if a.length + b.length ≤ sizeLine then _ else _) = _
  exact if_pos (by omega)
theorem s_mulS {lv : Bool} {st : Sto} {z : Str} {k : Int} (h : 1 ≤ k ∧ k < 2 ^ 32 ∧ z.length * k.toNat ≤ sizeLine) : semMul lv (.dat (.str z)) (.dat (.int k)) st = .ok (.dat (.str (PySem.Txt.mul z k))) st := by
  show (if 1 ≤ k ∧ k < 2 ^ 32 ∧ z.length * k.toNat ≤ sizeLine then _ else _) = _
  exact if_pos h
def LET : Str := "abcdefghijklmnopqrstuvwxyz0123456789"
def d26 : List D := chrsOf (cutS LET none (some 26))
def d36 : List D := chrsOf LET
theorem d26_ok : d26.all (okB 1) = true := by decide +kernel
theorem d36_ok : d36.all (okB 1) = true := by decide +kernel
theorem sl26 {st : Sto} : semSl false (.dat (.str LET)) none (some 26) st = .ok (.dat (.str (cutS LET none (some 26)))) st := by
  show (if LET.length ≤ sizeLine then Out.ok (R.dat (.str (cutS LET none (some 26)))) st else .stk) = _
  exact if_pos (by decide +kernel)
theorem ls26 {st : Sto} : semList false [.dat (.str (cutS LET none (some 26)))] st = .ok (.dat (.list d26)) st := by
  show (if (cutS LET none (some 26)).length ≤ sizeLine then mkL false (d26.map R.dat) st else .stk) = _
  rw [if_pos (by decide +kernel)]
  unfold mkL
  rw [datsOf_map]
  rfl
theorem ls36 {st : Sto} : semList false [.dat (.str LET)] st = .ok (.dat (.list d36)) st := by
  show (if LET.length ≤ sizeLine then mkL false (d36.map R.dat) st else .stk) = _
  rw [if_pos (by decide +kernel)]
  unfold mkL
  rw [datsOf_map]
  rfl
def wB : MS := (mSet 2 (mOp (semAdd false) (mVar 2) (mDef 2 (mCons (mVar 0) (mCons (mCall (semList false) (mCons (mVar 1) mNil)) mNil)))))
theorem word_loop {k s c : Nat} {e f : Option R} : ∀ (rs : List R) (n : Nat) (w : Str) (a : Option R) (st : Sto), okS n w → n + rs.length ≤ 50 → Src s c st →
    ∃ w' a' st', forL (gNm 3) wB (callD T (k + 2)) rs [some (.loc s), some (.dat (.str LET)), some (.dat (.str w)), a, e, f] st = .ok (.nx [some (.loc s), some (.dat (.str LET)), some (.dat (.str w')), a', e, f]) st' ∧ okS (n + rs.length) w' ∧ Src s c st' ∧ Fr s c st st' := by
  intro rs
  induction rs with
  | nil => exact fun n w a st h _ hS => ⟨w, a, st, rfl, h, hS, .refl⟩
  | cons r rs ih =>
    intro n w a st h hl hS
    obtain ⟨d, st1, e1, hm, hS1, hF1⟩ := of_ok (k := k) (ds := d36) hS (by decide) (by decide)
    obtain ⟨z, rfl, hz⟩ := all_of d36_ok hm
    have hw := h.app hz
    obtain ⟨w', a', st', e2, h2, hS2, hF2⟩ := ih (n + 1) (w ++ z) (some r) st1 hw (by simp at hl; omega) hS1
    refine ⟨w', a', st', ?_, ?_, hS2, hF1.trans hF2⟩
    · have hadd : semAdd false (.dat (.str w)) (.dat (.str z)) st1 = .ok (.dat (.str (w ++ z))) st1 := s_addS (by have := h.1; have := hz.1; simp at hl; omega)
      simp [forL, wB, ls36, e1, hadd]
      exact e2
    · have : n + (r :: rs).length = n + 1 + rs.length := by simp; omega
      rw [this]; exact h2
def someD (a : D) (w : Str) : List D := ([.str "{", .str "}", .str ";", .str "-", .str "a", .str "ab1", .str "x", .str "floor", .str "east", .str "flux", .str "0", .str "7", .str "007", .str "12ab", .str "a12", .str " ", .str "\n", .str "  ", .str "--", .str "of"] : List D) ++
  [a, .str (PySem.Txt.mul "a" 12), .str (PySem.Txt.mul "z9" 6), .str w, .str w, .str w, .str w]
def oddD : List D := [.str "?", .str "$", .str "A", .str "aB", .str "_", .str "a_b", .str "\t", .str "+", .str "'", .str "\"", .str (PySem.Txt.mul "a" 13), .str (PySem.Txt.mul "b1" 7), .str ".", .str ",", .str "=", .str "/", .str "~", .str "@", .str "(", .str "<", .str ":", .str "*"]
def c20 : List D := [.str "{", .str "}", .str ";", .str "-", .str "a", .str "ab1", .str "x", .str "floor", .str "east", .str "flux", .str "0", .str "7", .str "007", .str "12ab", .str "a12", .str " ", .str "\n", .str "  ", .str "--", .str "of"]
theorem f20 {cal : Cal} {ρ : Rho} {st : Sto} : fLst false [R.dat (.str "{"), R.dat (.str "}"), R.dat (.str ";"), R.dat (.str "-"), R.dat (.str "a"), R.dat (.str "ab1"), R.dat (.str "x"), R.dat (.str "floor"), R.dat (.str "east"), R.dat (.str "flux"), R.dat (.str "0"), R.dat (.str "7"), R.dat (.str "007"), R.dat (.str "12ab"), R.dat (.str "a12"), R.dat (.str " "), R.dat (.str "\n"), R.dat (.str "  "), R.dat (.str "--"), R.dat (.str "of")] cal ρ st = .ok (.dat (.list c20)) st := rfl
theorem fOdd {cal : Cal} {ρ : Rho} {st : Sto} : fLst false [R.dat (.str "?"), R.dat (.str "$"), R.dat (.str "A"), R.dat (.str "aB"), R.dat (.str "_"), R.dat (.str "a_b"), R.dat (.str "\t"), R.dat (.str "+"), R.dat (.str "'"), R.dat (.str "\""), R.dat (.str (PySem.Txt.mul "a" 13)), R.dat (.str (PySem.Txt.mul "b1" 7)), R.dat (.str "."), R.dat (.str ","), R.dat (.str "="), R.dat (.str "/"), R.dat (.str "~"), R.dat (.str "@"), R.dat (.str "("), R.dat (.str "<"), R.dat (.str ":"), R.dat (.str "*")] cal ρ st = .ok (.dat (.list oddD)) st := rfl
theorem odd_ok : oddD.all (okB 30) = true := by decide +kernel
theorem some_ok {a : D} {w : Str} (ha : okB 30 a = true) (hw : okS 30 w) : (someD a w).all (okB 30) = true := by
  have h1 : ([.str "{", .str "}", .str ";", .str "-", .str "a", .str "ab1", .str "x", .str "floor", .str "east", .str "flux", .str "0", .str "7", .str "007", .str "12ab", .str "a12", .str " ", .str "\n", .str "  ", .str "--", .str "of"] : List D).all (okB 30) = true := by decide +kernel
  have h2 : okB 30 (.str (PySem.Txt.mul "a" 12)) = true := by decide +kernel
  have h3 : okB 30 (.str (PySem.Txt.mul "z9" 6)) = true := by decide +kernel
  unfold someD
  rw [List.all_append, h1]
  simp only [List.all_cons, ha, h2, h3, okB_to hw, List.all_nil, Bool.and_self]
theorem nine_ok {d : D} (m : d ∈ ([.int 1, .int 5, .int 30] : List D)) (st : Sto) : ∃ z, semMul false (.dat (.str "9")) (.dat d) st = .ok (.dat (.str z)) st ∧ okB 30 (.str z) = true := by
  simp only [List.mem_cons, List.not_mem_nil, or_false] at m
  rcases m with rfl | rfl | rfl
  · exact ⟨_, s_mulS (by decide), by decide +kernel⟩
  · exact ⟨_, s_mulS (by decide), by decide +kernel⟩
  · exact ⟨_, s_mulS (by decide), by decide +kernel⟩
theorem piece_ok {k s c : Nat} {st : Sto} (h : Src s c st) : ∃ z st', callD T (k + 3) 3 [.loc s] st = .ok (.dat (.str z)) st' ∧ okS 30 z ∧ Src s c st' ∧ Fr s c st st' := by
  obtain ⟨d1, st1, e1, m1, S1, F1⟩ := of_ok (k := k) (ds := d26) h (by decide) (by decide)
  obtain ⟨w0, rfl, hw0⟩ := all_of d26_ok m1
  obtain ⟨r, st2, e2, r0, r1, S2, F2⟩ := pick_ok (k := k + 1) (many := 12) S1 (by decide)
  have r1 := r1 (by decide)
  obtain ⟨w, a, st3, e3, hw, S3, F3⟩ := word_loop (k := k) (e := none) (f := none) ((List.range r.toNat).map fun k => R.dat (.int (0 + (k : Nat)))) 1 w0 none st2 hw0 (by simp; omega) S2
  have hw : okS 30 w := hw.mono (by simp; omega)
  obtain ⟨d4, st4, e4, m4, S4, F4⟩ := of_ok (k := k) (ds := [.int 1, .int 5, .int 30]) S3 (by simp) (by decide)
  obtain ⟨z9, e9, h9⟩ := nine_ok m4 st4
  obtain ⟨b, st5, e5, b0, b1, S5, F5⟩ := pick_ok (k := k + 1) (many := 40) S4 (by decide)
  obtain ⟨d6, st6, e6, m6, S6, F6⟩ := of_ok (k := k) (ds := oddD) S5 (by decide) (by decide)
  obtain ⟨d7, st7, e7, m7, S7, F7⟩ := of_ok (k := k) (ds := someD (.str z9) w) S5 (by simp [someD]) (by simp [someD])
  obtain ⟨z6, rfl, hz6⟩ := all_of odd_ok m6
  obtain ⟨z7, rfl, hz7⟩ := all_of (some_ok h9 hw) m7
  have F15 := F1.trans (F2.trans (F3.trans (F4.trans F5)))
  have e0 : callD T (k + 3) 3 [.loc s] st = finish st.length (b__law_piece (callD T (k + 2)) [some (.loc s), none, none, none, none, none] st) := rfl
  have hrg : fRng1 [.dat (.int r)] (callD T (k + 2)) [some (.loc s), some (.dat (.str LET)), some (.dat (.str w0)), none, none, none] st2 = .ok (.items ((List.range r.toNat).map fun k => R.dat (.int (0 + (k : Nat))))) st2 := by
    show (if -(2 ^ 62) ≤ r ∧ r < 2 ^ 62 then _ else _) = _
    exact if_pos (by omega)
  have hfor : mFor (mBind (mCons (mDef 9 (mCons (mVar 0) (mCons (mInt 12) mNil))) mNil) fRng1) (gNm 3) (mSet 2 (mOp (semAdd false) (mVar 2) (mDef 2 (mCons (mVar 0) (mCons (mCall (semList false) (mCons (mVar 1) mNil)) mNil))))) (callD T (k + 2)) [some (.loc s), some (.dat (.str LET)), some (.dat (.str w0)), none, none, none] st1 =
      .ok (.nx [some (.loc s), some (.dat (.str LET)), some (.dat (.str w)), a, none, none]) st3 := by
    refine (for_items (st1 := st2) (rs := (List.range r.toNat).map fun k => R.dat (.int (0 + (k : Nat)))) ?_).trans e3
    simp only [e_mBind, e_mCons, e_mDef, e_mVar, List.getElem?_cons_zero, Out.bind_ok, e_mDat, e_mNil, e2]
    exact hrg
  have m12 : ∀ st, semMul false (.dat (.str "a")) (.dat (.int 12)) st = .ok (.dat (.str (PySem.Txt.mul "a" 12))) st := fun st => s_mulS (by decide)
  have m6' : ∀ st, semMul false (.dat (.str "z9")) (.dat (.int 6)) st = .ok (.dat (.str (PySem.Txt.mul "z9" 6))) st := fun st => s_mulS (by decide)
  have m13 : ∀ st, semMul false (.dat (.str "a")) (.dat (.int 13)) st = .ok (.dat (.str (PySem.Txt.mul "a" 13))) st := fun st => s_mulS (by decide)
  have m7' : ∀ st, semMul false (.dat (.str "b1")) (.dat (.int 7)) st = .ok (.dat (.str (PySem.Txt.mul "b1" 7))) st := fun st => s_mulS (by decide)
  have main : ∃ z st', b__law_piece (callD T (k + 2)) [some (.loc s), none, none, none, none, none] st = .ok (.rt (.dat (.str z))) st' ∧ okS 30 z ∧ Src s c st' ∧ Fr s c st st' := by
    unfold b__law_piece
    have eL : ∀ {cal : Cal} {ρ : Rho} {st : Sto}, mStr "abcdefghijklmnopqrstuvwxyz0123456789" cal ρ st = .ok (.dat (.str LET)) st := rfl
    simp only [e_mSeq, e_mAsg, eL, Out.bind_ok, e_gNm, List.set_cons_succ, List.set_cons_zero, e_mDef, e_mCons, e_mVar, List.getElem?_cons_zero, List.getElem?_cons_succ, e_mCall, e_mSl, e_mNoPart, e_mPart, e_mDat, fPart, sl26, ls26, e_mNil, e1, hfor]
    have l3 : ∀ {cal : Cal} {ρ : Rho} {st : Sto}, fLst false [R.dat (.int 1), R.dat (.int 5), R.dat (.int 30)] cal ρ st = .ok (.dat (.list [.int 1, .int 5, .int 30])) st := rfl
    have l7 : ∀ {cal : Cal} {ρ : Rho} {st : Sto}, fLst false [.dat (.str z9), .dat (.str (PySem.Txt.mul "a" 12)), .dat (.str (PySem.Txt.mul "z9" 6)), .dat (.str w), .dat (.str w), .dat (.str w), .dat (.str w)] cal ρ st = .ok (.dat (.list [.str z9, .str (PySem.Txt.mul "a" 12), .str (PySem.Txt.mul "z9" 6), .str w, .str w, .str w, .str w])) st := rfl
    have hadd : ∀ st, semAdd false (.dat (.list c20)) (.dat (.list [.str z9, .str (PySem.Txt.mul "a" 12), .str (PySem.Txt.mul "z9" 6), .str w, .str w, .str w, .str w])) st = .ok (.dat (.list (someD (.str z9) w))) st := fun st => rfl
    simp only [f20, Out.bind_ok, e_mOp, e_mVar, List.getElem?_cons_zero, List.getElem?_cons_succ, e_mLst, e_mCons, e_mDef, l3, e_mDat, e_mNil, e4, e9, m12, m6', l7, hadd, List.set_cons_succ, List.set_cons_zero, fOdd, m13, m7', e_mRet, e_mIf, e_mCmpB, e5, f_cmp, s_eqI]
    by_cases hb0 : b = 0
    · refine ⟨z6, st6, ?_, hz6, S6, F15.trans F6⟩
      simp [hb0, e6]
    · refine ⟨z7, st7, ?_, hz7, S7, F15.trans F7⟩
      simp [hb0, e7]
  obtain ⟨z, st', em, hz, hS, hF⟩ := main
  refine ⟨z, st', ?_, hz, hS, hF⟩
  rw [e0, em]
  show Out.ok (R.dat (.str z)) (st'.take st.length) = _
  rw [take_same hF.1]
end Mp.K07
end
section
set_option Elab.async false
set_option linter.all false
set_option maxRecDepth 100000
set_option autoImplicit false
set_option maxHeartbeats 4000000
namespace Mp.K07
open PySem PySem.Spec PyProof.Rows L2 Mp

/-! ### the lexemes, told plainly -/
def LTS : Str := "abcdefghijklmnopqrstuvwxyz"
def FGS : Str := "0123456789"
def BLK : Str := " \n"
def SGN : Str := "{};-"
abbrev isIn (y : Str) (c : Nat) : Bool := decide (c ∈ y.cps.toList)
def spanL (p : Nat → Bool) : List Nat → Nat
  | [] => 0
  | c :: r => if p c then spanL p r + 1 else 0
theorem spanL_le (p : Nat → Bool) : ∀ r, spanL p r ≤ r.length
  | [] => Nat.le_refl _
  | c :: r => by
    unfold spanL
    split
    · have := spanL_le p r; simp; omega
    · exact Nat.zero_le _
def tok (c : Nat) (r : List Nat) : Option (Str × Nat) :=
  if isIn LTS c then (if 12 < spanL (isIn (LTS ++ FGS)) r + 1 then none else some ("word", spanL (isIn (LTS ++ FGS)) r + 1))
  else if isIn FGS c then some ("numeral", if c = 48 then 1 else spanL (isIn FGS) r + 1)
  else if isIn SGN c then some ("sign", 1)
  else none
def lexD (kd : Str) (w : List Nat) (i : Nat) : D := .tuple [.str kd, .str ⟨w.toArray⟩, .int (i : Int)]
def rd : Nat → Nat → List Nat → List D × Option Nat
  | 0, _, _ => ([], none)
  | k + 1, i, [] => ([], none)
  | k + 1, i, c :: r => if isIn BLK c then rd k (i + 1) r else match tok c r with
    | none => ([], some i)
    | some (kd, L) => (lexD kd ((c :: r).take L) i :: (rd k (i + L) ((c :: r).drop L)).1, (rd k (i + L) ((c :: r).drop L)).2)
theorem tok_pos {c : Nat} {r : List Nat} {kd : Str} {L : Nat} (h : tok c r = some (kd, L)) : 1 ≤ L ∧ L ≤ r.length + 1 := by
  unfold tok at h
  have h1 := spanL_le (isIn (LTS ++ FGS)) r
  have h2 := spanL_le (isIn FGS) r
  split at h
  · split at h
    · cases h
    · cases h; omega
  · split at h
    · cases h
      split <;> omega
    · split at h
      · cases h; omega
      · cases h

/-! ### signs of a text -/
section
variable {z : Str} {cs : List Nat} {st : Sto} {j : Nat} {c : Nat} {r : List Nat}
theorem drop_cons (h : cs.drop j = c :: r) : j < cs.length ∧ cs[j]? = some c ∧ cs.drop (j + 1) = r := by
  have hj : j < cs.length := by
    by_cases q : j < cs.length
    · exact q
    · rw [List.drop_eq_nil_of_le (by omega)] at h; cases h
  rw [List.drop_eq_getElem_cons hj] at h
  injection h with h1 h2
  exact ⟨hj, by rw [List.getElem?_eq_getElem hj, h1], h2⟩
theorem ix_txt (hz : z.length ≤ 100000) (hc : z.cps.toList[j]? = some c) : semIx (.dat (.str z)) (.dat (.int (j : Int))) st = .ok (.dat (.str ⟨#[c]⟩)) st := by
  have hs : (100000 : Nat) ≤ sizeLine := by decide
  have e := atI_nat hc
  simp [semIx, dGet, e, show z.length ≤ sizeLine by omega]
theorem len_txt (hz : z.length ≤ 100000) : semLen [.dat (.str z)] st = .ok (.dat (.int z.length)) st := by
  have hs : (100000 : Nat) ≤ sizeLine := by decide
  simp [semLen, lenOf, show z.length ≤ sizeLine by omega]
theorem len_cs : z.cps.toList.length = z.length := by simp [Str.length]
theorem cut_txt (hz : z.length ≤ 100000) {i L : Nat} (h : i + L ≤ z.length) : semSl false (.dat (.str z)) (some (i : Int)) (some ((i + L : Nat) : Int)) st = .ok (.dat (.str ⟨((z.cps.toList.drop i).take L).toArray⟩)) st := by
  have hs : (100000 : Nat) ≤ sizeLine := by decide
  show (if z.length ≤ sizeLine then Out.ok (R.dat (.str (cutS z _ _))) st else .stk) = _
  rw [if_pos (by omega)]
  unfold cutS
  simp only [Option.map_some, HT.sIx_nat]
  rw [Nat.min_eq_left h, Nat.min_eq_left (show i ≤ z.length by omega)]
  rw [show i + L - i = L by omega]
end
end Mp.K07
end
section
set_option Elab.async false
set_option linter.all false
set_option maxRecDepth 100000
set_option autoImplicit false
set_option maxHeartbeats 4000000
namespace Mp.K07
open PySem PySem.Spec PyProof.Rows L2 Mp

/-! ### enough fuel -/
theorem rd_fuel : ∀ (k k' i : Nat) (r : List Nat), r.length ≤ k → r.length ≤ k' → rd k i r = rd k' i r
  | 0, 0, _, _, _, _ => rfl
  | 0, k' + 1, i, [], _, _ => rfl
  | 0, k' + 1, i, c :: r, h, _ => by simp at h
  | k + 1, 0, i, [], _, _ => rfl
  | k + 1, 0, i, c :: r, _, h => by simp at h
  | k + 1, k' + 1, i, [], _, _ => rfl
  | k + 1, k' + 1, i, c :: r, h, h' => by
    simp at h h'
    unfold rd
    rw [rd_fuel k k' (i + 1) r h h']
    cases e : tok c r with
    | none => rfl
    | some p =>
      obtain ⟨kd, L⟩ := p
      have hp := tok_pos e
      have : ((c :: r).drop L).length ≤ r.length := by simp; omega
      simp only [rd_fuel k k' (i + L) ((c :: r).drop L) (by omega) (by omega)]
def RD (i : Nat) (r : List Nat) : List D × Option Nat := rd r.length i r
theorem RD_nil {i : Nat} : RD i [] = ([], none) := rfl
theorem RD_cons {i c : Nat} {r : List Nat} : RD i (c :: r) = if isIn BLK c then RD (i + 1) r else match tok c r with
    | none => ([], some i)
    | some (kd, L) => (lexD kd ((c :: r).take L) i :: (RD (i + L) ((c :: r).drop L)).1, (RD (i + L) ((c :: r).drop L)).2) := by
  show rd (r.length + 1) i (c :: r) = _
  unfold rd
  cases e : tok c r with
  | none => rfl
  | some p =>
    obtain ⟨kd, L⟩ := p
    have hp := tok_pos e
    simp only [rd_fuel r.length ((c :: r).drop L).length (i + L) ((c :: r).drop L) (by simp; omega) (Nat.le_refl _)]
    rfl
theorem RD_blk {i c : Nat} {r : List Nat} (h : isIn BLK c = true) : RD i (c :: r) = RD (i + 1) r := by rw [RD_cons, if_pos h]
theorem RD_bad {i c : Nat} {r : List Nat} (h : isIn BLK c = false) (e : tok c r = none) : RD i (c :: r) = ([], some i) := by rw [RD_cons, h]; simp [e]
theorem RD_tok {i c : Nat} {r : List Nat} {kd : Str} {L : Nat} (h : isIn BLK c = false) (e : tok c r = some (kd, L)) : RD i (c :: r) = (lexD kd ((c :: r).take L) i :: (RD (i + L) ((c :: r).drop L)).1, (RD (i + L) ((c :: r).drop L)).2) := by rw [RD_cons, h]; simp [e]

/-! ### a loop over signs -/
theorem span_while {C : MB} {B : MS} {cal : Cal} {ρ : Nat → Rho} {p : Nat → Bool} {cs : List Nat} {st : Sto} (hC : ∀ j, C cal (ρ j) st = .ok (match cs[j]? with | some c => p c | none => false) st) (hB : ∀ j, B cal (ρ j) st = .ok (.nx (ρ (j + 1))) st) :
    ∀ fuel j, cs.length < fuel + j → j ≤ cs.length → whileGo C B cal fuel (ρ j) st = .ok (.nx (ρ (j + spanL p (cs.drop j)))) st := by
  intro fuel
  induction fuel with
  | zero => intro j h h'; omega
  | succ k ih =>
    intro j h h'
    rw [e_whileGo, hC]
    cases e : cs.drop j with
    | nil =>
      have hl : cs.length ≤ j := by
        have := congrArg List.length e
        simp at this; omega
      rw [List.getElem?_eq_none hl]
      simp [spanL]
    | cons c r =>
      obtain ⟨hj, e1, e2⟩ := drop_cons e
      rw [e1]
      cases hp : p c with
      | false => simp [spanL, hp]
      | true =>
        have e3 := ih (j + 1) (by omega) (by omega)
        rw [e2] at e3
        have e4 : j + spanL p (c :: r) = j + 1 + spanL p r := by simp [spanL, hp]; omega
        rw [e4, ← e3]
        simp [hB, hp]
section
variable {z y : Str} {st : Sto}
theorem cs_none {j : Nat} (h : z.cps.toList[j]? = none) : z.length ≤ j := by
  have := List.getElem?_eq_none_iff.mp h
  rw [len_cs] at this; exact this
theorem cs_some {j c : Nat} (h : z.cps.toList[j]? = some c) : j < z.length := by
  have := (List.getElem?_eq_some_iff.mp h).1
  rw [len_cs] at this; exact this
theorem run_end_ok {k i : Nat} (hz : z.length ≤ 100000) (hi : i ≤ z.length) : callD T (k + 1) 8 [.dat (.str z), .dat (.int (i : Int)), .dat (.str y)] st = .ok (.dat (.int ((i + spanL (isIn y) (z.cps.toList.drop i) : Nat) : Int))) st := by
  have e0 : callD T (k + 1) 8 [.dat (.str z), .dat (.int (i : Int)), .dat (.str y)] st = finish st.length (b_run_end (callD T k) [some (.dat (.str z)), some (.dat (.int (i : Int))), some (.dat (.str y))] st) := rfl
  have h := span_while (C := mAnd (mCmpB semLt (mVar 1) (mCall semLen (mCons (mVar 0) mNil))) (mCmpB semIn (mIx (mVar 0) (mVar 1)) (mVar 2))) (B := mAug 1 semIAdd (mInt 1)) (cal := callD T k)
    (ρ := fun j => [some (.dat (.str z)), some (.dat (.int (j : Int))), some (.dat (.str y))]) (p := isIn y) (cs := z.cps.toList) (st := st) ?_ ?_ 33554432 i (by rw [len_cs]; omega) (by rw [len_cs]; exact hi)
  · rw [e0]
    unfold b_run_end
    rw [e_mSeq, e_mWhile, h]
    simp [finish]
  · intro j
    simp [len_txt hz, -Array.getElem?_toList, -Array.mem_toList_iff]
    cases e : z.cps.toList[j]? with
    | none =>
      have := cs_none e
      simp [show ¬ (j : Nat) < z.length by omega, -Array.getElem?_toList, e]
    | some c =>
      have := cs_some e
      simp [this, ix_txt hz e, -Array.getElem?_toList, -Array.mem_toList_iff, e]
  · intro j
    simp [semIAdd, mInt]
end
end Mp.K07
end
section
set_option Elab.async false
set_option linter.all false
set_option maxRecDepth 100000
set_option autoImplicit false
set_option maxHeartbeats 4000000
namespace Mp.K07
open PySem PySem.Spec PyProof.Rows L2 Mp

section
variable {cal : Cal} {z : Str} {st : Sto} {ts : List D} {d : D}
def lst (ts : List D) : MO := .lst (ts.map R.dat)
theorem at_last {o : MO} : (st ++ [o])[st.length]? = some o := by simp
theorem set_last {o o' : MO} : (st ++ [o]).set st.length o' = st ++ [o'] := by simp [List.set_append]
theorem app_last (h : ts.length < 100000) : semAppend (.loc st.length) [.dat d] (st ++ [lst ts]) = .ok (.dat .none) (st ++ [lst (ts ++ [d])]) := by
  have hs : (100000 : Nat) ≤ sizeLine := by decide
  show (match (st ++ [lst ts])[st.length]? with
    | some (.lst qs) => if qs.length < sizeLine then Out.ok (R.dat PyData.none) ((st ++ [lst ts]).set st.length (MO.lst (qs ++ [R.dat d]))) else Out.stk
    | _ => .stk) = _
  rw [at_last]
  simp only [lst]
  rw [if_pos (by simp; omega), set_last]
  simp
theorem frz_last {i : Nat} {ρ : Rho} (h : ρ[i]? = some (some (.loc st.length))) : mFrz i cal ρ (st ++ [lst ts]) = .ok (.nx (ρ.set i (some (.dat (.list ts))))) (st ++ [.dead]) := by
  rw [e_mFrz, h]
  simp only [frzAt, at_last, lst, datsOf_map, Option.map_some, set_last]
theorem isl_last {ρ : Rho} {qs : List R} : fIsL (.loc st.length) cal ρ (st ++ [.lst qs]) = .ok (.loc st.length) (st ++ [.lst qs]) := by
  unfold fIsL
  simp only [lstOf, at_last]
theorem isl_l {ρ : Rho} : fIsL (.loc st.length) cal ρ (st ++ [lst ts]) = .ok (.loc st.length) (st ++ [lst ts]) := isl_last
/-- the places of `_law_read` -/
def rho (z : Str) (n i : Nat) (a b : Option R) : Rho := [some (.dat (.str z)), some (.dat (.str LTS)), some (.dat (.str FGS)), some (.loc n), some (.dat (.int (i : Int))), a, b]
def rC : MB := (mCmpB semLt (mVar 4) (mCall semLen (mCons (mVar 0) mNil)))
def rB1 : MS := (mPar (mCons (mIx (mVar 0) (mVar 4)) (mCons (mOp (semAdd false) (mVar 4) (mInt 1)) mNil)) (gMore (gNm 5) (gMore (gNm 6) gNo)))
def rW1 : MS := (mWhile 33554432 (mAnd (mCmpB semLt (mVar 6) (mCall semLen (mCons (mVar 0) mNil))) (mCmpB semIn (mIx (mVar 0) (mVar 6)) (mOp (semAdd false) (mVar 1) (mVar 2)))) (mSet 6 (mOp (semAdd false) (mVar 6) (mInt 1))))
def rW2 : MS := (mWhile 33554432 (mAnd (mCmpB semNe (mVar 5) (mStr "0")) (mAnd (mCmpB semLt (mVar 6) (mCall semLen (mCons (mVar 0) mNil))) (mCmpB semIn (mIx (mVar 0) (mVar 6)) (mVar 2)))) (mSet 6 (mOp (semAdd false) (mVar 6) (mInt 1))))
def rApp (kd : Str) : MS := (mExp (mMethL semAppend (mVar 3) (mCons (mTup (mCons (mStr kd) (mCons (mSl false (mVar 0) (mPart (mVar 4)) (mPart (mVar 6))) (mCons (mVar 4) mNil)))) mNil)))
def rOut : MS := (mSeq (mFrz 3) (mRet (mTup (mCons (mVar 3) (mCons (mVar 4) mNil)))))
def rB : MS := (mSeq rB1 (mSeq (mIfS (mCmpB semIn (mVar 5) (mStr " \n")) (mSeq (mSet 4 (mVar 6)) mCnt) mPass) (mSeq (mIfS (mCmpB semIn (mVar 5) (mVar 1)) (mSeq rW1 (mSeq (mIfS (mCmpB semGt (mOp semSub (mVar 6) (mVar 4)) (mInt 12)) rOut mPass) (rApp "word"))) (mIfS (mCmpB semIn (mVar 5) (mVar 2)) (mSeq rW2 (rApp "numeral")) (mIfS (mCmpB semIn (mVar 5) (mStr "{};-")) (rApp "sign") rOut))) (mSet 4 (mVar 6)))))
theorem read_body : b__law_read = (mSeq (mParN 4 (mCons (mStr "abcdefghijklmnopqrstuvwxyz") (mCons (mStr "0123456789") (mCons (mLst true mNil) (mCons (mInt 0) mNil)))) (gMore (gNm 1) (gMore (gNm 2) (gMore (gNm 3) (gMore (gNm 4) gNo))))) (mSeq (mWhile 33554432 rC rB) (mSeq (mFrz 3) (mRet (mTup (mCons (mVar 3) (mCons mNon mNil))))))) := rfl
variable {n i c : Nat} {r : List Nat} {a b : Option R}
theorem rW1_ok {L : Nat} (hz : z.length ≤ 100000) (h : z.cps.toList.drop i = c :: r) : rW1 cal (rho z n i a (some (.dat (.int ((i + 1 : Nat) : Int))))) st = .ok (.nx (rho z n i a (some (.dat (.int ((i + (spanL (isIn (LTS ++ FGS)) r + 1) : Nat) : Int)))))) st := by
  obtain ⟨hj, e1, e2⟩ := drop_cons h
  rw [len_cs] at hj
  have h := span_while (C := (mAnd (mCmpB semLt (mVar 6) (mCall semLen (mCons (mVar 0) mNil))) (mCmpB semIn (mIx (mVar 0) (mVar 6)) (mOp (semAdd false) (mVar 1) (mVar 2))))) (B := (mSet 6 (mOp (semAdd false) (mVar 6) (mInt 1)))) (cal := cal)
    (ρ := fun j => rho z n i a (some (.dat (.int (j : Int))))) (p := isIn (LTS ++ FGS)) (cs := z.cps.toList) (st := st) ?_ ?_ 33554432 (i + 1) (by rw [len_cs]; omega) (by rw [len_cs]; omega)
  · unfold rW1
    rw [e_mWhile, h, e2, show i + 1 + spanL (isIn (LTS ++ FGS)) r = i + (spanL (isIn (LTS ++ FGS)) r + 1) by omega]
  · intro j
    have ea : ∀ st, semAdd false (.dat (.str LTS)) (.dat (.str FGS)) st = .ok (.dat (.str (LTS ++ FGS))) st := fun st => s_addS (by decide)
    simp [rho, len_txt hz, -Array.getElem?_toList, -Array.mem_toList_iff]
    cases e : z.cps.toList[j]? with
    | none =>
      have := cs_none e
      simp [show ¬ (j : Nat) < z.length by omega, -Array.getElem?_toList, e]
    | some c =>
      have := cs_some e
      simp [this, ix_txt hz e, -Array.getElem?_toList, -Array.mem_toList_iff, e, ea]
  · intro j
    simp [rho, mInt]
theorem rW2_ok (hz : z.length ≤ 100000) (h : z.cps.toList.drop i = c :: r) : rW2 cal (rho z n i (some (.dat (.str ⟨#[c]⟩))) (some (.dat (.int ((i + 1 : Nat) : Int))))) st = .ok (.nx (rho z n i (some (.dat (.str ⟨#[c]⟩))) (some (.dat (.int ((i + (if c = 48 then 1 else spanL (isIn FGS) r + 1) : Nat) : Int)))))) st := by
  obtain ⟨hj, e1, e2⟩ := drop_cons h
  rw [len_cs] at hj
  have h48 : (decide ((⟨#[c]⟩ : Str) = "0")) = decide (c = 48) := by
    by_cases q : c = 48
    · subst q; rfl
    · have : ¬ ((⟨#[c]⟩ : Str) = "0") := by
        intro e
        have e2 : (⟨#[c]⟩ : Str).cps.toList = ("0" : Str).cps.toList := by rw [e]
        have e3 : ("0" : Str).cps.toList = [48] := by decide
        rw [e3] at e2
        simp at e2
        exact q e2
      simp [q, this]
  have e0 : ∀ {ρ : Rho} {st : Sto}, mStr "0" cal ρ st = .ok (.dat (.str "0")) st := rfl
  by_cases q : c = 48
  · unfold rW2
    rw [e_mWhile, e_whileGo]
    rw [if_pos q]
    simp [rho, e0, q] at h48 ⊢
    simp [h48]
  · have h := span_while (C := (mAnd (mCmpB semNe (mVar 5) (mStr "0")) (mAnd (mCmpB semLt (mVar 6) (mCall semLen (mCons (mVar 0) mNil))) (mCmpB semIn (mIx (mVar 0) (mVar 6)) (mVar 2))))) (B := (mSet 6 (mOp (semAdd false) (mVar 6) (mInt 1)))) (cal := cal)
      (ρ := fun j => rho z n i (some (.dat (.str ⟨#[c]⟩))) (some (.dat (.int (j : Int))))) (p := isIn FGS) (cs := z.cps.toList) (st := st) ?_ ?_ 33554432 (i + 1) (by rw [len_cs]; omega) (by rw [len_cs]; omega)
    · unfold rW2
      rw [e_mWhile, h, e2, if_neg q, show i + 1 + spanL (isIn FGS) r = i + (spanL (isIn FGS) r + 1) by omega]
    · intro j
      simp [q] at h48
      simp [rho, e0, h48, len_txt hz, -Array.getElem?_toList, -Array.mem_toList_iff]
      cases e : z.cps.toList[j]? with
      | none =>
        have := cs_none e
        simp [show ¬ (j : Nat) < z.length by omega, -Array.getElem?_toList, e]
      | some c =>
        have := cs_some e
        simp [this, ix_txt hz e, -Array.getElem?_toList, -Array.mem_toList_iff, e]
    · intro j
      simp [rho, mInt]
theorem rApp_ok {kd : Str} {L : Nat} (hz : z.length ≤ 100000) (hL : i + L ≤ z.length) (ht : ts.length < 100000) :
    rApp kd cal (rho z st.length i a (some (.dat (.int ((i + L : Nat) : Int))))) (st ++ [lst ts]) = .ok (.nx (rho z st.length i a (some (.dat (.int ((i + L : Nat) : Int)))))) (st ++ [lst (ts ++ [lexD kd ((z.cps.toList.drop i).take L) i])]) := by
  have e0 : ∀ {ρ : Rho} {st : Sto}, mStr kd cal ρ st = .ok (.dat (.str kd)) st := rfl
  have e1 : ∀ {ρ : Rho} {st : Sto} {w : Str}, fTup [.dat (.str kd), .dat (.str w), .dat (.int (i : Int))] cal ρ st = .ok (.dat (.tuple [.str kd, .str w, .int i])) st := rfl
  unfold rApp
  simp only [e_mExp, e_mMethL, e_mVar, rho, List.getElem?_cons_zero, List.getElem?_cons_succ, Out.bind_ok, isl_l, e_mCons, e_mTup, e0, e_mSl, e_mPart, fPart, cut_txt hz hL, e_mNil, e1, app_last ht]
  rfl
theorem rOut_ok : rOut cal (rho z st.length i a b) (st ++ [lst ts]) = .ok (.rt (.dat (.tuple [.list ts, .int i]))) (st ++ [.dead]) := by
  unfold rOut
  rw [e_mSeq, frz_last (by rfl)]
  rfl
end
end Mp.K07
end
section
set_option Elab.async false
set_option linter.all false
set_option maxRecDepth 100000
set_option autoImplicit false
set_option maxHeartbeats 4000000
namespace Mp.K07
open PySem PySem.Spec PyProof.Rows L2 Mp

section
variable {cal : Cal} {z : Str} {st : Sto} {ts : List D} {n i c : Nat} {r : List Nat} {a b : Option R}
theorem rB1_ok (hz : z.length ≤ 100000) (h : z.cps.toList.drop i = c :: r) : rB1 cal (rho z n i a b) st = .ok (.nx (rho z n i (some (.dat (.str ⟨#[c]⟩))) (some (.dat (.int ((i + 1 : Nat) : Int)))))) st := by
  obtain ⟨hj, e1, e2⟩ := drop_cons h
  unfold rB1
  have e3 := ix_txt (st := st) hz e1
  simp only [e_mPar, e_mCons, e_mIx, e_mVar, rho, List.getElem?_cons_zero, List.getElem?_cons_succ, Out.bind_ok, e3, e_mOp, mInt, e_mDat, s_addI, e_mNil, e_gMore, e_gNm, e_gNo, List.set_cons_succ, List.set_cons_zero]
  rfl
theorem eBLK {ρ : Rho} : mStr " \n" cal ρ st = .ok (.dat (.str BLK)) st := rfl
theorem eSGN {ρ : Rho} : mStr "{};-" cal ρ st = .ok (.dat (.str SGN)) st := rfl
theorem e12 {ρ : Rho} : mInt 12 cal ρ st = .ok (.dat (.int 12)) st := rfl
theorem rB_blank (hz : z.length ≤ 100000) (h : z.cps.toList.drop i = c :: r) (hb : isIn BLK c = true) : rB cal (rho z n i a b) st = .ok (.ct (rho z n (i + 1) (some (.dat (.str ⟨#[c]⟩))) (some (.dat (.int ((i + 1 : Nat) : Int)))))) st := by
  unfold rB
  rw [e_mSeq, rB1_ok hz h]
  simp only [Out.bind_ok, e_mSeq, e_mIfS, e_mCmpB, e_mVar, rho, List.getElem?_cons_zero, List.getElem?_cons_succ, eBLK, f_cmp, s_in1, hb, if_true, e_mAsg, e_gNm, List.set_cons_succ, List.set_cons_zero, e_mCnt]
theorem rB_bad (hz : z.length ≤ 100000) (h : z.cps.toList.drop i = c :: r) (hb : isIn BLK c = false) (ht : tok c r = none) : rB cal (rho z st.length i a b) (st ++ [lst ts]) = .ok (.rt (.dat (.tuple [.list ts, .int i]))) (st ++ [.dead]) := by
  unfold rB
  rw [e_mSeq, rB1_ok hz h]
  have hv5 : ∀ {st1 : Sto} {b : Option R}, mVar 5 cal (rho z st.length i (some (.dat (.str ⟨#[c]⟩))) b) st1 = .ok (.dat (.str ⟨#[c]⟩)) st1 := rfl
  have hv1 : ∀ {st1 : Sto} {a b : Option R}, mVar 1 cal (rho z st.length i a b) st1 = .ok (.dat (.str LTS)) st1 := rfl
  have hv2 : ∀ {st1 : Sto} {a b : Option R}, mVar 2 cal (rho z st.length i a b) st1 = .ok (.dat (.str FGS)) st1 := rfl
  have hv4 : ∀ {st1 : Sto} {a b : Option R}, mVar 4 cal (rho z st.length i a b) st1 = .ok (.dat (.int (i : Int))) st1 := rfl
  have hv6 : ∀ {st1 : Sto} {a : Option R} {x : R}, mVar 6 cal (rho z st.length i a (some x)) st1 = .ok x st1 := rfl
  unfold tok at ht
  cases h1 : isIn LTS c with
  | true =>
    rw [h1] at ht
    simp only [if_true] at ht
    split at ht
    · rename_i h12
      have h12' : decide ((12 : Int) < ((i + (spanL (isIn (LTS ++ FGS)) r + 1) : Nat) : Int) - (i : Int)) = true := by
        rw [decide_eq_true_eq]; omega
      simp only [Out.bind_ok, e_mSeq, e_mIfS, e_mCmpB, hv5, hv1, hv2, eBLK, eSGN, f_cmp, s_in1, hb, if_true, if_false, e_mPass, h1, Bool.false_eq_true, rW1_ok (L := 0) hz h, e_mOp, hv6, hv4, s_subI, e12, s_gt, h12', rOut_ok]
    · cases ht
  | false =>
    rw [h1] at ht
    simp only [if_false, Bool.false_eq_true] at ht
    cases h2 : isIn FGS c with
    | true => rw [h2] at ht; simp at ht
    | false =>
      rw [h2] at ht
      simp only [if_false, Bool.false_eq_true] at ht
      cases h3 : isIn SGN c with
      | true => rw [h3] at ht; simp at ht
      | false =>
        simp only [Out.bind_ok, e_mSeq, e_mIfS, e_mCmpB, hv5, hv1, hv2, eBLK, eSGN, f_cmp, s_in1, hb, h1, h2, h3, if_true, if_false, e_mPass, Bool.false_eq_true, rOut_ok]
theorem rB_tok {kd : Str} {L : Nat} (hz : z.length ≤ 100000) (h : z.cps.toList.drop i = c :: r) (hb : isIn BLK c = false) (ht : tok c r = some (kd, L)) (hl : ts.length < 100000) : rB cal (rho z st.length i a b) (st ++ [lst ts]) = .ok (.nx (rho z st.length (i + L) (some (.dat (.str ⟨#[c]⟩))) (some (.dat (.int ((i + L : Nat) : Int)))))) (st ++ [lst (ts ++ [lexD kd ((c :: r).take L) i])]) := by
  have hp := tok_pos ht
  obtain ⟨hj, q1, q2⟩ := drop_cons h
  have hrl : r.length + 1 + i = z.length := by
    have := congrArg List.length h
    simp at this
    have e := len_cs (z := z)
    rw [← Array.length_toList] at this
    omega
  unfold rB
  rw [e_mSeq, rB1_ok hz h]
  have hv5 : ∀ {st1 : Sto} {b : Option R}, mVar 5 cal (rho z st.length i (some (.dat (.str ⟨#[c]⟩))) b) st1 = .ok (.dat (.str ⟨#[c]⟩)) st1 := rfl
  have hv1 : ∀ {st1 : Sto} {a b : Option R}, mVar 1 cal (rho z st.length i a b) st1 = .ok (.dat (.str LTS)) st1 := rfl
  have hv2 : ∀ {st1 : Sto} {a b : Option R}, mVar 2 cal (rho z st.length i a b) st1 = .ok (.dat (.str FGS)) st1 := rfl
  have hv4 : ∀ {st1 : Sto} {a b : Option R}, mVar 4 cal (rho z st.length i a b) st1 = .ok (.dat (.int (i : Int))) st1 := rfl
  have hv6 : ∀ {st1 : Sto} {a : Option R} {x : R}, mVar 6 cal (rho z st.length i a (some x)) st1 = .ok x st1 := rfl
  have hs6 : ∀ {st1 : Sto} {a : Option R} {k : Nat}, mSet 4 (mVar 6) cal (rho z st.length i a (some (.dat (.int ((k : Nat) : Int))))) st1 = .ok (.nx (rho z st.length k a (some (.dat (.int ((k : Nat) : Int)))))) st1 := rfl
  unfold tok at ht
  cases h1 : isIn LTS c with
  | true =>
    rw [h1] at ht
    simp only [if_true] at ht
    split at ht
    · cases ht
    · rename_i h12
      cases ht
      have h12' : decide ((12 : Int) < ((i + (spanL (isIn (LTS ++ FGS)) r + 1) : Nat) : Int) - (i : Int)) = false := by
        rw [decide_eq_false_iff_not]; omega
      have ha := rApp_ok (cal := cal) (st := st) (ts := ts) (z := z) (i := i) (a := some (.dat (.str ⟨#[c]⟩))) (kd := "word") (L := spanL (isIn (LTS ++ FGS)) r + 1) hz (by omega) hl
      rw [h] at ha
      simp only [Out.bind_ok, e_mSeq, e_mIfS, e_mCmpB, hv5, hv1, hv2, eBLK, eSGN, f_cmp, s_in1, hb, if_true, if_false, e_mPass, h1, Bool.false_eq_true, rW1_ok (L := 0) hz h, e_mOp, hv6, hv4, s_subI, e12, s_gt, h12', ha, hs6]
  | false =>
    rw [h1] at ht
    simp only [if_false, Bool.false_eq_true] at ht
    cases h2 : isIn FGS c with
    | true =>
      rw [h2] at ht
      simp only [if_true] at ht
      cases ht
      have ha := rApp_ok (cal := cal) (st := st) (ts := ts) (z := z) (i := i) (a := some (.dat (.str ⟨#[c]⟩))) (kd := "numeral") (L := if c = 48 then 1 else spanL (isIn FGS) r + 1) hz (by omega) hl
      rw [h] at ha
      simp only [Out.bind_ok, e_mSeq, e_mIfS, e_mCmpB, hv5, hv1, hv2, eBLK, eSGN, f_cmp, s_in1, hb, h1, h2, if_true, if_false, e_mPass, Bool.false_eq_true, rW2_ok hz h, ha, hs6]
    | false =>
      rw [h2] at ht
      simp only [if_false, Bool.false_eq_true] at ht
      cases h3 : isIn SGN c with
      | true =>
        rw [h3] at ht
        simp only [if_true] at ht
        cases ht
        have ha := rApp_ok (cal := cal) (st := st) (ts := ts) (z := z) (i := i) (a := some (.dat (.str ⟨#[c]⟩))) (kd := "sign") (L := 1) hz (by omega) hl
        rw [h] at ha
        simp only [Out.bind_ok, e_mSeq, e_mIfS, e_mCmpB, hv5, hv1, hv2, eBLK, eSGN, f_cmp, s_in1, hb, h1, h2, h3, if_true, if_false, e_mPass, Bool.false_eq_true, ha, hs6]
      | false => rw [h3] at ht; simp at ht
theorem read_loop (hz : z.length ≤ 100000) : ∀ (fuel i : Nat) (ts : List D) (a b : Option R), z.length < fuel + i → i ≤ z.length → ts.length ≤ i →
    ((RD i (z.cps.toList.drop i)).2 = none → ∃ a' b', whileGo rC rB cal fuel (rho z st.length i a b) (st ++ [lst ts]) = .ok (.nx (rho z st.length z.length a' b')) (st ++ [lst (ts ++ (RD i (z.cps.toList.drop i)).1)])) ∧
    (∀ p, (RD i (z.cps.toList.drop i)).2 = some p → whileGo rC rB cal fuel (rho z st.length i a b) (st ++ [lst ts]) = .ok (.rt (.dat (.tuple [.list (ts ++ (RD i (z.cps.toList.drop i)).1), .int p]))) (st ++ [.dead])) := by
  intro fuel
  induction fuel with
  | zero => intro i ts a b h h'; omega
  | succ k ih =>
    intro i ts a b h h' ht
    have hC : rC cal (rho z st.length i a b) (st ++ [lst ts]) = .ok (decide ((i : Int) < (z.length : Int))) (st ++ [lst ts]) := by
      unfold rC
      simp only [rho, e_mCmpB, e_mVar, List.getElem?_cons_zero, List.getElem?_cons_succ, Out.bind_ok, e_mCall, e_mCons, e_mNil, len_txt hz, f_cmp, s_lt]
    rw [e_whileGo, hC]
    cases e : z.cps.toList.drop i with
    | nil =>
      have hl : z.length ≤ i := by
        have := congrArg List.length e
        have q := len_cs (z := z)
        simp only [List.length_drop, List.length_nil] at this
        omega
      have hi : i = z.length := by omega
      refine ⟨fun _ => ⟨a, b, ?_⟩, fun p q => by cases q⟩
      simp [hi, RD_nil]
    | cons c r =>
      obtain ⟨hj, q1, q2⟩ := drop_cons e
      rw [len_cs] at hj
      have hd : decide ((i : Int) < (z.length : Int)) = true := by simp; omega
      rw [hd]
      simp only [Out.bind_ok, if_true]
      cases hb : isIn BLK c with
      | true =>
        rw [rB_blank hz e hb]
        simp only [Out.bind_ok]
        have h2 := ih (i + 1) ts (some (.dat (.str ⟨#[c]⟩))) (some (.dat (.int ((i + 1 : Nat) : Int)))) (by omega) (by omega) (by omega)
        rw [q2] at h2
        rw [RD_blk hb]
        exact h2
      | false =>
        cases htk : tok c r with
        | none =>
          rw [rB_bad hz e hb htk, RD_bad hb htk]
          refine ⟨fun q => (by cases q), fun p q => ?_⟩
          cases q
          simp
        | some kL =>
          obtain ⟨kd, L⟩ := kL
          have hp := tok_pos htk
          have hrl : r.length + 1 + i = z.length := by
            have := congrArg List.length e
            have q := len_cs (z := z)
            simp only [List.length_drop, List.length_cons] at this
            omega
          rw [rB_tok hz e hb htk (by omega)]
          simp only [Out.bind_ok]
          have h2 := ih (i + L) (ts ++ [lexD kd ((c :: r).take L) i]) (some (.dat (.str ⟨#[c]⟩))) (some (.dat (.int ((i + L : Nat) : Int)))) (by omega) (by omega) (by simp; omega)
          have hd2 : z.cps.toList.drop (i + L) = (c :: r).drop L := by rw [← e, List.drop_drop]
          rw [hd2] at h2
          rw [RD_tok hb htk]
          simp only [List.append_assoc, List.singleton_append] at h2
          exact h2
end
end Mp.K07
end
section
set_option Elab.async false
set_option linter.all false
set_option maxRecDepth 100000
set_option autoImplicit false
set_option maxHeartbeats 4000000
namespace Mp.K07
open PySem PySem.Spec PyProof.Rows L2 Mp

def plc (p : Option Nat) : D := match p with
  | some p => .int (p : Int)
  | none => .none
section
variable {z : Str} {st : Sto} {ts : List D} {n i c : Nat} {r : List Nat}
theorem cut_one {o : MO} : (st ++ [o]).take st.length = st := by simp
theorem read_ok {k : Nat} (hz : z.length ≤ 100000) : callD T (k + 1) 4 [.dat (.str z)] st = .ok (.dat (.tuple [.list (RD 0 z.cps.toList).1, plc (RD 0 z.cps.toList).2])) st := by
  have e0 : callD T (k + 1) 4 [.dat (.str z)] st = finish st.length (b__law_read (callD T k) [some (.dat (.str z)), none, none, none, none, none, none] st) := rfl
  have e1 : (mParN 4 (mCons (mStr "abcdefghijklmnopqrstuvwxyz") (mCons (mStr "0123456789") (mCons (mLst true mNil) (mCons (mInt 0) mNil)))) (gMore (gNm 1) (gMore (gNm 2) (gMore (gNm 3) (gMore (gNm 4) gNo))))) (callD T k) [some (.dat (.str z)), none, none, none, none, none, none] st = .ok (.nx (rho z st.length 0 none none)) (st ++ [lst []]) := rfl
  have h := read_loop (cal := callD T k) (st := st) hz 33554432 0 [] none none (by omega) (by omega) (Nat.le_refl _)
  rw [List.drop_zero] at h
  simp only [List.nil_append] at h
  rw [e0, read_body, e_mSeq, e1]
  simp only [Out.bind_ok, e_mSeq, e_mWhile]
  cases e : (RD 0 z.cps.toList).2 with
  | none =>
    obtain ⟨a, b, h1⟩ := h.1 e
    rw [h1]
    simp only [Out.bind_ok]
    rw [frz_last (by rfl)]
    show Out.ok (R.dat _) ((st ++ [MO.dead]).take st.length) = _
    rw [cut_one]
    rfl
  | some p =>
    rw [h.2 p e]
    show Out.ok (R.dat _) ((st ++ [MO.dead]).take st.length) = _
    rw [cut_one]
    rfl

/-! ### the program's own reading -/
theorem skip (p : Nat → Bool) : ∀ (r : List Nat) (c : Nat) (r' : List Nat), r.drop (spanL p r) = c :: r' → p c = false
  | [], c, r', h => by simp [spanL] at h
  | a :: r, c, r', h => by
    cases e : p a with
    | true =>
      simp [spanL, e] at h
      exact skip p r c r' h
    | false =>
      simp [spanL, e] at h
      rw [← h.1]; exact e
theorem RD_skip : ∀ (r : List Nat) (i : Nat), RD i r = RD (i + spanL (isIn BLK) r) (r.drop (spanL (isIn BLK) r))
  | [], i => rfl
  | a :: r, i => by
    cases e : isIn BLK a with
    | true =>
      rw [RD_blk e, RD_skip r (i + 1)]
      simp only [spanL, e, if_true, List.drop_succ_cons]
      rw [show i + 1 + spanL (isIn BLK) r = i + (spanL (isIn BLK) r + 1) by omega]
    | false => simp [spanL, e]
def lexAt (z : Str) (i : Nat) : D :=
  match z.cps.toList.drop (i + spanL (isIn BLK) (z.cps.toList.drop i)) with
  | [] => .tuple [.str "end", .str "", .int (z.length : Int)]
  | c :: r => match tok c r with
    | none => .tuple [.str "wrong", .str "", .int ((i + spanL (isIn BLK) (z.cps.toList.drop i) : Nat) : Int)]
    | some (kd, L) => lexD kd ((c :: r).take L) (i + spanL (isIn BLK) (z.cps.toList.drop i))
theorem sgn_ne (h : isIn SGN c = true) : isIn LTS c = false ∧ isIn FGS c = false := by
  have e : SGN.cps.toList = [123, 125, 59, 45] := by decide
  simp only [isIn, e, decide_eq_true_eq, List.mem_cons, List.not_mem_nil, or_false] at h
  rcases h with rfl | rfl | rfl | rfl <;> decide
theorem fgs_ne (h : isIn FGS c = true) : isIn LTS c = false := by
  have e : FGS.cps.toList = [48, 49, 50, 51, 52, 53, 54, 55, 56, 57] := by decide
  simp only [isIn, e, decide_eq_true_eq, List.mem_cons, List.not_mem_nil, or_false] at h
  rcases h with rfl | rfl | rfl | rfl | rfl | rfl | rfl | rfl | rfl | rfl <;> decide
theorem both (h : isIn LTS c = true) : isIn (LTS ++ FGS) c = true := by
  have e : (LTS ++ FGS).cps.toList = LTS.cps.toList ++ FGS.cps.toList := by decide
  simp only [isIn, e, decide_eq_true_eq, List.mem_append] at h ⊢
  exact .inl h
theorem is0 : decide ((⟨#[c]⟩ : Str) = "0") = decide (c = 48) := by
  by_cases q : c = 48
  · subst q; rfl
  · have : ¬ ((⟨#[c]⟩ : Str) = "0") := by
      intro e
      have e2 : (⟨#[c]⟩ : Str).cps.toList = ("0" : Str).cps.toList := by rw [e]
      have e3 : ("0" : Str).cps.toList = [48] := by decide
      rw [e3] at e2
      simp at e2
      exact q e2
    simp [q, this]
theorem s_le (i j : Int) : semLe (.dat (.int i)) (.dat (.int j)) st = some (decide (i ≤ j)) := by
  show leD (.int i) (.int j) = _
  unfold leD
  have e : (PyData.int i).depth ≤ 64 := by simp [PyData.depth]
  rw [if_pos (by simp only [e, decide_true, Bool.and_true]; rfl)]
  congr 1
  have h1 : PySem.W.dataLt (.int i) (.int j) = decide (i < j) := by
    unfold PySem.W.dataLt
    simp [PySem.W.keyToks, PyProof.Rows.lexLt, PyProof.Rows.itemLt]
  have h2 : PyData.eqv (.int i) (.int j) = decide (i = j) := by simp [PyData.eqv, Bool.beq_eq_decide_eq]
  rw [h1, h2, ← Bool.decide_or]
  congr 1
  exact propext ⟨fun h => by omega, fun h => by omega⟩
theorem lexeme_at_ok {k : Nat} (hz : z.length ≤ 100000) (hi : i ≤ z.length) : callD T (k + 2) 7 [.dat (.str z), .dat (.int (i : Int))] st = .ok (.dat (lexAt z i)) st := by
  have e0 : callD T (k + 2) 7 [.dat (.str z), .dat (.int (i : Int))] st = finish st.length (b_lexeme_at (callD T (k + 1)) [some (.dat (.str z)), some (.dat (.int (i : Int))), none] st) := rfl
  have hsp : i + spanL (isIn BLK) (z.cps.toList.drop i) ≤ z.length := by
    have h1 := spanL_le (isIn BLK) (z.cps.toList.drop i)
    have h2 := len_cs (z := z)
    simp only [List.length_drop] at h1
    omega
  have r1 := run_end_ok (k := k) (st := st) (z := z) (y := BLK) (i := i) hz hi
  generalize hj : i + spanL (isIn BLK) (z.cps.toList.drop i) = j at r1 hsp
  have hskip : ∀ c r, z.cps.toList.drop j = c :: r → isIn BLK c = false := by
    intro c r h
    rw [← hj, ← List.drop_drop] at h
    exact skip _ _ c r h
  have hla : lexAt z i = match z.cps.toList.drop j with
    | [] => .tuple [.str "end", .str "", .int (z.length : Int)]
    | c :: r => match tok c r with
      | none => .tuple [.str "wrong", .str "", .int (j : Int)]
      | some (kd, L) => lexD kd ((c :: r).take L) j := by
    unfold lexAt; rw [hj]
  rw [hla]
  suffices h : b_lexeme_at (callD T (k + 1)) [some (.dat (.str z)), some (.dat (.int (i : Int))), none] st = .ok (.rt (.dat (match z.cps.toList.drop j with
    | [] => .tuple [.str "end", .str "", .int (z.length : Int)]
    | c :: r => match tok c r with
      | none => .tuple [.str "wrong", .str "", .int (j : Int)]
      | some (kd, L) => lexD kd ((c :: r).take L) j))) st by
    rw [e0, h]
    simp [finish]
  have q1 : mSet 1 (mDef 8 (mCons (mVar 0) (mCons (mVar 1) (mCons (mStr " \n") mNil)))) (callD T (k + 1)) [some (.dat (.str z)), some (.dat (.int (i : Int))), none] st = .ok (.nx [some (.dat (.str z)), some (.dat (.int (j : Int))), none]) st := by
    have : ∀ {ρ : Rho}, mStr " \n" (callD T (k + 1)) ρ st = .ok (.dat (.str BLK)) st := rfl
    simp only [e_mAsg, e_mDef, e_mCons, e_mVar, List.getElem?_cons_zero, List.getElem?_cons_succ, Out.bind_ok, this, e_mNil, r1, e_gNm, List.set_cons_succ, List.set_cons_zero]
  unfold b_lexeme_at
  rw [e_mSeq, q1]
  simp only [Out.bind_ok]
  generalize hcal : callD T (k + 1) = cal
  have hrun : ∀ (y : Str), j ≤ z.length → cal 8 [.dat (.str z), .dat (.int (j : Int)), .dat (.str y)] st = .ok (.dat (.int ((j + spanL (isIn y) (z.cps.toList.drop j) : Nat) : Int))) st := fun y h => by
    rw [← hcal]; exact run_end_ok hz h
  have v0 : ∀ {a : Option R}, mVar 0 cal [some (.dat (.str z)), some (.dat (.int (j : Int))), a] st = .ok (.dat (.str z)) st := rfl
  have v1 : ∀ {a : Option R}, mVar 1 cal [some (.dat (.str z)), some (.dat (.int (j : Int))), a] st = .ok (.dat (.int (j : Int))) st := rfl
  have v2 : ∀ {a : R}, mVar 2 cal [some (.dat (.str z)), some (.dat (.int (j : Int))), some a] st = .ok a st := rfl
  have sE : ∀ {ρ : Rho} {s : Str}, mStr s cal ρ st = .ok (.dat (.str s)) st := rfl
  have t3 : ∀ {ρ : Rho} {a b c : D}, fTup [.dat a, .dat b, .dat c] cal ρ st = .ok (.dat (.tuple [a, b, c])) st := rfl
  cases e : z.cps.toList.drop j with
  | nil =>
    have hl : j = z.length := by
      have := congrArg List.length e
      have q := len_cs (z := z)
      simp only [List.length_drop, List.length_nil] at this
      omega
    have hd : decide ((j : Int) = (z.length : Int)) = true := by simp; omega
    simp only [e_mSeq, e_mIfS, e_mCmpB, v0, v1, Out.bind_ok, e_mCall, e_mCons, e_mNil, len_txt hz, f_cmp, s_eqI, hd, if_true, e_mRet, e_mTup, sE, t3]
    rw [hl]
  | cons c r =>
    obtain ⟨hjl, g1, g2⟩ := drop_cons e
    rw [len_cs] at hjl
    have hd : decide ((j : Int) = (z.length : Int)) = false := by simp; omega
    have ixc : semIx (.dat (.str z)) (.dat (.int (j : Int))) st = .ok (.dat (.str ⟨#[c]⟩)) st := ix_txt hz g1
    have hrl : r.length + 1 + j = z.length := by
      have := congrArg List.length e
      have q := len_cs (z := z)
      simp only [List.length_drop, List.length_cons] at this
      omega
    have iS : decide (c ∈ (Str.ofString "{};-").cps.toList) = isIn SGN c := rfl
    have iF : decide (c ∈ (Str.ofString "0123456789").cps.toList) = isIn FGS c := rfl
    have iL : decide (c ∈ (Str.ofString "abcdefghijklmnopqrstuvwxyz").cps.toList) = isIn LTS c := rfl
    have i0 : decide ((⟨#[c]⟩ : Str) = Str.ofString "0") = decide (c = 48) := is0
    have nin : semNotIn (.dat (.str ⟨#[c]⟩)) (.dat (.str (Str.ofString "abcdefghijklmnopqrstuvwxyz"))) st = some (!isIn LTS c) := by
      have := s_in1 (st := st) c (Str.ofString "abcdefghijklmnopqrstuvwxyz")
      unfold semNotIn
      rw [this]; rfl
    have cutc : ∀ L, j + L ≤ z.length → semSl false (.dat (.str z)) (some (j : Int)) (some ((j + L : Nat) : Int)) st = .ok (.dat (.str ⟨((c :: r).take L).toArray⟩)) st := fun L h => by
      rw [cut_txt hz h, e]
    have add1 : semAdd false (.dat (.str (Str.ofString "abcdefghijklmnopqrstuvwxyz"))) (.dat (.str (Str.ofString "0123456789"))) st = .ok (.dat (.str (LTS ++ FGS))) st := s_addS (by decide)
    have runF := hrun (Str.ofString "0123456789") hsp
    rw [e] at runF
    have runW := hrun (LTS ++ FGS) hsp
    rw [e] at runW
    unfold tok
    cases hS : isIn SGN c with
    | true =>
      obtain ⟨n1, n2⟩ := sgn_ne hS
      simp only [e_mSeq, e_mIfS, e_mCmpB, v0, v1, Out.bind_ok, e_mCall, e_mCons, e_mNil, len_txt hz, f_cmp, s_eqI, hd, if_false, Bool.false_eq_true, e_mPass, e_mIx, ixc, sE, s_in1, iS, hS, if_true, e_mRet, e_mTup, t3, n1, n2]
      rfl
    | false =>
      cases hF : isIn FGS c with
      | true =>
        have n1 := fgs_ne hF
        by_cases h0 : c = 48
        · have d0 : decide (c = 48) = true := by simp [h0]
          simp only [e_mSeq, e_mIfS, e_mCmpB, v0, v1, Out.bind_ok, e_mCall, e_mCons, e_mNil, len_txt hz, f_cmp, s_eqI, s_eqS, hd, if_false, Bool.false_eq_true, e_mPass, e_mIx, ixc, sE, s_in1, iS, hS, iF, hF, i0, d0, if_true, e_mRet, e_mTup, t3, n1]
          rw [if_pos h0]
          subst h0
          rfl
        · have d0 : decide (c = 48) = false := by simp [h0]
          have sp : spanL (isIn FGS) (c :: r) = spanL (isIn FGS) r + 1 := by simp [spanL, hF]
          have runF' : cal 8 [.dat (.str z), .dat (.int (j : Int)), .dat (.str (Str.ofString "0123456789"))] st = .ok (.dat (.int ((j + (spanL (isIn FGS) r + 1) : Nat) : Int))) st := by rw [runF, ← sp]; rfl
          have cc := cutc (spanL (isIn FGS) r + 1) (by have := spanL_le (isIn FGS) r; omega)
          simp only [e_mSeq, e_mIfS, e_mCmpB, v0, v1, Out.bind_ok, e_mCall, e_mCons, e_mNil, len_txt hz, f_cmp, s_eqI, s_eqS, hd, if_false, Bool.false_eq_true, e_mPass, e_mIx, ixc, sE, s_in1, iS, hS, iF, hF, i0, d0, if_true, e_mRet, e_mTup, t3, n1, e_mSl, e_mPart, fPart, e_mDef, runF', cc]
          rw [if_neg h0]
          rfl
      | false =>
        have d0 : decide (c = 48) = false := by
          have : c ≠ 48 := by
            intro q
            subst q
            revert hF
            decide
          simp [this]
        cases hL : isIn LTS c with
        | false =>
          simp only [e_mSeq, e_mIfS, e_mCmpB, v0, v1, Out.bind_ok, e_mCall, e_mCons, e_mNil, len_txt hz, f_cmp, s_eqI, s_eqS, hd, if_false, Bool.false_eq_true, e_mPass, e_mIx, ixc, sE, s_in1, iS, hS, iF, hF, i0, d0, if_true, e_mRet, e_mTup, t3, nin, hL, Bool.not_false]
        | true =>
          have sp : spanL (isIn (LTS ++ FGS)) (c :: r) = spanL (isIn (LTS ++ FGS)) r + 1 := by simp [spanL, both hL]
          rw [sp] at runW
          have cc := cutc (spanL (isIn (LTS ++ FGS)) r + 1) (by have := spanL_le (isIn (LTS ++ FGS)) r; omega)
          have wl : (⟨((c :: r).take (spanL (isIn (LTS ++ FGS)) r + 1)).toArray⟩ : Str).length = spanL (isIn (LTS ++ FGS)) r + 1 := by
            have := spanL_le (isIn (LTS ++ FGS)) r
            simp [Str.length]; omega
          have s2 : ∀ {x : R}, [some (R.dat (.str z)), some (.dat (.int (j : Int))), none].set 2 (some x) = [some (.dat (.str z)), some (.dat (.int (j : Int))), some x] := fun {x} => rfl
          have le12 : semLe (.dat (.int ((spanL (isIn (LTS ++ FGS)) r + 1 : Nat) : Int))) (.dat (.int 12)) st = some (!decide ((12 : Int) < ((spanL (isIn (LTS ++ FGS)) r + 1 : Nat) : Int))) := by
            have := s_le (st := st) ((spanL (isIn (LTS ++ FGS)) r + 1 : Nat) : Int) 12
            rw [this]
            congr 1
            rw [← decide_not]
            simp only [Int.not_lt]
          have lw := len_txt (z := (⟨((c :: r).take (spanL (isIn (LTS ++ FGS)) r + 1)).toArray⟩ : Str)) (st := st) (by rw [wl]; have := spanL_le (isIn (LTS ++ FGS)) r; omega)
          rw [wl] at lw
          have i12 : ∀ {ρ : Rho}, mInt 12 cal ρ st = .ok (.dat (.int 12)) st := rfl
          simp only [e_mSeq, e_mIfS, e_mCmpB, v0, v1, v2, Out.bind_ok, e_mCall, e_mCons, e_mNil, len_txt hz, f_cmp, s_eqI, s_eqS, hd, if_false, Bool.false_eq_true, e_mPass, e_mIx, ixc, sE, s_in1, iS, hS, iF, hF, i0, d0, if_true, e_mRet, e_mTup, t3, nin, hL, Bool.not_true, e_mAsg, e_mSl, e_mPart, fPart, e_mDef, e_mOp, add1, runW, cc, e_gNm, s2, e_mIf, lw, i12, le12]
          by_cases h12 : 12 < spanL (isIn (LTS ++ FGS)) r + 1
          · have d12 : decide ((12 : Int) < ((spanL (isIn (LTS ++ FGS)) r + 1 : Nat) : Int)) = true := by
              rw [decide_eq_true_eq]; omega
            simp only [d12, Bool.not_true, Bool.false_eq_true, if_false, v1, Out.bind_ok, t3]
            rw [if_pos h12]
          · have d12 : decide ((12 : Int) < ((spanL (isIn (LTS ++ FGS)) r + 1 : Nat) : Int)) = false := by
              rw [decide_eq_false_iff_not]; omega
            simp only [d12, Bool.not_false, if_true, v1, Out.bind_ok, t3]
            rw [if_neg h12]
            rfl
end
end Mp.K07
end
section
set_option Elab.async false
set_option linter.all false
set_option maxRecDepth 100000
set_option autoImplicit false
set_option maxHeartbeats 4000000
namespace Mp.K07
open PySem PySem.Spec PyProof.Rows L2 Mp

section
variable {z : Str} {st : Sto} {ts : List D} {n i c : Nat} {r : List Nat} {cal : Cal}
theorem tok_kd {kd : Str} {L : Nat} (h : tok c r = some (kd, L)) : decide (kd = "end") = false ∧ decide (kd = "wrong") = false := by
  unfold tok at h
  split at h
  · split at h
    · cases h
    · cases h; decide
  · split at h
    · cases h; decide
    · split at h
      · cases h; decide
      · cases h
def xC : MB := (mCmpB semNe (mIx (mVar 2) (mInt 0)) (mStr "end"))
def xB : MS := (mSeq (mIfS (mCmpB semEq (mIx (mVar 2) (mInt 0)) (mStr "wrong")) (mRaise 1 (mIx (mVar 2) (mInt 2))) mPass) (mSeq (mExp (mMethL semAppend (mVar 1) (mCons (mVar 2) mNil))) (mSet 2 (mDef 7 (mCons (mVar 0) (mCons (mOp (semAdd false) (mIx (mVar 2) (mInt 2)) (mCall semLen (mCons (mIx (mVar 2) (mInt 1)) mNil))) mNil))))))
def xro (z : Str) (n : Nat) (d : D) : Rho := [some (.dat (.str z)), some (.loc n), some (.dat d)]
theorem xC_ok {kd : Str} {a b : D} : xC cal (xro z n (.tuple [.str kd, a, b])) st = .ok (!decide (kd = "end")) st := by
  have e0 : semIx (.dat (.tuple [.str kd, a, b])) (.dat (.int 0)) st = .ok (.dat (.str kd)) st := rfl
  have sE : ∀ {ρ : Rho} {s : Str}, mStr s cal ρ st = .ok (.dat (.str s)) st := rfl
  have i0 : ∀ {ρ : Rho}, mInt 0 cal ρ st = .ok (.dat (.int 0)) st := rfl
  have v2 : mVar 2 cal (xro z n (.tuple [.str kd, a, b])) st = .ok (.dat (.tuple [.str kd, a, b])) st := rfl
  unfold xC
  simp only [e_mCmpB, e_mIx, v2, i0, Out.bind_ok, e0, sE, f_cmp, s_neS]
theorem xB_bad {a b : D} : xB cal (xro z n (.tuple [.str "wrong", a, b])) st = .exc 1 [b] st := rfl
theorem xB_tok {kd : Str} {L : Nat} {w : Str} (hk : decide (kd = "wrong") = false) (hw : w.length = L) (hL : L ≤ 100000) (ht : ts.length < 100000) (d : D) (hc : ∀ st, cal 7 [.dat (.str z), .dat (.int ((i + L : Nat) : Int))] st = .ok (.dat d) st) :
    xB cal (xro z st.length (.tuple [.str kd, .str w, .int (i : Int)])) (st ++ [lst ts]) = .ok (.nx (xro z st.length d)) (st ++ [lst (ts ++ [.tuple [.str kd, .str w, .int (i : Int)]])]) := by
  have e0 : ∀ {st}, semIx (.dat (.tuple [.str kd, .str w, .int (i : Int)])) (.dat (.int 0)) st = .ok (.dat (.str kd)) st := rfl
  have e1 : ∀ {st}, semIx (.dat (.tuple [.str kd, .str w, .int (i : Int)])) (.dat (.int 1)) st = .ok (.dat (.str w)) st := rfl
  have e2 : ∀ {st}, semIx (.dat (.tuple [.str kd, .str w, .int (i : Int)])) (.dat (.int 2)) st = .ok (.dat (.int (i : Int))) st := rfl
  have sE : ∀ {ρ : Rho} {s : Str} {st}, mStr s cal ρ st = .ok (.dat (.str s)) st := rfl
  have i0 : ∀ {ρ : Rho} {st}, mInt 0 cal ρ st = .ok (.dat (.int 0)) st := rfl
  have i1 : ∀ {ρ : Rho} {st}, mInt 1 cal ρ st = .ok (.dat (.int 1)) st := rfl
  have i2 : ∀ {ρ : Rho} {st}, mInt 2 cal ρ st = .ok (.dat (.int 2)) st := rfl
  have v0 : ∀ {st1 d}, mVar 0 cal (xro z st.length d) st1 = .ok (.dat (.str z)) st1 := rfl
  have v1 : ∀ {st1 d}, mVar 1 cal (xro z st.length d) st1 = .ok (.loc st.length) st1 := rfl
  have v2 : ∀ {st1 d}, mVar 2 cal (xro z st.length d) st1 = .ok (.dat d) st1 := rfl
  have lw : ∀ {st1}, semLen [.dat (.str w)] st1 = .ok (.dat (.int (L : Int))) st1 := fun {st1} => by rw [len_txt (by omega), hw]
  have hc' : ∀ st, cal 7 [.dat (.str z), .dat (.int ((i : Int) + (L : Int)))] st = .ok (.dat d) st := hc
  have g2 : ∀ {d d' : D}, (xro z st.length d).set 2 (some (.dat d')) = xro z st.length d' := rfl
  unfold xB
  simp only [e_mSeq, e_mIfS, e_mCmpB, e_mIx, v0, v1, v2, i0, i1, i2, Out.bind_ok, e0, e1, e2, sE, f_cmp, s_eqS, hk, if_false, Bool.false_eq_true, e_mPass, e_mExp, e_mMethL, isl_l, e_mCons, e_mNil, app_last ht, e_mAsg, e_mDef, e_mOp, e_mCall, lw, s_addI, hc', e_gNm, g2]
theorem lex_loop (hz : z.length ≤ 100000) (hcal : ∀ i st, i ≤ z.length → cal 7 [.dat (.str z), .dat (.int ((i : Nat) : Int))] st = .ok (.dat (lexAt z i)) st) : ∀ (fuel i : Nat) (ts : List D), z.length < fuel + i → i ≤ z.length → ts.length ≤ i →
    ((RD i (z.cps.toList.drop i)).2 = none → ∃ x, whileGo xC xB cal fuel (xro z st.length (lexAt z i)) (st ++ [lst ts]) = .ok (.nx (xro z st.length x)) (st ++ [lst (ts ++ (RD i (z.cps.toList.drop i)).1)])) ∧
    (∀ p, (RD i (z.cps.toList.drop i)).2 = some p → ∃ o, whileGo xC xB cal fuel (xro z st.length (lexAt z i)) (st ++ [lst ts]) = .exc 1 [.int p] (st ++ [o])) := by
  intro fuel
  induction fuel with
  | zero => intro i ts h h'; omega
  | succ k ih =>
    intro i ts h h' ht
    have hsp : i + spanL (isIn BLK) (z.cps.toList.drop i) ≤ z.length := by
      have h1 := spanL_le (isIn BLK) (z.cps.toList.drop i)
      have h2 := len_cs (z := z)
      simp only [List.length_drop] at h1
      omega
    have hrd : RD i (z.cps.toList.drop i) = RD (i + spanL (isIn BLK) (z.cps.toList.drop i)) (z.cps.toList.drop (i + spanL (isIn BLK) (z.cps.toList.drop i))) := by
      rw [← List.drop_drop]; exact RD_skip _ _
    rw [hrd]
    have hj0 : i ≤ i + spanL (isIn BLK) (z.cps.toList.drop i) := by omega
    unfold lexAt
    have hskip : ∀ c r, z.cps.toList.drop (i + spanL (isIn BLK) (z.cps.toList.drop i)) = c :: r → isIn BLK c = false := by
      intro c r h
      rw [← List.drop_drop] at h
      exact skip _ _ c r h
    generalize hj : i + spanL (isIn BLK) (z.cps.toList.drop i) = j at *
    rw [e_whileGo]
    cases e : z.cps.toList.drop j with
    | nil =>
      simp only []
      rw [xC_ok]
      refine ⟨fun _ => ⟨.tuple [.str "end", .str "", .int (z.length : Int)], ?_⟩, fun p q => by cases q⟩
      simp only [Out.bind_ok, RD_nil, List.append_nil]
      rfl
    | cons c r =>
      have hb := hskip c r e
      have hrl : r.length + 1 + j = z.length := by
        have := congrArg List.length e
        have q := len_cs (z := z)
        simp only [List.length_drop, List.length_cons] at this
        omega
      cases htk : tok c r with
      | none =>
        simp only [htk]
        rw [xC_ok, RD_bad hb htk]
        refine ⟨fun q => (by cases q), fun p q => ⟨lst ts, ?_⟩⟩
        cases q
        rfl
      | some kL =>
        obtain ⟨kd, L⟩ := kL
        have hp := tok_pos htk
        obtain ⟨k1, k2⟩ := tok_kd htk
        simp only [htk, lexD]
        rw [xC_ok, k1]
        simp only [Out.bind_ok, Bool.not_false, if_true]
        rw [xB_tok (L := L) (w := ⟨((c :: r).take L).toArray⟩) k2 (by simp [Str.length]; omega) (by omega) (by omega) (lexAt z (j + L)) (fun st => hcal _ _ (by omega))]
        simp only [Out.bind_ok]
        have h2 := ih (j + L) (ts ++ [lexD kd ((c :: r).take L) j]) (by omega) (by omega) (by simp; omega)
        have hd2 : z.cps.toList.drop (j + L) = (c :: r).drop L := by rw [← e, List.drop_drop]
        rw [hd2] at h2
        rw [RD_tok hb htk]
        simp only [List.append_assoc, List.singleton_append] at h2
        exact h2
theorem lexemes_body : b_lexemes = (mSeq (mPar (mCons (mLst true mNil) (mCons (mDef 7 (mCons (mVar 0) (mCons (mInt 0) mNil))) mNil)) (gMore (gNm 1) (gMore (gNm 2) gNo))) (mSeq (mWhile 33554432 xC xB) (mRet (mVar 1)))) := rfl
theorem lexemes_ok {k : Nat} (hz : z.length ≤ 100000) :
    ((RD 0 z.cps.toList).2 = none → callD T (k + 3) 6 [.dat (.str z)] st = .ok (.loc st.length) (st ++ [lst (RD 0 z.cps.toList).1])) ∧
    (∀ p, (RD 0 z.cps.toList).2 = some p → callD T (k + 3) 6 [.dat (.str z)] st = .exc 1 [.int p] st) := by
  have e0 : callD T (k + 3) 6 [.dat (.str z)] st = finish st.length (b_lexemes (callD T (k + 2)) [some (.dat (.str z)), none, none] st) := rfl
  have hcal : ∀ i st, i ≤ z.length → callD T (k + 2) 7 [.dat (.str z), .dat (.int ((i : Nat) : Int))] st = .ok (.dat (lexAt z i)) st := fun i st h => lexeme_at_ok hz h
  have h7 : callD T (k + 2) 7 [.dat (.str z), .dat (.int 0)] (st ++ [lst []]) = .ok (.dat (lexAt z 0)) (st ++ [lst []]) := hcal 0 _ (by omega)
  have h := lex_loop (st := st) hz hcal 33554432 0 [] (by omega) (by omega) (Nat.le_refl _)
  rw [List.drop_zero] at h
  simp only [List.nil_append] at h
  have e1 : (mPar (mCons (mLst true mNil) (mCons (mDef 7 (mCons (mVar 0) (mCons (mInt 0) mNil))) mNil)) (gMore (gNm 1) (gMore (gNm 2) gNo))) (callD T (k + 2)) [some (.dat (.str z)), none, none] st = .ok (.nx (xro z st.length (lexAt z 0))) (st ++ [lst []]) := by
    have i0 : ∀ {ρ : Rho} {st}, mInt 0 (callD T (k + 2)) ρ st = .ok (.dat (.int 0)) st := rfl
    have l0 : ∀ {ρ : Rho}, fLst true [] (callD T (k + 2)) ρ st = .ok (.loc st.length) (st ++ [lst []]) := rfl
    simp only [e_mPar, e_mCons, e_mLst, e_mNil, Out.bind_ok, l0, e_mDef, e_mVar, List.getElem?_cons_zero, i0, h7, e_gMore, e_gNm, e_gNo]
    rfl
  rw [e0, lexemes_body, e_mSeq, e1]
  simp only [Out.bind_ok, e_mSeq, e_mWhile]
  refine ⟨fun q => ?_, fun p q => ?_⟩
  · obtain ⟨x, h1⟩ := h.1 q
    rw [h1]
    rfl
  · obtain ⟨o, h1⟩ := h.2 p q
    rw [h1]
    show Out.exc 1 [.int p] ((st ++ [o]).take st.length) = _
    rw [cut_one]
theorem told_ok {k : Nat} (hz : z.length ≤ 100000) :
    ((RD 0 z.cps.toList).2 = none → callD T (k + 4) 5 [.dat (.str z)] st = .ok (.loc (st.length + 1)) (st ++ [lst (RD 0 z.cps.toList).1, .lst [.dat (.str "told"), .loc st.length]])) ∧
    (∀ p, (RD 0 z.cps.toList).2 = some p → callD T (k + 4) 5 [.dat (.str z)] st = .ok (.dat (.list [.str "place", .int p])) st) := by
  have e0 : callD T (k + 4) 5 [.dat (.str z)] st = finish st.length (b__law_told (callD T (k + 3)) [some (.dat (.str z)), none] st) := rfl
  have h := lexemes_ok (k := k) (st := st) hz
  have e1 : (mRet (mLst true (mCons (mStr "told") (mCons (mDef 6 (mCons (mVar 0) mNil)) mNil)))) (callD T (k + 3)) [some (.dat (.str z)), none] st = (callD T (k + 3) 6 [.dat (.str z)] st).bind fun x st1 => .ok (.rt (.loc st1.length)) (st1 ++ [.lst [.dat (.str "told"), x]]) := by
    have sE : ∀ {ρ : Rho} {s : Str} {st}, mStr s (callD T (k + 3)) ρ st = .ok (.dat (.str s)) st := rfl
    simp only [e_mRet, e_mLst, e_mCons, sE, Out.bind_ok, e_mDef, e_mVar, List.getElem?_cons_zero, e_mNil]
    cases callD T (k + 3) 6 [.dat (.str z)] st <;> rfl
  rw [e0]
  unfold b__law_told mTryPl
  simp only [e1]
  refine ⟨fun q => ?_, fun p q => ?_⟩
  · rw [h.1 q]
    simp [finish]
  · rw [h.2 p q]
    simp [finish, Out.bind, mkL, datsOf]
end
end Mp.K07
end
section
set_option Elab.async false
set_option linter.all false
set_option maxRecDepth 100000
set_option autoImplicit false
set_option maxHeartbeats 4000000
namespace Mp.K07
open PySem PySem.Spec PyProof.Rows L2 Mp

/-! ### what can be shown -/
structure Shows (W : Nat) (ds : List D) : Prop where
  lay : PyData.canLayAll0 ds = true
  dep : PyData.depthAll ds ≤ 2
  wei : PyData.weightAll ds ≤ W
  inn : PyData.intsShortAll 13 ds = true
  sho : PyData.showableAll ds = true
theorem repr_ok {st : Sto} {r : R} {ds : List D} (h : Shows 1000000 ds) (e : datOf st r = some (.list ds)) : semRepr [r] st = .ok (.dat (.str (PyData.shown (.list ds)))) st := by
  have hl : PyData.layable0 (.list ds) = true := by
    unfold PyData.layable0
    simp only [Bool.and_eq_true, decide_eq_true_eq]
    refine ⟨⟨by simp only [PyData.canLay0]; exact h.lay, ?_⟩, ?_⟩
    · have := h.dep; simp only [PyData.depth]; omega
    · have := h.wei
      have e : (2 : Nat) ^ 20 = 1048576 := by decide
      simp only [PyData.weight]; omega
  have hi : (PyData.list ds).intsShort 13 = true := by simp only [PyData.intsShort]; exact h.inn
  have hs := shown_le13 hl hi
  have hsz : sizeLine = 16777216 := by decide
  have ho : okD (.list ds) = true := by simp only [okD]; exact okDs_of_lay ds h.lay
  have hsh : PyData.showable (.list ds) = true := by simp only [PyData.showable]; exact h.sho
  have hdp : (PyData.list ds).depth ≤ 64 := by have := h.dep; simp only [PyData.depth]; omega
  unfold semRepr
  simp only [e]
  rw [if_pos]
  simp only [ho, hsh, Bool.and_eq_true, decide_eq_true_eq]
  exact ⟨⟨⟨⟨trivial, rfl⟩, trivial⟩, by omega⟩, hdp⟩
theorem Shows.nil {W : Nat} : Shows W [] := ⟨rfl, by simp [PyData.depthAll], by simp [PyData.weightAll], rfl, rfl⟩
theorem Shows.cons {W w : Nat} {d : D} {ds : List D} (h : Shows W ds) (h1 : d.canLay0 = true) (h2 : d.depth ≤ 2) (h3 : d.weight + 1 ≤ w) (h4 : d.intsShort 13 = true) (h5 : PyData.showable d = true) : Shows (w + W) (d :: ds) := by
  refine ⟨?_, ?_, ?_, ?_, ?_⟩
  · simp only [PyData.canLayAll0, h1, h.lay, Bool.and_self]
  · simp only [PyData.depthAll]; have := h.dep; omega
  · simp only [PyData.weightAll]; have := h.wei; omega
  · simp only [PyData.intsShortAll, h4, h.inn, Bool.and_self]
  · simp only [PyData.showableAll, h5, h.sho, Bool.and_self]
theorem Shows.mono {W W' : Nat} {ds : List D} (h : Shows W ds) (q : W ≤ W') : Shows W' ds := ⟨h.lay, h.dep, Nat.le_trans h.wei q, h.inn, h.sho⟩
theorem int_facts {i : Nat} (h : i ≤ 100000) : (PyData.int (i : Int)).weight ≤ 17 ∧ (PyData.int (i : Int)).intsShort 13 = true ∧ PyData.showable (.int (i : Int)) = true := by
  have hlog : i.log2 ≤ 16 := by
    by_cases q : i = 0
    · subst q; decide
    · have := (Nat.log2_lt q (k := 17)).mpr (by omega)
      omega
  refine ⟨?_, ?_, ?_⟩
  · simp only [PyData.weight]
    split
    · omega
    · simp only [Int.natAbs_natCast]; omega
  · simp only [PyData.intsShort, decide_eq_true_eq]
    exact PyData.shown_int_le (by simp only [Int.natAbs_natCast]; omega)
  · simp only [PyData.showable, decide_eq_true_eq, Int.natAbs_natCast]; omega
theorem strOk_of {w : List Nat} (h : ∀ c ∈ w, c < 128) : PyData.strOk ⟨w.toArray⟩ = true := by
  unfold PyData.strOk
  rw [Array.all_eq_true_iff_forall_mem]
  intro c hc
  have := h c (by simpa using hc)
  simp; omega
theorem kd_facts {c : Nat} {r : List Nat} {kd : Str} {L : Nat} (h : tok c r = some (kd, L)) : kd.cps.size ≤ 7 ∧ PyData.strOk kd = true := by
  unfold tok at h
  split at h
  · split at h
    · cases h
    · cases h; decide +kernel
  · split at h
    · cases h; decide +kernel
    · split at h
      · cases h; decide +kernel
      · cases h
theorem RD_shows : ∀ (n i : Nat) (r : List Nat), r.length ≤ n → i + r.length ≤ 100000 → (∀ c ∈ r, c < 128) →
    Shows (40 * r.length) (RD i r).1 ∧ ∀ p, (RD i r).2 = some p → p ≤ 100000
  | n, i, [], _, _, _ => ⟨.nil, fun p q => by cases q⟩
  | 0, i, c :: r, h, _, _ => by simp at h
  | n + 1, i, c :: r, h, hi, hc => by
    simp only [List.length_cons] at h hi
    cases hb : isIn BLK c with
    | true =>
      rw [RD_blk hb]
      have ih := RD_shows n (i + 1) r (by omega) (by omega) fun x hx => hc x (List.mem_cons_of_mem _ hx)
      exact ⟨ih.1.mono (by simp only [List.length_cons]; omega), ih.2⟩
    | false =>
      cases htk : tok c r with
      | none =>
        rw [RD_bad hb htk]
        exact ⟨.nil, fun p q => by cases q; omega⟩
      | some kL =>
        obtain ⟨kd, L⟩ := kL
        have hp := tok_pos htk
        obtain ⟨k1, k2⟩ := kd_facts htk
        have hdl : ((c :: r).drop L).length = r.length + 1 - L := by simp
        have ih := RD_shows n (i + L) ((c :: r).drop L) (by omega) (by omega) fun x hx => hc x (List.mem_of_mem_drop hx)
        rw [RD_tok hb htk]
        obtain ⟨w1, w2, w3⟩ := int_facts (i := i) (by omega)
        have hw : PyData.strOk ⟨((c :: r).take L).toArray⟩ = true := strOk_of fun x hx => hc x (List.mem_of_mem_take hx)
        refine ⟨(ih.1.cons (w := 40 * L) ?_ ?_ ?_ ?_ ?_).mono ?_, ih.2⟩
        · simp only [lexD, PyData.canLay0, PyData.canLayAll0, k2, hw, Bool.and_self]
        · simp only [lexD, PyData.depth, PyData.depthAll]; omega
        · simp only [lexD, PyData.weight, PyData.weightAll] at w1 ⊢
          have : ((c :: r).take L).toArray.size ≤ L := by simp; omega
          omega
        · simp only [lexD, PyData.intsShort, PyData.intsShortAll] at w2 ⊢
          simp only [w2, Bool.and_self]
        · simp only [lexD, PyData.showable, PyData.showableAll] at w3 ⊢
          simp only [w3, Bool.and_self]
        · rw [hdl]; simp only [List.length_cons]; omega
/-- what is told -/
theorem told_shows {ts : List D} {W : Nat} (h : Shows W ts) (hd : PyData.depthAll ts ≤ 1) : Shows (W + 6) [.str "told", .list ts] := by
  have h1 : Shows (W + 1) [.list ts] := by
    refine ⟨?_, ?_, ?_, ?_, ?_⟩
    · simp only [PyData.canLayAll0, PyData.canLay0, h.lay, Bool.and_self]
    · simp only [PyData.depthAll, PyData.depth]; omega
    · simp only [PyData.weightAll, PyData.weight]; have := h.wei; omega
    · simp only [PyData.intsShortAll, PyData.intsShort, h.inn, Bool.and_self]
    · simp only [PyData.showableAll, PyData.showable, h.sho, Bool.and_self]
  exact (h1.cons (w := 5) (d := .str "told") (by decide +kernel) (by simp [PyData.depth]) (by decide +kernel) rfl rfl).mono (by omega)
theorem place_shows {p : Nat} (h : p ≤ 100000) : Shows 100 [.str "place", .int (p : Int)] := by
  obtain ⟨w1, w2, w3⟩ := int_facts h
  have h1 : Shows 20 [.int (p : Int)] := ((Shows.nil (W := 0)).cons (w := 18) (d := .int (p : Int)) rfl (by simp [PyData.depth]) (by omega) w2 w3).mono (by omega)
  exact (h1.cons (w := 6) (d := .str "place") (by decide +kernel) (by simp [PyData.depth]) (by decide +kernel) rfl rfl).mono (by omega)
theorem RD_depth : ∀ (n i : Nat) (r : List Nat), r.length ≤ n → PyData.depthAll (RD i r).1 ≤ 1
  | n, i, [], _ => by rw [RD_nil]; simp [PyData.depthAll]
  | 0, i, c :: r, h => by simp at h
  | n + 1, i, c :: r, h => by
    simp only [List.length_cons] at h
    cases hb : isIn BLK c with
    | true =>
      rw [RD_blk hb]
      exact RD_depth n (i + 1) r (by omega)
    | false =>
      cases htk : tok c r with
      | none =>
        rw [RD_bad hb htk]
        simp [PyData.depthAll]
      | some kL =>
        obtain ⟨kd, L⟩ := kL
        have hp := tok_pos htk
        have hdl : ((c :: r).drop L).length = r.length + 1 - L := by simp
        have ih := RD_depth n (i + L) ((c :: r).drop L) (by omega)
        rw [RD_tok hb htk]
        simp only [lexD, PyData.depthAll, PyData.depth]
        omega
end Mp.K07
end
section
set_option Elab.async false
set_option linter.all false
set_option maxRecDepth 100000
set_option autoImplicit false
set_option maxHeartbeats 4000000
namespace Mp.K07
open PySem PySem.Spec PyProof.Rows L2 Mp

def gapD : List D := [.str "", .str "", .str " ", .str "\n"]
theorem gap_ok : gapD.all (okB 1) = true := by decide +kernel
def tB : MS := (mSet 3 (mOp (semAdd false) (mOp (semAdd false) (mVar 3) (mDef 3 (mCons (mVar 1) mNil))) (mDef 2 (mCons (mVar 1) (mCons (mLst false (mCons (mStr "") (mCons (mStr "") (mCons (mStr " ") (mCons (mStr "\n") mNil))))) mNil)))))
def lro (ns : List Int) (s : Nat) (a2 a3 a4 a5 a6 a7 a8 a9 : Option R) : Rho := [some (.scr ns), some (.loc s), a2, a3, a4, a5, a6, a7, a8, a9]
section
variable {ns : List Int} {s c : Nat} {a2 a3 a4 a5 a6 a7 a8 a9 : Option R} {st : Sto}
theorem fGap {cal : Cal} {ρ : Rho} : fLst false [.dat (.str ""), .dat (.str ""), .dat (.str " "), .dat (.str "\n")] cal ρ st = .ok (.dat (.list gapD)) st := rfl
theorem text_loop : ∀ (rs : List R) (n : Nat) (z : Str) (a4 : Option R) (st : Sto), okS n z → n + 31 * rs.length ≤ 5000 → Src s c st →
    ∃ z' a4' st', forL (gNm 4) tB (callD T 11) rs (lro ns s a2 (some (.dat (.str z))) a4 a5 a6 a7 a8 a9) st = .ok (.nx (lro ns s a2 (some (.dat (.str z'))) a4' a5 a6 a7 a8 a9)) st' ∧ okS (n + 31 * rs.length) z' ∧ Src s c st' ∧ Fr s c st st' := by
  intro rs
  induction rs with
  | nil => exact fun n z a4 st h _ hS => ⟨z, a4, st, rfl, h, hS, .refl⟩
  | cons r rs ih =>
    intro n z a4 st h hl hS
    simp only [List.length_cons] at hl
    obtain ⟨w, st1, e1, hw, S1, F1⟩ := piece_ok (k := 8) hS
    obtain ⟨d, st2, e2, hm, S2, F2⟩ := of_ok (k := 9) (ds := gapD) S1 (by simp [gapD]) (by decide)
    obtain ⟨g, rfl, hg⟩ := all_of gap_ok hm
    have h1 := h.app hw
    have h2 := h1.app hg
    obtain ⟨z', a4', st', e3, h3, S3, F3⟩ := ih (n + 30 + 1) (z ++ w ++ g) (some r) st2 h2 (by omega) S2
    refine ⟨z', a4', st', ?_, ?_, S3, F1.trans (F2.trans F3)⟩
    · have add1 : semAdd false (.dat (.str z)) (.dat (.str w)) st1 = .ok (.dat (.str (z ++ w))) st1 := s_addS (by have := h.1; have := hw.1; omega)
      have add2 : semAdd false (.dat (.str (z ++ w))) (.dat (.str g)) st2 = .ok (.dat (.str (z ++ w ++ g))) st2 := s_addS (by have := h1.1; have := hg.1; omega)
      have v1 : ∀ {st a3 a4}, mVar 1 (callD T 11) (lro ns s a2 a3 a4 a5 a6 a7 a8 a9) st = .ok (.loc s) st := rfl
      have v3 : ∀ {st x a4}, mVar 3 (callD T 11) (lro ns s a2 (some x) a4 a5 a6 a7 a8 a9) st = .ok x st := rfl
      have g4 : ∀ {st x a3 a4}, gNm 4 x (callD T 11) (lro ns s a2 a3 a4 a5 a6 a7 a8 a9) st = .ok (lro ns s a2 a3 (some x) a5 a6 a7 a8 a9) st := rfl
      have g3 : ∀ {st x a3 a4}, gNm 3 x (callD T 11) (lro ns s a2 a3 a4 a5 a6 a7 a8 a9) st = .ok (lro ns s a2 (some x) a4 a5 a6 a7 a8 a9) st := rfl
      have sE : ∀ {ρ : Rho} {s : Str} {st}, mStr s (callD T 11) ρ st = .ok (.dat (.str s)) st := rfl
      unfold forL
      rw [g4]
      simp only [Out.bind_ok, tB, e_mAsg, e_mOp, v3, e_mDef, e_mCons, v1, e_mNil, e1, add1, e_mLst, sE, fGap, e2, add2, g3]
      exact e3
    · have : n + 31 * (r :: rs).length = n + 30 + 1 + 31 * rs.length := by simp only [List.length_cons]; omega
      rw [this]; exact h3
theorem Src.app {l : Sto} (h : Src s c st) : Src s c (st ++ l) := by
  obtain ⟨xs, L, M, t, h1, h2, h3, h4⟩ := h
  have q1 := (List.getElem?_eq_some_iff.mp h1).1
  have q2 := (List.getElem?_eq_some_iff.mp h2).1
  exact ⟨xs, L, M, t, by rw [List.getElem?_append_left q1]; exact h1, by rw [List.getElem?_append_left q2]; exact h2, h3, h4⟩
/-! ### one lap -/
def lA : MS := (mFor (mBind (mCons (mDef 2 (mCons (mVar 1) (mCons (mLst false (mCons (mInt 1) (mCons (mInt 4) (mCons (mInt 12) (mCons (mInt 40) mNil))))) mNil))) mNil) fRng1) (gNm 4) tB)
def lT : MS := (mIfS (mCmpB semNe (mCall semRepr (mCons (mDef 5 (mCons (mVar 3) mNil)) mNil)) (mCall semRepr (mCons (mVar 7) mNil))) (mRet (mBool false)) mPass)
def lU : MS := (mIfS (mCmpB semEq (mIx (mVar 8) (mInt 0)) (mStr "told")) (mSeq (mExp (mMethL semAppend (mIx (mVar 8) (mInt 1)) (mCons mNon mNil))) lT) mPass)
def lN : MS := (mIfS (mCmpB semNe (mCall semRepr (mCons (mVar 8) mNil)) (mCall semRepr (mCons (mVar 7) mNil))) (mRet (mBool false)) mPass)
def lW : MS := (mSet 7 (mIf (mIsN (mVar 6)) (mLst false (mCons (mStr "told") (mCons (mVar 5) mNil))) (mLst false (mCons (mStr "place") (mCons (mVar 6) mNil)))))
def lR : MS := (mAsg (mDef 4 (mCons (mVar 3) mNil)) (gUn 2 (gMore (gNm 5) (gMore (gNm 6) gNo))))
def lB : MS := (mSeq (mSet 3 (mStr "")) (mSeq lA (mSeq lR (mSeq lW (mSeq (mSet 8 (mDef 5 (mCons (mVar 3) mNil))) (mSeq lN lU))))))
def fC : MB := (mOr (mCmpB semNe (mCall semLen (mCons (mDef 6 (mCons (mVar 9) mNil)) mNil)) (mInt 3001)) (mOr (mCmpB semNe (mCall semRepr (mCons (mDef 6 (mCons (mStr "") mNil)) mNil)) (mStr "[]")) (mCmpB semNe (mCall semRepr (mCons (mDef 6 (mCons (mStr " \n ") mNil)) mNil)) (mStr "[]"))))
def fW : M := (mLst false (mCons (mTup (mCons (mStr "numeral") (mCons (mStr "0") (mCons (mInt 0) mNil)))) (mCons (mTup (mCons (mStr "numeral") (mCons (mStr "0") (mCons (mInt 1) mNil)))) (mCons (mTup (mCons (mStr "numeral") (mCons (mStr "7") (mCons (mInt 2) mNil)))) (mCons (mTup (mCons (mStr "sign") (mCons (mStr "-") (mCons (mInt 4) mNil)))) (mCons (mTup (mCons (mStr "sign") (mCons (mStr "-") (mCons (mInt 5) mNil)))) (mCons (mTup (mCons (mStr "word") (mCons (mStr "a1") (mCons (mInt 7) mNil)))) mNil)))))))
def lF : MS := (mSeq (mSet 9 (mOp (semAdd false) (mOp (semMul false) (mStr "a ") (mInt 3000)) (mOp (semMul false) (mStr "9") (mInt 5000)))) (mSeq (mIfS fC (mRet (mBool false)) mPass) (mSeq (mSet 7 fW) (mRet (mTst (mCmpB semEq (mCall semRepr (mCons (mDef 6 (mCons (mStr "007 --\na1") mNil)) mNil)) (mCall semRepr (mCons (mVar 7) mNil))))))))
theorem law_body : b_law = (mSeq (mSet 1 (mDef 1 (mCons (mVar 0) mNil))) (mSeq (mFor (mBind (mCons (mInt 8) mNil) fRng1) (gNm 2) lB) lF)) := rfl

theorem times_ok {d : D} (h : d ∈ ([.int 1, .int 4, .int 12, .int 40] : List D)) (cal : Cal) (ρ : Rho) (st : Sto) : ∃ rs : List R, fRng1 [.dat d] cal ρ st = .ok (.items rs) st ∧ rs.length ≤ 40 := by
  simp only [List.mem_cons, List.not_mem_nil, or_false] at h
  rcases h with rfl | rfl | rfl | rfl
  · exact ⟨_, rfl, by decide⟩
  · exact ⟨_, rfl, by decide⟩
  · exact ⟨_, rfl, by decide⟩
  · exact ⟨_, rfl, by decide⟩
theorem lA_ok (hS : Src s c st) : ∃ z a4' st', lA (callD T 11) (lro ns s a2 (some (.dat (.str ""))) a4 a5 a6 a7 a8 a9) st = .ok (.nx (lro ns s a2 (some (.dat (.str z))) a4' a5 a6 a7 a8 a9)) st' ∧ okS 1240 z ∧ Src s c st' := by
  obtain ⟨d, st1, e1, hm, S1, F1⟩ := of_ok (k := 9) (ds := [.int 1, .int 4, .int 12, .int 40]) hS (by simp) (by decide)
  obtain ⟨rs, e2, hl⟩ := times_ok hm (callD T 11) (lro ns s a2 (some (.dat (.str ""))) a4 a5 a6 a7 a8 a9) st1
  have h0 : okS 0 "" := ⟨by decide, by decide⟩
  obtain ⟨z, a4', st', e3, h3, S3, F3⟩ := text_loop (ns := ns) (a2 := a2) (a5 := a5) (a6 := a6) (a7 := a7) (a8 := a8) (a9 := a9) rs 0 "" a4 st1 h0 (by omega) S1
  refine ⟨z, a4', st', ?_, h3.mono (by omega), S3⟩
  unfold lA
  refine (for_items (st1 := st1) (rs := rs) ?_).trans e3
  have v1 : ∀ {st a3 a4}, mVar 1 (callD T 11) (lro ns s a2 a3 a4 a5 a6 a7 a8 a9) st = .ok (.loc s) st := rfl
  have iE : ∀ {ρ : Rho} {i : Int} {st}, mInt i (callD T 11) ρ st = .ok (.dat (.int i)) st := rfl
  have l4 : ∀ {ρ : Rho} {st}, fLst false [.dat (.int 1), .dat (.int 4), .dat (.int 12), .dat (.int 40)] (callD T 11) ρ st = .ok (.dat (.list [.int 1, .int 4, .int 12, .int 40])) st := rfl
  simp only [e_mBind, e_mCons, e_mDef, v1, Out.bind_ok, e_mLst, iE, e_mNil, l4, e1, e2]
end
end Mp.K07
end
section
set_option Elab.async false
set_option linter.all false
set_option maxRecDepth 100000
set_option autoImplicit false
set_option maxHeartbeats 4000000
namespace Mp.K07
open PySem PySem.Spec PyProof.Rows L2 Mp

theorem mapM_dat (k : Nat) (st : Sto) (ds : List D) : (ds.map R.dat).mapM (datF k st) = some ds := by
  induction ds with
  | nil => rfl
  | cons d ds ih => simp [List.mapM_cons, ih]
theorem dat_lst {st : Sto} {n : Nat} {ds : List D} (h : st[n]? = some (lst ds)) : datOf st (.loc n) = some (.list ds) := by
  show (match st[n]? with
    | some (.lst rs) => (rs.mapM (datF 1 st)).map PyData.list
    | some (.lckL rs) => (rs.mapM (datF 1 st)).map PyData.list
    | _ => none) = _
  rw [h]
  simp only [lst, mapM_dat, Option.map_some]
theorem datF1_lst {st : Sto} {n : Nat} {ds : List D} (h : st[n]? = some (lst ds)) : datF 1 st (.loc n) = some (.list ds) := by
  show (match st[n]? with
    | some (.lst rs) => (rs.mapM (datF 0 st)).map PyData.list
    | some (.lckL rs) => (rs.mapM (datF 0 st)).map PyData.list
    | _ => none) = _
  rw [h]
  simp only [lst, mapM_dat, Option.map_some]
theorem dat_told {st : Sto} {n m : Nat} {ds : List D} (h : st[n]? = some (lst ds)) (h2 : st[m]? = some (.lst [.dat (.str "told"), .loc n])) : datOf st (.loc m) = some (.list [.str "told", .list ds]) := by
  show (match st[m]? with
    | some (.lst rs) => (rs.mapM (datF 1 st)).map PyData.list
    | some (.lckL rs) => (rs.mapM (datF 1 st)).map PyData.list
    | _ => none) = _
  rw [h2]
  simp only [List.mapM_cons, datF_dat, datF1_lst h]
  rfl
section
variable {ns : List Int} {s c : Nat} {a2 a4 a5 a6 a7 a8 a9 : Option R} {st : Sto} {z : Str}
theorem lR_ok (hz : z.length ≤ 100000) : lR (callD T 11) (lro ns s a2 (some (.dat (.str z))) a4 a5 a6 a7 a8 a9) st = .ok (.nx (lro ns s a2 (some (.dat (.str z))) a4 (some (.dat (.list (RD 0 z.cps.toList).1))) (some (.dat (plc (RD 0 z.cps.toList).2))) a7 a8 a9)) st := by
  have e := read_ok (k := 10) (st := st) hz
  have v3 : mVar 3 (callD T 11) (lro ns s a2 (some (.dat (.str z))) a4 a5 a6 a7 a8 a9) st = .ok (.dat (.str z)) st := rfl
  unfold lR
  simp only [e_mAsg, e_mDef, e_mCons, v3, Out.bind_ok, e_mNil, e, e_gUn]
  rfl
theorem lap_rest (hz : okS 1240 z) (hS : Src s c st) : ∃ ρ' st', (mSeq lR (mSeq lW (mSeq (mSet 8 (mDef 5 (mCons (mVar 3) mNil))) (mSeq lN lU)))) (callD T 11) (lro ns s a2 (some (.dat (.str z))) a4 a5 a6 a7 a8 a9) st = .ok (.nx ρ') st' ∧ Src s c st' ∧ ∃ a2 a3 a4 a5 a6 a7 a8 a9, ρ' = lro ns s a2 a3 a4 a5 a6 a7 a8 a9 := by
  have hz1 : z.length ≤ 100000 := by have := hz.1; omega
  have hcl : z.cps.toList.length ≤ 1240 := by rw [len_cs]; exact hz.1
  obtain ⟨hsh, hp⟩ := RD_shows z.cps.toList.length 0 z.cps.toList (Nat.le_refl _) (by omega) hz.2
  have hdp := RD_depth z.cps.toList.length 0 z.cps.toList (Nat.le_refl _)
  have v3 : ∀ {a5 a6 a7 a8 st}, mVar 3 (callD T 11) (lro ns s a2 (some (.dat (.str z))) a4 a5 a6 a7 a8 a9) st = .ok (.dat (.str z)) st := rfl
  have v5 : ∀ {x a6 a7 a8 st}, mVar 5 (callD T 11) (lro ns s a2 (some (.dat (.str z))) a4 (some x) a6 a7 a8 a9) st = .ok x st := rfl
  have v6 : ∀ {x a5 a7 a8 st}, mVar 6 (callD T 11) (lro ns s a2 (some (.dat (.str z))) a4 a5 (some x) a7 a8 a9) st = .ok x st := rfl
  have v7 : ∀ {x a5 a6 a8 st}, mVar 7 (callD T 11) (lro ns s a2 (some (.dat (.str z))) a4 a5 a6 (some x) a8 a9) st = .ok x st := rfl
  have v8 : ∀ {x a5 a6 a7 st}, mVar 8 (callD T 11) (lro ns s a2 (some (.dat (.str z))) a4 a5 a6 a7 (some x) a9) st = .ok x st := rfl
  have g7 : ∀ {st x a5 a6 a7 a8}, gNm 7 x (callD T 11) (lro ns s a2 (some (.dat (.str z))) a4 a5 a6 a7 a8 a9) st = .ok (lro ns s a2 (some (.dat (.str z))) a4 a5 a6 (some x) a8 a9) st := rfl
  have g8 : ∀ {st x a5 a6 a7 a8}, gNm 8 x (callD T 11) (lro ns s a2 (some (.dat (.str z))) a4 a5 a6 a7 a8 a9) st = .ok (lro ns s a2 (some (.dat (.str z))) a4 a5 a6 a7 (some x) a9) st := rfl
  have sE : ∀ {ρ : Rho} {s : Str} {st}, mStr s (callD T 11) ρ st = .ok (.dat (.str s)) st := rfl
  have iE : ∀ {ρ : Rho} {i : Int} {st}, mInt i (callD T 11) ρ st = .ok (.dat (.int i)) st := rfl
  have f2 : ∀ {ρ : Rho} {a b : D} {st}, fLst false [.dat a, .dat b] (callD T 11) ρ st = .ok (.dat (.list [a, b])) st := rfl
  have nE : ∀ {ρ : Rho} {st}, mNon (callD T 11) ρ st = .ok (.dat .none) st := rfl
  rw [e_mSeq, lR_ok hz1]
  simp only [Out.bind_ok]
  cases e : (RD 0 z.cps.toList).2 with
  | none =>
    have t1 := (told_ok (k := 7) (st := st) hz1).1 e
    have hT : Shows 1000000 [.str "told", .list (RD 0 z.cps.toList).1] := (told_shows hsh hdp).mono (by omega)
    have d1 := dat_told (st := st ++ [lst (RD 0 z.cps.toList).1, .lst [.dat (.str "told"), .loc st.length]]) (n := st.length) (m := st.length + 1) (ds := (RD 0 z.cps.toList).1) (by simp) (by simp)
    have r1 := repr_ok hT d1
    have r2 : ∀ {st}, semRepr [.dat (.list [.str "told", .list (RD 0 z.cps.toList).1])] st = .ok (.dat (.str (PyData.shown (.list [.str "told", .list (RD 0 z.cps.toList).1])))) st := fun {st} => repr_ok hT (by rfl)
    have x0 : semIx (.loc (st.length + 1)) (.dat (.int 0)) (st ++ [lst (RD 0 z.cps.toList).1, .lst [.dat (.str "told"), .loc st.length]]) = .ok (.dat (.str "told")) (st ++ [lst (RD 0 z.cps.toList).1, .lst [.dat (.str "told"), .loc st.length]]) := by
      simp [semIx, dGet, dLook, lstOf, atI]
      rfl
    have x1 : semIx (.loc (st.length + 1)) (.dat (.int 1)) (st ++ [lst (RD 0 z.cps.toList).1, .lst [.dat (.str "told"), .loc st.length]]) = .ok (.loc st.length) (st ++ [lst (RD 0 z.cps.toList).1, .lst [.dat (.str "told"), .loc st.length]]) := by
      simp [semIx, dGet, dLook, lstOf, atI]
      rfl
    have is1 : ∀ {ρ : Rho}, fIsL (.loc st.length) (callD T 11) ρ (st ++ [lst (RD 0 z.cps.toList).1, .lst [.dat (.str "told"), .loc st.length]]) = .ok (.loc st.length) (st ++ [lst (RD 0 z.cps.toList).1, .lst [.dat (.str "told"), .loc st.length]]) := by
      intro ρ
      simp [fIsL, lstOf, lst]
    have hsz : sizeLine = 16777216 := by decide
    have hlen : (RD 0 z.cps.toList).1.length ≤ 100000 := by
      have := hsh.wei
      have hw : ∀ ds : List D, ds.length ≤ PyData.weightAll ds := by
        intro ds
        induction ds with
        | nil => simp
        | cons d ds ih => simp only [List.length_cons, PyData.weightAll]; omega
      have := hw (RD 0 z.cps.toList).1
      omega
    have ap : semAppend (.loc st.length) [.dat .none] (st ++ [lst (RD 0 z.cps.toList).1, .lst [.dat (.str "told"), .loc st.length]]) = .ok (.dat .none) (st ++ [lst ((RD 0 z.cps.toList).1 ++ [.none]), .lst [.dat (.str "told"), .loc st.length]]) := by
      simp [semAppend, lst, List.set_append, hsz, show (RD 0 z.cps.toList).1.length < 16777216 by omega]
    generalize hst2 : st ++ [lst ((RD 0 z.cps.toList).1 ++ [.none]), .lst [.dat (.str "told"), .loc st.length]] = st2 at ap
    have t2 := (told_ok (k := 7) (st := st2) hz1).1 e
    have d2 := dat_told (st := st2 ++ [lst (RD 0 z.cps.toList).1, .lst [.dat (.str "told"), .loc st2.length]]) (n := st2.length) (m := st2.length + 1) (ds := (RD 0 z.cps.toList).1) (by simp) (by simp)
    have r3 := repr_ok hT d2
    refine ⟨lro ns s a2 (some (.dat (.str z))) a4 (some (.dat (.list (RD 0 z.cps.toList).1))) (some (.dat .none)) (some (.dat (.list [.str "told", .list (RD 0 z.cps.toList).1]))) (some (.loc (st.length + 1))) a9, st2 ++ [lst (RD 0 z.cps.toList).1, .lst [.dat (.str "told"), .loc st2.length]], ?_, ?_, ⟨_, _, _, _, _, _, _, _, rfl⟩⟩
    · simp only [plc, lW, lN, lU, lT, e_mSeq, e_mAsg, e_mIf, e_mIsN, v6, Out.bind_ok, isNon, if_true, e_mLst, e_mCons, sE, v5, e_mNil, f2, g7, e_mDef, v3, t1, g8, e_mIfS, e_mCmpB, e_mCall, v8, v7, r1, r2, f_cmp, s_neS, decide_true, Bool.not_true, Bool.false_eq_true, if_false, e_mPass, e_mIx, iE, x0, x1, s_eqS, e_mExp, e_mMethL, is1, nE, ap, t2, r3]
    · rw [← hst2]
      exact Src.app (Src.app hS)
  | some p =>
    have t1 := (told_ok (k := 7) (st := st) hz1).2 p e
    have hT : Shows 1000000 [.str "place", .int (p : Int)] := (place_shows (hp p e)).mono (by omega)
    have r2 : ∀ {st}, semRepr [.dat (.list [.str "place", .int (p : Int)])] st = .ok (.dat (.str (PyData.shown (.list [.str "place", .int (p : Int)])))) st := fun {st} => repr_ok hT (by rfl)
    have x0 : semIx (.dat (.list [.str "place", .int (p : Int)])) (.dat (.int 0)) st = .ok (.dat (.str "place")) st := rfl
    have ne : decide (("place" : Str) = "told") = false := by decide +kernel
    refine ⟨lro ns s a2 (some (.dat (.str z))) a4 (some (.dat (.list (RD 0 z.cps.toList).1))) (some (.dat (.int (p : Int)))) (some (.dat (.list [.str "place", .int (p : Int)]))) (some (.dat (.list [.str "place", .int (p : Int)]))) a9, st, ?_, hS, ⟨_, _, _, _, _, _, _, _, rfl⟩⟩
    simp only [plc, lW, lN, lU, lT, e_mSeq, e_mAsg, e_mIf, e_mIsN, v6, Out.bind_ok, isNon, if_true, e_mLst, e_mCons, sE, v5, e_mNil, f2, g7, e_mDef, v3, t1, g8, e_mIfS, e_mCmpB, e_mCall, v8, v7, r2, f_cmp, s_neS, decide_true, Bool.not_true, Bool.false_eq_true, if_false, e_mPass, e_mIx, iE, x0, s_eqS, ne]
end
section
variable {ns : List Int} {s c : Nat} {a2 a3 a4 a5 a6 a7 a8 a9 : Option R} {st : Sto}
theorem lB_ok (hS : Src s c st) : ∃ ρ' st', lB (callD T 11) (lro ns s a2 a3 a4 a5 a6 a7 a8 a9) st = .ok (.nx ρ') st' ∧ Src s c st' ∧ ∃ a2 a3 a4 a5 a6 a7 a8 a9, ρ' = lro ns s a2 a3 a4 a5 a6 a7 a8 a9 := by
  obtain ⟨z, a4', st1, e1, hz, S1⟩ := lA_ok (ns := ns) (a2 := a2) (a4 := a4) (a5 := a5) (a6 := a6) (a7 := a7) (a8 := a8) (a9 := a9) hS
  obtain ⟨ρ', st2, e2, S2, h2⟩ := lap_rest (ns := ns) (a2 := a2) (a4 := a4') (a5 := a5) (a6 := a6) (a7 := a7) (a8 := a8) (a9 := a9) hz S1
  refine ⟨ρ', st2, ?_, S2, h2⟩
  have e0 : mSet 3 (mStr "") (callD T 11) (lro ns s a2 a3 a4 a5 a6 a7 a8 a9) st = .ok (.nx (lro ns s a2 (some (.dat (.str ""))) a4 a5 a6 a7 a8 a9)) st := rfl
  unfold lB
  rw [e_mSeq, e0]
  simp only [Out.bind_ok]
  rw [e_mSeq, e1]
  simp only [Out.bind_ok]
  exact e2
theorem laps : ∀ (rs : List R) (a2 a3 a4 a5 a6 a7 a8 a9 : Option R) (st : Sto), Src s c st → ∃ ρ' st', forL (gNm 2) lB (callD T 11) rs (lro ns s a2 a3 a4 a5 a6 a7 a8 a9) st = .ok (.nx ρ') st' ∧ ∃ a2 a3 a4 a5 a6 a7 a8 a9, ρ' = lro ns s a2 a3 a4 a5 a6 a7 a8 a9 := by
  intro rs
  induction rs with
  | nil => exact fun a2 a3 a4 a5 a6 a7 a8 a9 st h => ⟨_, _, rfl, ⟨_, _, _, _, _, _, _, _, rfl⟩⟩
  | cons r rs ih =>
    intro a2 a3 a4 a5 a6 a7 a8 a9 st h
    obtain ⟨ρ1, st1, e1, S1, b2, b3, b4, b5, b6, b7, b8, b9, rfl⟩ := lB_ok (ns := ns) (a2 := some r) (a3 := a3) (a4 := a4) (a5 := a5) (a6 := a6) (a7 := a7) (a8 := a8) (a9 := a9) h
    obtain ⟨ρ2, st2, e2, h2⟩ := ih b2 b3 b4 b5 b6 b7 b8 b9 st1 S1
    refine ⟨ρ2, st2, ?_, h2⟩
    have g2 : gNm 2 r (callD T 11) (lro ns s a2 a3 a4 a5 a6 a7 a8 a9) st = .ok (lro ns s (some r) a3 a4 a5 a6 a7 a8 a9) st := rfl
    unfold forL
    rw [g2]
    simp only [Out.bind_ok, e1]
    exact e2
end
end Mp.K07
end
section
set_option Elab.async false
set_option linter.all false
set_option maxRecDepth 100000
set_option autoImplicit false
set_option maxHeartbeats 4000000
namespace Mp.K07
open PySem PySem.Spec PyProof.Rows L2 Mp

theorem fold_app (l : List (Array Nat)) : ∀ acc : Array Nat, (l.foldl (fun x y => x ++ y) acc).toList = acc.toList ++ (l.map Array.toList).flatten := by
  induction l with
  | nil => intro acc; simp
  | cons a l ih => intro acc; simp [ih]
theorem mul_cps {x : Str} {n : Nat} (h : 2 ≤ n) (hx : x.length ≠ 0) : (PySem.Txt.mul x (n : Int)).cps.toList = (List.replicate n x.cps.toList).flatten := by
  have h1 : ¬ (n : Int) < 1 := by omega
  have h2 : ((n : Int) == 1 || x.length == 0) = false := by
    have : ¬ (n : Int) = 1 := by omega
    simp [this, hx]
  unfold PySem.Txt.mul
  rw [if_neg h1, h2]
  simp only [Bool.false_eq_true, if_false, fold_app, Int.toNat_natCast, List.map_replicate]
  rfl
theorem RD_a (i : Nat) (r : List Nat) : RD i (97 :: 32 :: r) = (lexD "word" [97] i :: (RD (i + 2) r).1, (RD (i + 2) r).2) := by
  have hb : isIn BLK 97 = false := by decide +kernel
  have hb2 : isIn BLK 32 = true := by decide +kernel
  have h1 : isIn LTS 97 = true := by decide +kernel
  have h2 : isIn (LTS ++ FGS) 32 = false := by decide +kernel
  have ht : tok 97 (32 :: r) = some (("word" : Str), 1) := by
    unfold tok
    simp only [h1, if_true, spanL, h2, Bool.false_eq_true, if_false]
    rfl
  rw [RD_tok hb ht]
  show (lexD "word" [97] i :: (RD (i + 1) (32 :: r)).1, (RD (i + 1) (32 :: r)).2) = _
  rw [RD_blk hb2]
theorem RD_rep (t : List Nat) : ∀ (n i : Nat), (RD i ((List.replicate n [97, 32]).flatten ++ t)).1.length = n + (RD (i + 2 * n) t).1.length ∧ (RD i ((List.replicate n [97, 32]).flatten ++ t)).2 = (RD (i + 2 * n) t).2
  | 0, i => by simp
  | n + 1, i => by
    have e : (List.replicate (n + 1) [97, 32]).flatten ++ t = 97 :: 32 :: ((List.replicate n [97, 32]).flatten ++ t) := by simp [List.replicate_succ]
    have ih := RD_rep t n (i + 2)
    rw [e, RD_a, show i + 2 * (n + 1) = i + 2 + 2 * n by omega]
    refine ⟨?_, ih.2⟩
    simp only [List.length_cons, ih.1]
    omega
theorem span_rep (p : Nat → Bool) (c : Nat) (h : p c = true) : ∀ n, spanL p (List.replicate n [c]).flatten = n
  | 0 => rfl
  | n + 1 => by
    have ih := span_rep p c h n
    simp only [List.replicate_succ, List.flatten_cons, List.singleton_append, spanL, h, if_true, ih]
theorem RD_nines (i n : Nat) : (RD i (List.replicate (n + 1) [57]).flatten).1.length = 1 ∧ (RD i (List.replicate (n + 1) [57]).flatten).2 = none := by
  have e : (List.replicate (n + 1) [57]).flatten = 57 :: (List.replicate n [57]).flatten := by simp [List.replicate_succ]
  have hb : isIn BLK 57 = false := by decide +kernel
  have h1 : isIn LTS 57 = false := by decide +kernel
  have h2 : isIn FGS 57 = true := by decide +kernel
  have ht : tok 57 (List.replicate n [57]).flatten = some (("numeral" : Str), n + 1) := by
    unfold tok
    simp only [h1, h2, if_true, Bool.false_eq_true, if_false, span_rep _ 57 h2, show ¬ (57 = 48) by omega]
  have hd : (57 :: (List.replicate n [57]).flatten).drop (n + 1) = [] := by
    apply List.drop_eq_nil_of_le
    simp
  rw [e, RD_tok hb ht, hd, RD_nil]
  exact ⟨rfl, rfl⟩
def big : Str := PySem.Txt.mul "a " (3000 : Nat) ++ PySem.Txt.mul "9" (5000 : Nat)
theorem big_cps : big.cps.toList = (List.replicate 3000 [97, 32]).flatten ++ (List.replicate 5000 [57]).flatten := by
  have e : big.cps.toList = (PySem.Txt.mul "a " (3000 : Nat)).cps.toList ++ (PySem.Txt.mul "9" (5000 : Nat)).cps.toList := by
    show ((PySem.Txt.mul "a " (3000 : Nat)).cps ++ (PySem.Txt.mul "9" (5000 : Nat)).cps).toList = _
    simp
  have e1 : ("a " : Str).cps.toList = [97, 32] := by decide +kernel
  have e2 : ("9" : Str).cps.toList = [57] := by decide +kernel
  rw [e, mul_cps (by omega) (by decide +kernel), mul_cps (by omega) (by decide +kernel), e1, e2]
theorem len_flat (n : Nat) (l : List Nat) : (List.replicate n l).flatten.length = n * l.length := by
  simp
theorem big_len : big.length ≤ 100000 := by
  have := len_cs (z := big)
  rw [big_cps, List.length_append, len_flat, len_flat] at this
  simp only [List.length_cons, List.length_nil] at this
  omega
theorem big_rd : (RD 0 big.cps.toList).1.length = 3001 ∧ (RD 0 big.cps.toList).2 = none := by
  rw [big_cps]
  have h1 := RD_rep (List.replicate 5000 [57]).flatten 3000 0
  have h2 := RD_nines (0 + 2 * 3000) 4999
  rw [h1.1, h1.2]
  exact ⟨by rw [h2.1], h2.2⟩
def W7 : List D := [.tuple [.str "numeral", .str "0", .int 0], .tuple [.str "numeral", .str "0", .int 1], .tuple [.str "numeral", .str "7", .int 2], .tuple [.str "sign", .str "-", .int 4], .tuple [.str "sign", .str "-", .int 5], .tuple [.str "word", .str "a1", .int 7]]
theorem seven_rd : RD 0 ("007 --\na1" : Str).cps.toList = (W7, none) := by kernel_rfl
theorem bl_rd : RD 0 (" \n " : Str).cps.toList = ([], none) := by kernel_rfl
theorem W7_shows : Shows 1000000 W7 := by
  have h := RD_shows 9 0 ("007 --\na1" : Str).cps.toList (by decide +kernel) (by decide +kernel) (by decide +kernel)
  rw [seven_rd] at h
  exact h.1.mono (by decide +kernel)
theorem m1_ok {st : Sto} : semMul false (.dat (.str "a ")) (.dat (.int 3000)) st = .ok (.dat (.str (PySem.Txt.mul "a " 3000))) st := s_mulS (by decide +kernel)
theorem m2_ok {st : Sto} : semMul false (.dat (.str "9")) (.dat (.int 5000)) st = .ok (.dat (.str (PySem.Txt.mul "9" 5000))) st := s_mulS (by decide +kernel)
theorem c3000 : ((3000 : Nat) : Int) = 3000 := rfl
theorem c5000 : ((5000 : Nat) : Int) = 5000 := rfl
theorem big_eq : big = PySem.Txt.mul "a " 3000 ++ PySem.Txt.mul "9" 5000 := by
  unfold big
  rw [c3000, c5000]
theorem big_ex : ∃ x y b : Str, (∀ st : Sto, semMul false (.dat (.str "a ")) (.dat (.int 3000)) st = .ok (.dat (.str x)) st) ∧ (∀ st : Sto, semMul false (.dat (.str "9")) (.dat (.int 5000)) st = .ok (.dat (.str y)) st) ∧
    (∀ st : Sto, semAdd false (.dat (.str x)) (.dat (.str y)) st = .ok (.dat (.str b)) st) ∧ ∃ ts : List D, ts.length = 3001 ∧ ∀ st : Sto, callD T 11 6 [.dat (.str b)] st = .ok (.loc st.length) (st ++ [lst ts]) := by
  refine ⟨_, _, big, fun st => m1_ok, fun st => m2_ok, fun st => ?_, (RD 0 big.cps.toList).1, big_rd.1, fun st => (lexemes_ok (k := 8) big_len).1 big_rd.2⟩
  have hbl := big_len
  rw [big_eq] at hbl ⊢
  exact s_addS (by rw [len_app] at hbl; exact hbl)
theorem c2_ok (st : Sto) : callD T 11 6 [.dat (.str "")] st = .ok (.loc st.length) (st ++ [lst []]) := (lexemes_ok (k := 8) (z := "") (by decide +kernel)).1 rfl
theorem c3_ok (st : Sto) : callD T 11 6 [.dat (.str " \n ")] st = .ok (.loc st.length) (st ++ [lst []]) := by
  have h := (lexemes_ok (k := 8) (z := " \n ") (st := st) (by decide +kernel)).1 (by rw [bl_rd])
  rw [bl_rd] at h
  exact h
theorem c4_ok (st : Sto) : callD T 11 6 [.dat (.str "007 --\na1")] st = .ok (.loc st.length) (st ++ [lst W7]) := by
  have h := (lexemes_ok (k := 8) (z := "007 --\na1") (st := st) (by decide +kernel)).1 (by rw [seven_rd])
  rw [seven_rd] at h
  exact h
theorem nil_shown : decide (PyData.shown (.list []) = Str.ofString "[]") = true := by decide +kernel
theorem fW_ok {cal : Cal} {ρ : Rho} {st : Sto} : fW cal ρ st = .ok (.dat (.list W7)) st := rfl
def e9 (p q : Str) (i j : Int) : MS := mSet 9 (mOp (semAdd false) (mOp (semMul false) (mStr p) (mInt i)) (mOp (semMul false) (mStr q) (mInt j)))
def lG : MS := (mSeq (mIfS fC (mRet (mBool false)) mPass) (mSeq (mSet 7 fW) (mRet (mTst (mCmpB semEq (mCall semRepr (mCons (mDef 6 (mCons (mStr "007 --\na1") mNil)) mNil)) (mCall semRepr (mCons (mVar 7) mNil)))))))
theorem lF_eq : lF = mSeq (e9 "a " "9" 3000 5000) lG := rfl
section
variable {ns : List Int} {s : Nat} {a2 a3 a4 a5 a6 a7 a8 a9 : Option R} {st : Sto}
theorem e9_ok {p q x y b : Str} {i j : Int} {cal : Cal} (m1 : ∀ st : Sto, semMul false (.dat (.str p)) (.dat (.int i)) st = .ok (.dat (.str x)) st) (m2 : ∀ st : Sto, semMul false (.dat (.str q)) (.dat (.int j)) st = .ok (.dat (.str y)) st)
    (ad : ∀ st : Sto, semAdd false (.dat (.str x)) (.dat (.str y)) st = .ok (.dat (.str b)) st) : e9 p q i j cal (lro ns s a2 a3 a4 a5 a6 a7 a8 a9) st = .ok (.nx (lro ns s a2 a3 a4 a5 a6 a7 a8 (some (.dat (.str b))))) st := by
  have sE : ∀ {ρ : Rho} {s : Str} {st}, mStr s cal ρ st = .ok (.dat (.str s)) st := rfl
  have iE : ∀ {ρ : Rho} {i : Int} {st}, mInt i cal ρ st = .ok (.dat (.int i)) st := rfl
  unfold e9
  simp only [e_mAsg, e_mOp, sE, iE, Out.bind_ok, m1, m2, ad]
  rfl
theorem lF_ok : ∃ st', lF (callD T 11) (lro ns s a2 a3 a4 a5 a6 a7 a8 a9) st = .ok (.rt (.dat (.bool true))) st' := by
  obtain ⟨x, y, b, m1, m2, ad, ts, hts, c1⟩ := big_ex
  have c2 := c2_ok
  have c3 := c3_ok
  have c4 := c4_ok
  have rp : ∀ (st : Sto) (ts : List D), Shows 1000000 ts → semRepr [.loc st.length] (st ++ [lst ts]) = .ok (.dat (.str (PyData.shown (.list ts)))) (st ++ [lst ts]) := fun st ts h => repr_ok h (dat_lst (by simp))
  have rn : ∀ (st : Sto), semRepr [.loc st.length] (st ++ [lst []]) = .ok (.dat (.str (PyData.shown (.list [])))) (st ++ [lst []]) := fun st => rp st [] .nil
  have r7 : ∀ (st : Sto), semRepr [.loc st.length] (st ++ [lst W7]) = .ok (.dat (.str (PyData.shown (.list W7)))) (st ++ [lst W7]) := fun st => rp st W7 W7_shows
  have rW : ∀ (st : Sto), semRepr [.dat (.list W7)] st = .ok (.dat (.str (PyData.shown (.list W7)))) st := fun st => repr_ok W7_shows (datF_dat _ _ _)
  have fw : ∀ {ρ : Rho} {st}, fW (callD T 11) ρ st = .ok (.dat (.list W7)) st := fW_ok
  generalize W7 = w7 at *
  generalize callD T 11 = cal at *
  have sE : ∀ {ρ : Rho} {s : Str} {st}, mStr s cal ρ st = .ok (.dat (.str s)) st := rfl
  have iE : ∀ {ρ : Rho} {i : Int} {st}, mInt i cal ρ st = .ok (.dat (.int i)) st := rfl
  have ln : ∀ (st : Sto) (ts : List D), semLen [.loc st.length] (st ++ [lst ts]) = .ok (.dat (.int ts.length)) (st ++ [lst ts]) := fun st ts => by
    simp [semLen, lenOf, lst]
  have v9 : ∀ {x st}, mVar 9 cal (lro ns s a2 a3 a4 a5 a6 a7 a8 (some x)) st = .ok x st := rfl
  have v7 : ∀ {x a9 st}, mVar 7 cal (lro ns s a2 a3 a4 a5 a6 (some x) a8 a9) st = .ok x st := rfl
  have g7 : ∀ {st x a9}, gNm 7 x cal (lro ns s a2 a3 a4 a5 a6 a7 a8 a9) st = .ok (lro ns s a2 a3 a4 a5 a6 (some x) a8 a9) st := rfl
  have ne := nil_shown
  have nl : decide ((ts.length : Int) = 3001) = true := by rw [hts]; rfl
  rw [lF_eq, e_mSeq, e9_ok m1 m2 ad]
  simp only [Out.bind_ok]
  unfold lG fC
  apply Exists.intro
  simp only [e_mSeq, e_mAsg, sE, iE, Out.bind_ok, e_mIfS, e_mOr, e_mCmpB, e_mCall, e_mCons, e_mDef, v9, e_mNil, c1, ln, f_cmp, s_neI, nl, Bool.not_true, Bool.false_eq_true, if_false, c2, rn, s_neS, ne, c3, e_mPass, fw, g7, e_mRet, e_mTst, c4, r7, v7, rW, s_eqS, decide_true]
  rfl
theorem seq2 {p q : MS} {cal : Cal} {ρ ρ1 : Rho} {st st1 : Sto} (h1 : p cal ρ st = .ok (.nx ρ1) st1) : mSeq p q cal ρ st = q cal ρ1 st1 := by
  rw [e_mSeq, h1]
  rfl
theorem law_call (k : Nat) (st : Sto) : callD T (k + 1) 0 [.scr ns] st = finish st.length (b_law (callD T k) [some (.scr ns), none, none, none, none, none, none, none, none, none] st) := rfl
theorem fin_true {n : Nat} {st : Sto} : finish n (.ok (.rt (.dat (.bool true))) st) = .ok (.dat (.bool true)) (st.take n) := rfl
theorem law_true (ns : List Int) (h : ns.length ≤ 63) (hb : ∀ z ∈ ns, Builtin.Int.intBits z ≤ 1048576) : ∃ st, callD T LV 0 [.scr ns] [] = .ok (.dat (.bool true)) st := by
  obtain ⟨st1, e1', S1', _⟩ := src_ok (k := 10) (ns := ns) (st := []) h
  have S1 : Src 1 0 st1 := S1'
  have e1 : callD T 11 1 [.scr ns] [] = .ok (.loc 1) st1 := e1'
  clear S1' e1'
  have e0 := law_call (ns := ns) 11 []
  rw [law_body] at e0
  obtain ⟨ρ2, st2, e2, b2, b3, b4, b5, b6, b7, b8, b9, rfl⟩ := laps (ns := ns) ((List.range 8).map fun k => R.dat (.int (0 + (k : Nat)))) none none none none none none none none st1 S1
  obtain ⟨st3, e3⟩ := lF_ok (ns := ns) (s := 1) (a2 := b2) (a3 := b3) (a4 := b4) (a5 := b5) (a6 := b6) (a7 := b7) (a8 := b8) (a9 := b9) (st := st2)
  have e0' : callD T LV 0 [.scr ns] [] = callD T (11 + 1) 0 [.scr ns] [] := congrArg (fun k => callD T k 0 [.scr ns] []) (show LV = 11 + 1 from rfl)
  rw [e0', e0]
  clear e0 e0'
  generalize callD T 11 = cal at *
  have q1 : mSet 1 (mDef 1 (mCons (mVar 0) mNil)) cal [some (.scr ns), none, none, none, none, none, none, none, none, none] [] = .ok (.nx (lro ns 1 none none none none none none none none)) st1 := by
    have v0 : ∀ {a : Option R} {st}, mVar 0 cal [some (.scr ns), a, none, none, none, none, none, none, none, none] st = .ok (.scr ns) st := rfl
    simp only [e_mAsg, e_mDef, e_mCons, v0, Out.bind_ok, e_mNil, e1]
    rfl
  have q0 : mBind (mCons (mInt 8) mNil) fRng1 cal (lro ns 1 none none none none none none none none) st1 = .ok (.items ((List.range 8).map fun k => R.dat (.int (0 + (k : Nat))))) st1 := rfl
  generalize lB = B at *
  generalize lF = G at *
  have q2 := (for_items (g := gNm 2) (p := B) q0).trans e2
  rw [seq2 q1, seq2 q2, e3, fin_true]
  exact ⟨_, rfl⟩
end
end Mp.K07
end
section
set_option Elab.async false
set_option linter.all false
set_option maxRecDepth 100000
set_option autoImplicit false
set_option maxHeartbeats 4000000
namespace Mp.K07
open PySem PySem.Spec PyProof.Rows L2 Mp
def top (i : Nat) : Stmt := PySem.Challenge.pw_heightfloors_k07_lexemes_and_wrong_place.main.body.getD i (.Pass ⟨0, 0, 0, 0⟩)
abbrev s_run_end : Stmt := top 9
abbrev s_lexeme_at : Stmt := top 10
abbrev s_lexemes : Stmt := top 11
abbrev s__law_source : Stmt := top 13
abbrev s__law_pick : Stmt := top 14
abbrev s__law_of : Stmt := top 15
abbrev s__law_read : Stmt := top 17
abbrev s__law_told : Stmt := top 18
abbrev s__law_piece : Stmt := top 19
abbrev s_law : Stmt := top 20
structure Tx (p : Program) (K : PySem.W.Frag) (mg : Str → Option Value) (fa : Nat → Addr) (fd : Nat → FuncData) (cl ci : Nat → Addr) : Prop where
  F_run_end : Fun K "run_end" "run_end" s_run_end (fa 8) (fd 8)
  g_run_end : mg "run_end" = some (.ref (fa 8))
  F_lexeme_at : Fun K "lexeme_at" "lexeme_at" s_lexeme_at (fa 7) (fd 7)
  g_lexeme_at : mg "lexeme_at" = some (.ref (fa 7))
  F_lexemes : Fun K "lexemes" "lexemes" s_lexemes (fa 6) (fd 6)
  g_lexemes : mg "lexemes" = some (.ref (fa 6))
  F__law_source : Fun K "_law_source" "_law_source" s__law_source (fa 1) (fd 1)
  g__law_source : mg "_law_source" = some (.ref (fa 1))
  F__law_pick : Fun K "_law_pick" "_law_pick" s__law_pick (fa 9) (fd 9)
  g__law_pick : mg "_law_pick" = some (.ref (fa 9))
  F__law_of : Fun K "_law_of" "_law_of" s__law_of (fa 2) (fd 2)
  g__law_of : mg "_law_of" = some (.ref (fa 2))
  F__law_read : Fun K "_law_read" "_law_read" s__law_read (fa 4) (fd 4)
  g__law_read : mg "_law_read" = some (.ref (fa 4))
  F__law_told : Fun K "_law_told" "_law_told" s__law_told (fa 5) (fd 5)
  g__law_told : mg "_law_told" = some (.ref (fa 5))
  F__law_piece : Fun K "_law_piece" "_law_piece" s__law_piece (fa 3) (fd 3)
  g__law_piece : mg "_law_piece" = some (.ref (fa 3))
  F_law : Fun K "law" "law" s_law (fa 0) (fd 0)
  g_law : mg "law" = some (.ref (fa 0))
  n_abs : mg "abs" = none
  n_int : mg "int" = none
  n_len : mg "len" = none
  n_list : mg "list" = none
  n_max : mg "max" = none
  n_range : mg "range" = none
  n_repr : mg "repr" = none
  c_BLANKS : ∃ t, mg "BLANKS" = some (.str " \n" t)
  c_FIGURES : ∃ t, mg "FIGURES" = some (.str "0123456789" t)
  c_LETTERS : ∃ t, mg "LETTERS" = some (.str "abcdefghijklmnopqrstuvwxyz" t)
  c_MOST_LETTERS : ∃ t, mg "MOST_LETTERS" = some (.int 12 t)
  c_SIGNS : ∃ t, mg "SIGNS" = some (.str "{};-" t)
  top : (p.main.scope.names.lookup ("super" : Str)).isSome = false
  x_BadText : Ex.Txt p K mg "BadText" "BadText.__init__" (cl 1) (ci 1)
variable {p : Program} {w : World} {K : PySem.W.Frag} {mg : Str → Option Value} {base : Heap} {P : Pm} {fa : Nat → Addr} {fd : Nat → FuncData} {cl ci : Nat → Addr} {k : Nat}
theorem b_run_end.b (X : Tx p K mg fa fd cl ci) : Binds K (fd 8) ["text", "place", "signs"] [] := X.F_run_end.binds fun _ _ _ _ _ _ us hl => match us, hl with | [_, _, _], _ => rfl
theorem sc_run_end : FnScope ["text", "place", "signs"] ["text", "place", "signs"] (defScope s_run_end) := ⟨rfl, rfl, rfl, by decide +kernel, rfl, by decide +kernel, by decide +kernel⟩
theorem b_lexeme_at.b (X : Tx p K mg fa fd cl ci) : Binds K (fd 7) ["text", "place"] [] := X.F_lexeme_at.binds fun _ _ _ _ _ _ us hl => match us, hl with | [_, _], _ => rfl
theorem sc_lexeme_at : FnScope ["text", "place", "word"] ["text", "place"] (defScope s_lexeme_at) := ⟨rfl, rfl, rfl, by decide +kernel, rfl, by decide +kernel, by decide +kernel⟩
theorem b_lexemes.b (X : Tx p K mg fa fd cl ci) : Binds K (fd 6) ["text"] [] := X.F_lexemes.binds fun _ _ _ _ _ _ us hl => match us, hl with | [_], _ => rfl
theorem sc_lexemes : FnScope ["text", "found", "here"] ["text"] (defScope s_lexemes) := ⟨rfl, rfl, rfl, by decide +kernel, rfl, by decide +kernel, by decide +kernel⟩
theorem b__law_source.b (X : Tx p K mg fa fd cl ci) : Binds K (fd 1) ["script"] [] := X.F__law_source.binds fun _ _ _ _ _ _ us hl => match us, hl with | [_], _ => rfl
theorem sc__law_source : FnScope ["script", "mixed", "cell"] ["script"] (defScope s__law_source) := ⟨rfl, rfl, rfl, by decide +kernel, rfl, by decide +kernel, by decide +kernel⟩
theorem b__law_pick.b (X : Tx p K mg fa fd cl ci) : Binds K (fd 9) ["source", "many"] [] := X.F__law_pick.binds fun _ _ _ _ _ _ us hl => match us, hl with | [_, _], _ => rfl
theorem sc__law_pick : FnScope ["source", "many", "left", "mixed"] ["source", "many"] (defScope s__law_pick) := ⟨rfl, rfl, rfl, by decide +kernel, rfl, by decide +kernel, by decide +kernel⟩
theorem b__law_of.b (X : Tx p K mg fa fd cl ci) : Binds K (fd 2) ["source", "some"] [] := X.F__law_of.binds fun _ _ _ _ _ _ us hl => match us, hl with | [_, _], _ => rfl
theorem sc__law_of : FnScope ["source", "some"] ["source", "some"] (defScope s__law_of) := ⟨rfl, rfl, rfl, by decide +kernel, rfl, by decide +kernel, by decide +kernel⟩
theorem b__law_read.b (X : Tx p K mg fa fd cl ci) : Binds K (fd 4) ["text"] [] := X.F__law_read.binds fun _ _ _ _ _ _ us hl => match us, hl with | [_], _ => rfl
theorem sc__law_read : FnScope ["text", "letters", "figures", "found", "i", "sign", "j"] ["text"] (defScope s__law_read) := ⟨rfl, rfl, rfl, by decide +kernel, rfl, by decide +kernel, by decide +kernel⟩
theorem b__law_told.b (X : Tx p K mg fa fd cl ci) : Binds K (fd 5) ["text"] [] := X.F__law_told.binds fun _ _ _ _ _ _ us hl => match us, hl with | [_], _ => rfl
theorem sc__law_told : FnScope ["text", "error"] ["text"] (defScope s__law_told) := ⟨rfl, rfl, rfl, by decide +kernel, rfl, by decide +kernel, by decide +kernel⟩
theorem b__law_piece.b (X : Tx p K mg fa fd cl ci) : Binds K (fd 3) ["source"] [] := X.F__law_piece.binds fun _ _ _ _ _ _ us hl => match us, hl with | [_], _ => rfl
theorem sc__law_piece : FnScope ["source", "letters", "word", "lap", "some", "odd"] ["source"] (defScope s__law_piece) := ⟨rfl, rfl, rfl, by decide +kernel, rfl, by decide +kernel, by decide +kernel⟩
theorem b_law.b (X : Tx p K mg fa fd cl ci) : Binds K (fd 0) ["script"] [] := X.F_law.binds fun _ _ _ _ _ _ us hl => match us, hl with | [_], _ => rfl
theorem sc_law : FnScope ["script", "source", "lap", "text", "turn", "found", "place", "due", "told", "far"] ["script"] (defScope s_law) := ⟨rfl, rfl, rfl, by decide +kernel, rfl, by decide +kernel, by decide +kernel⟩
structure Tab (p : Program) (w : World) (K : PySem.W.Frag) (mg : Str → Option Value) (base : Heap) (P : Pm) (fa : Nat → Addr) (fd : Nat → FuncData) (k : Nat) : Prop where
  i_run_end : FnOkG p w K mg base k (fa 8) (fd 8) ["text", "place", "signs"] (spD P T k 8)
  i_lexeme_at : FnOkG p w K mg base k (fa 7) (fd 7) ["text", "place"] (spD P T k 7)
  i_lexemes : FnOkG p w K mg base k (fa 6) (fd 6) ["text"] (spD P T k 6)
  i__law_source : FnOkG p w K mg base k (fa 1) (fd 1) ["script"] (spD P T k 1)
  i__law_pick : FnOkG p w K mg base k (fa 9) (fd 9) ["source", "many"] (spD P T k 9)
  i__law_of : FnOkG p w K mg base k (fa 2) (fd 2) ["source", "some"] (spD P T k 2)
  i__law_read : FnOkG p w K mg base k (fa 4) (fd 4) ["text"] (spD P T k 4)
  i__law_told : FnOkG p w K mg base k (fa 5) (fd 5) ["text"] (spD P T k 5)
  i__law_piece : FnOkG p w K mg base k (fa 3) (fd 3) ["source"] (spD P T k 3)
  i_law : FnOkG p w K mg base k (fa 0) (fd 0) ["script"] (spD P T k 0)
theorem ok_run_end (X : Tx p K mg fa fd cl ci) (hP : PmOk P K cl) (hb : ∃ o, base.get? sysModules = some o) (I : Tab p w K mg base P fa fd k) : FnOkG p w K mg base (k + 1) (fa 8) (fd 8) ["text", "place", "signs"] (spD P T (k + 1) 8) := by
  refine okD_succ (ar := 3) (n := 3) (bd := b_run_end) X.F_run_end sc_run_end rfl rfl rfl fun cdv A outer s H E hg hr tk => ?_
  have hx := passW_of tk
  have nd := (sc_run_end).nd
  have u1 := room1 hr
  have u64 := room64 hr
  have u65 := room65 hr
  have u80 := room80 hr
  have hk : ∀ a ns, P.kS a ns → ∀ H, SqL K H a (ns.map V.int) := fun a ns h H => kSof_sq (by rw [hP.kS] at h; exact h) H
  have hs : ∃ o, base.get? sysModules = some o := hb
  have hp := L2.passes_of (X := cxOf (L2.CX p w) p w K mg base ["text", "place", "signs"] "run_end" (defScope s_run_end) (fa 8) cdv A outer s H E) rfl
  delta b_run_end
  exact (psd_cons (psd_while (fuel := 33554432) hp (pd_w (pd_and (pd_cmp (o_lt hs u64) (pd_var (i := 1) rfl (.inl rfl)) (pd_callB o_len rfl X.n_len (pd_cons (pd_var (i := 0) rfl (.inl rfl)) pd_nil)) rfl) (pd_and1 (pd_cmp (o_in hs u65) (pd_ix u1 (pd_var (i := 0) rfl (.inl rfl)) (pd_var (i := 1) rfl (.inl rfl)) fun _ _ => rfl) (pd_var (i := 2) rfl (.inl rfl)) rfl)))) (psd_one (psd_aug (i := 1) nd rfl (.inl rfl) pd_int o_iadd))) (psd_one (psd_ret (pd_var (i := 1) rfl (.inl rfl)))))
theorem ok_lexeme_at (X : Tx p K mg fa fd cl ci) (hP : PmOk P K cl) (hb : ∃ o, base.get? sysModules = some o) (I : Tab p w K mg base P fa fd k) : FnOkG p w K mg base (k + 1) (fa 7) (fd 7) ["text", "place"] (spD P T (k + 1) 7) := by
  refine okD_succ (ar := 2) (n := 3) (bd := b_lexeme_at) X.F_lexeme_at sc_lexeme_at rfl rfl rfl fun cdv A outer s H E hg hr tk => ?_
  have hx := passW_of tk
  have nd := (sc_lexeme_at).nd
  have u1 := room1 hr
  have u64 := room64 hr
  have u65 := room65 hr
  have u80 := room80 hr
  have hk : ∀ a ns, P.kS a ns → ∀ H, SqL K H a (ns.map V.int) := fun a ns h H => kSof_sq (by rw [hP.kS] at h; exact h) H
  have hs : ∃ o, base.get? sysModules = some o := hb
  have hp := L2.passes_of (X := cxOf (L2.CX p w) p w K mg base ["text", "place", "word"] "lexeme_at" (defScope s_lexeme_at) (fa 7) cdv A outer s H E) rfl
  delta b_lexeme_at
  exact (psd_cons (psd_set (i := 1) nd rfl (.inl rfl) (pd_call I.i_run_end hg hr rfl X.g_run_end X.F_run_end.kp (b_run_end.b X) hx (pd_cons (pd_var (i := 0) rfl (.inl rfl)) (pd_cons (pd_var (i := 1) rfl (.inl rfl)) (pd_cons (pd_globS rfl (X.c_BLANKS).choose_spec) pd_nil))))) (psd_cons (psd_if (pd_cmp (o_eq hs u64) (pd_var (i := 1) rfl (.inl rfl)) (pd_callB o_len rfl X.n_len (pd_cons (pd_var (i := 0) rfl (.inl rfl)) pd_nil)) rfl) (psd_one (psd_ret (pd_tup (pd_cons pd_str (pd_cons pd_str (pd_cons (pd_var (i := 1) rfl (.inl rfl)) pd_nil)))))) psd_nil) (psd_cons (psd_if (pd_cmp (o_in hs u65) (pd_ix u1 (pd_var (i := 0) rfl (.inl rfl)) (pd_var (i := 1) rfl (.inl rfl)) fun _ _ => rfl) (pd_globS rfl (X.c_SIGNS).choose_spec) rfl) (psd_one (psd_ret (pd_tup (pd_cons pd_str (pd_cons (pd_ix u1 (pd_var (i := 0) rfl (.inl rfl)) (pd_var (i := 1) rfl (.inl rfl)) fun _ _ => rfl) (pd_cons (pd_var (i := 1) rfl (.inl rfl)) pd_nil)))))) psd_nil) (psd_cons (psd_if (pd_cmp (o_eq hs u64) (pd_ix u1 (pd_var (i := 0) rfl (.inl rfl)) (pd_var (i := 1) rfl (.inl rfl)) fun _ _ => rfl) pd_str rfl) (psd_one (psd_ret (pd_tup (pd_cons pd_str (pd_cons pd_str (pd_cons (pd_var (i := 1) rfl (.inl rfl)) pd_nil)))))) psd_nil) (psd_cons (psd_if (pd_cmp (o_in hs u65) (pd_ix u1 (pd_var (i := 0) rfl (.inl rfl)) (pd_var (i := 1) rfl (.inl rfl)) fun _ _ => rfl) (pd_globS rfl (X.c_FIGURES).choose_spec) rfl) (psd_one (psd_ret (pd_tup (pd_cons pd_str (pd_cons (pd_sl false (pd_var (i := 0) rfl (.inl rfl)) (pd_part (pd_var (i := 1) rfl (.inl rfl))) (pd_part (pd_call I.i_run_end hg hr rfl X.g_run_end X.F_run_end.kp (b_run_end.b X) hx (pd_cons (pd_var (i := 0) rfl (.inl rfl)) (pd_cons (pd_var (i := 1) rfl (.inl rfl)) (pd_cons (pd_globS rfl (X.c_FIGURES).choose_spec) pd_nil)))))) (pd_cons (pd_var (i := 1) rfl (.inl rfl)) pd_nil)))))) psd_nil) (psd_cons (psd_if (pd_cmp (o_notIn hs u65) (pd_ix u1 (pd_var (i := 0) rfl (.inl rfl)) (pd_var (i := 1) rfl (.inl rfl)) fun _ _ => rfl) (pd_globS rfl (X.c_LETTERS).choose_spec) rfl) (psd_one (psd_ret (pd_tup (pd_cons pd_str (pd_cons pd_str (pd_cons (pd_var (i := 1) rfl (.inl rfl)) pd_nil)))))) psd_nil) (psd_cons (psd_set (i := 2) nd rfl (.inl rfl) (pd_sl false (pd_var (i := 0) rfl (.inl rfl)) (pd_part (pd_var (i := 1) rfl (.inl rfl))) (pd_part (pd_call I.i_run_end hg hr rfl X.g_run_end X.F_run_end.kp (b_run_end.b X) hx (pd_cons (pd_var (i := 0) rfl (.inl rfl)) (pd_cons (pd_var (i := 1) rfl (.inl rfl)) (pd_cons (pd_op (o_add false) (pd_globS rfl (X.c_LETTERS).choose_spec) (pd_globS rfl (X.c_FIGURES).choose_spec)) pd_nil))))))) (psd_one (psd_ret (pd_if (pd_cmp (o_le hs u64) (pd_callB o_len rfl X.n_len (pd_cons (pd_var (i := 2) rfl (.inl rfl)) pd_nil)) (pd_globI rfl (X.c_MOST_LETTERS).choose_spec) rfl) (pd_tup (pd_cons pd_str (pd_cons (pd_var (i := 2) rfl (.inl rfl)) (pd_cons (pd_var (i := 1) rfl (.inl rfl)) pd_nil)))) (pd_tup (pd_cons pd_str (pd_cons pd_str (pd_cons (pd_var (i := 1) rfl (.inl rfl)) pd_nil))))))))))))))
theorem ok_lexemes (X : Tx p K mg fa fd cl ci) (hP : PmOk P K cl) (hb : ∃ o, base.get? sysModules = some o) (I : Tab p w K mg base P fa fd k) : FnOkG p w K mg base (k + 1) (fa 6) (fd 6) ["text"] (spD P T (k + 1) 6) := by
  refine okD_succ (ar := 1) (n := 3) (bd := b_lexemes) X.F_lexemes sc_lexemes rfl rfl rfl fun cdv A outer s H E hg hr tk => ?_
  have hx := passW_of tk
  have nd := (sc_lexemes).nd
  have u1 := room1 hr
  have u64 := room64 hr
  have u65 := room65 hr
  have u80 := room80 hr
  have hk : ∀ a ns, P.kS a ns → ∀ H, SqL K H a (ns.map V.int) := fun a ns h H => kSof_sq (by rw [hP.kS] at h; exact h) H
  have hs : ∃ o, base.get? sysModules = some o := hb
  have hp := L2.passes_of (X := cxOf (L2.CX p w) p w K mg base ["text", "found", "here"] "lexemes" (defScope s_lexemes) (fa 6) cdv A outer s H E) rfl
  delta b_lexemes
  exact (psd_cons (psd_par2 (i := 1) (j := 2) rfl nd rfl rfl (by decide) rfl rfl (pd_cons (pd_lst pd_nil) (pd_cons (pd_call I.i_lexeme_at hg hr rfl X.g_lexeme_at X.F_lexeme_at.kp (b_lexeme_at.b X) hx (pd_cons (pd_var (i := 0) rfl (.inl rfl)) (pd_cons pd_int pd_nil))) pd_nil)) rfl) (psd_cons (psd_while (fuel := 33554432) hp (pd_cmp (o_ne hs u64) (pd_ix u1 (pd_var (i := 2) rfl (.inl rfl)) pd_int fun _ _ => rfl) pd_str rfl) (psd_cons (psd_if (pd_cmp (o_eq hs u64) (pd_ix u1 (pd_var (i := 2) rfl (.inl rfl)) pd_int fun _ _ => rfl) pd_str rfl) (psd_one (psd_raiseE (c := 1) X.x_BadText X.top (hP.cl 1) rfl hr tk rfl (by decide) (pd_ix u1 (pd_var (i := 2) rfl (.inl rfl)) pd_int fun _ _ => rfl))) psd_nil) (psd_cons (psd_exp (pd_methL PySem.F.slot_list_append PySem.F.type_list_append o_append (pd_var (i := 1) rfl (.inl rfl)) (pd_cons (pd_var (i := 2) rfl (.inl rfl)) pd_nil))) (psd_one (psd_set (i := 2) nd rfl (.inl rfl) (pd_call I.i_lexeme_at hg hr rfl X.g_lexeme_at X.F_lexeme_at.kp (b_lexeme_at.b X) hx (pd_cons (pd_var (i := 0) rfl (.inl rfl)) (pd_cons (pd_op (o_add false) (pd_ix u1 (pd_var (i := 2) rfl (.inl rfl)) pd_int fun _ _ => rfl) (pd_callB o_len rfl X.n_len (pd_cons (pd_ix u1 (pd_var (i := 2) rfl (.inl rfl)) pd_int fun _ _ => rfl) pd_nil))) pd_nil)))))))) (psd_one (psd_ret (pd_var (i := 1) rfl (.inl rfl))))))
theorem ok__law_source (X : Tx p K mg fa fd cl ci) (hP : PmOk P K cl) (hb : ∃ o, base.get? sysModules = some o) (I : Tab p w K mg base P fa fd k) : FnOkG p w K mg base (k + 1) (fa 1) (fd 1) ["script"] (spD P T (k + 1) 1) := by
  refine okD_succ (ar := 1) (n := 3) (bd := b__law_source) X.F__law_source sc__law_source rfl rfl rfl fun cdv A outer s H E hg hr tk => ?_
  have hx := passW_of tk
  have nd := (sc__law_source).nd
  have u1 := room1 hr
  have u64 := room64 hr
  have u65 := room65 hr
  have u80 := room80 hr
  have hk : ∀ a ns, P.kS a ns → ∀ H, SqL K H a (ns.map V.int) := fun a ns h H => kSof_sq (by rw [hP.kS] at h; exact h) H
  have hs : ∃ o, base.get? sysModules = some o := hb
  have hp := L2.passes_of (X := cxOf (L2.CX p w) p w K mg base ["script", "mixed", "cell"] "_law_source" (defScope s__law_source) (fa 1) cdv A outer s H E) rfl
  delta b__law_source
  exact (psd_cons (psd_set (i := 1) nd rfl (.inl rfl) pd_int) (psd_cons (psd_for hp rfl (pid_seq hk (pd_var (i := 0) rfl (.inl rfl))) (pgd_name (i := 2) nd rfl (.inl rfl)) (psd_one (psd_set (i := 1) nd rfl (.inl rfl) (pd_op o_mod (pd_callTy o_int rfl X.n_int (pd_cons (pd_op (o_add false) (pd_op (o_add false) (pd_op (o_mul false) (pd_var (i := 1) rfl (.inl rfl)) pd_int) (pd_op (o_mul false) (pd_var (i := 2) rfl (.inl rfl)) pd_int)) pd_int) pd_nil)) pd_int)))) (psd_one (psd_ret (pd_dsp (ppd_str (pd_rev true (pd_lc (own := [("cell", 2)]) false rfl nd (pid_seq hk (pd_var (i := 0) rfl (.inl rfl))) (blkOk_by rfl) (fun _ _ _ _ _ => (pgw_name (i := 2) nd rfl (by decide) (.inl rfl))) (fun _ _ _ _ _ => ptsd_nil) (fun _ _ _ _ _ => (pd_callB o_abs rfl X.n_abs (pd_cons (pd_var (i := 2) rfl (.inl rfl)) pd_nil))))) (ppd_str pd_int (ppd_str (pd_var (i := 1) rfl (.inl rfl)) (ppd_str pd_int ppd_nil)))) rfl rfl (by simp) (by decide))))))
theorem ok__law_pick (X : Tx p K mg fa fd cl ci) (hP : PmOk P K cl) (hb : ∃ o, base.get? sysModules = some o) (I : Tab p w K mg base P fa fd k) : FnOkG p w K mg base (k + 1) (fa 9) (fd 9) ["source", "many"] (spD P T (k + 1) 9) := by
  refine okD_succ (ar := 2) (n := 4) (bd := b__law_pick) X.F__law_pick sc__law_pick rfl rfl rfl fun cdv A outer s H E hg hr tk => ?_
  have hx := passW_of tk
  have nd := (sc__law_pick).nd
  have u1 := room1 hr
  have u64 := room64 hr
  have u65 := room65 hr
  have u80 := room80 hr
  have hk : ∀ a ns, P.kS a ns → ∀ H, SqL K H a (ns.map V.int) := fun a ns h H => kSof_sq (by rw [hP.kS] at h; exact h) H
  have hs : ∃ o, base.get? sysModules = some o := hb
  have hp := L2.passes_of (X := cxOf (L2.CX p w) p w K mg base ["source", "many", "left", "mixed"] "_law_pick" (defScope s__law_pick) (fa 9) cdv A outer s H E) rfl
  delta b__law_pick
  exact (psd_cons (psd_while (fuel := 33554432) hp (pd_w (pd_and (pd_cmp o_gt (pd_var (i := 1) rfl (.inl rfl)) pd_int rfl) (pd_and (pd_cmp (o_lt hs u64) (pd_ix u1 (pd_var (i := 0) rfl (.inl rfl)) pd_str fun _ _ => rfl) pd_int rfl) (pd_and1 (pd_cmp o_gt (pd_callB o_len rfl X.n_len (pd_cons (pd_ix u1 (pd_var (i := 0) rfl (.inl rfl)) pd_str fun _ _ => rfl) pd_nil)) pd_int rfl))))) (psd_one (psd_asg (pd_methL0 PySem.F.slot_list_pop PySem.F.type_list_pop o_pop (pd_ix u1 (pd_var (i := 0) rfl (.inl rfl)) pd_str fun _ _ => rfl)) (pgd_sub u1 (pd_var (i := 0) rfl (.inl rfl)) pd_str)))) (psd_cons (psd_set (i := 2) nd rfl (.inl rfl) (pd_ix u1 (pd_var (i := 0) rfl (.inl rfl)) pd_str fun _ _ => rfl)) (psd_cons (psd_if (pd_w (pd_or (pd_cmp (o_lt hs u64) (pd_var (i := 1) rfl (.inl rfl)) pd_int rfl) (pd_or1 (pd_cmp o_gt (pd_var (i := 2) rfl (.inl rfl)) pd_int rfl)))) (psd_cons (psd_asg (pd_op o_div (pd_var (i := 2) rfl (.inl rfl)) (pd_callB (o_max2 rfl) rfl X.n_max (pd_cons pd_int (pd_cons (pd_var (i := 1) rfl (.inl rfl)) pd_nil)))) (pgd_sub u1 (pd_var (i := 0) rfl (.inl rfl)) pd_str)) (psd_one (psd_ret (pd_op o_mod (pd_callTy o_int rfl X.n_int (pd_cons (pd_var (i := 2) rfl (.inl rfl)) pd_nil)) (pd_callB (o_max2 rfl) rfl X.n_max (pd_cons pd_int (pd_cons (pd_var (i := 1) rfl (.inl rfl)) pd_nil))))))) psd_nil) (psd_cons (psd_asg (pd_op (o_add false) (pd_ix u1 (pd_var (i := 0) rfl (.inl rfl)) pd_str fun _ _ => rfl) pd_int) (pgd_sub u1 (pd_var (i := 0) rfl (.inl rfl)) pd_str)) (psd_cons (psd_set (i := 3) nd rfl (.inl rfl) (pd_op o_mod (pd_callTy o_int rfl X.n_int (pd_cons (pd_op (o_add false) (pd_ix u1 (pd_var (i := 0) rfl (.inl rfl)) pd_str fun _ _ => rfl) (pd_op (o_mul false) (pd_ix u1 (pd_var (i := 0) rfl (.inl rfl)) pd_str fun _ _ => rfl) pd_int)) pd_nil)) pd_int)) (psd_cons (psd_set (i := 3) nd rfl (.inl rfl) (pd_op o_mod (pd_callTy o_int rfl X.n_int (pd_cons (pd_op (o_add false) (pd_op (o_mul false) (pd_var (i := 3) rfl (.inl rfl)) (pd_var (i := 3) rfl (.inl rfl))) (pd_op (o_mul false) (pd_ix u1 (pd_var (i := 0) rfl (.inl rfl)) pd_str fun _ _ => rfl) pd_int)) pd_nil)) pd_int)) (psd_cons (psd_asg (pd_var (i := 3) rfl (.inl rfl)) (pgd_sub u1 (pd_var (i := 0) rfl (.inl rfl)) pd_str)) (psd_one (psd_ret (pd_op o_mod (pd_callTy o_int rfl X.n_int (pd_cons (pd_op o_div (pd_var (i := 3) rfl (.inl rfl)) pd_int) pd_nil)) (pd_var (i := 1) rfl (.inl rfl))))))))))))
theorem ok__law_of (X : Tx p K mg fa fd cl ci) (hP : PmOk P K cl) (hb : ∃ o, base.get? sysModules = some o) (I : Tab p w K mg base P fa fd k) : FnOkG p w K mg base (k + 1) (fa 2) (fd 2) ["source", "some"] (spD P T (k + 1) 2) := by
  refine okD_succ (ar := 2) (n := 2) (bd := b__law_of) X.F__law_of sc__law_of rfl rfl rfl fun cdv A outer s H E hg hr tk => ?_
  have hx := passW_of tk
  have nd := (sc__law_of).nd
  have u1 := room1 hr
  have u64 := room64 hr
  have u65 := room65 hr
  have u80 := room80 hr
  have hk : ∀ a ns, P.kS a ns → ∀ H, SqL K H a (ns.map V.int) := fun a ns h H => kSof_sq (by rw [hP.kS] at h; exact h) H
  have hs : ∃ o, base.get? sysModules = some o := hb
  have hp := L2.passes_of (X := cxOf (L2.CX p w) p w K mg base ["source", "some"] "_law_of" (defScope s__law_of) (fa 2) cdv A outer s H E) rfl
  delta b__law_of
  exact (psd_one (psd_ret (pd_ix u1 (pd_var (i := 1) rfl (.inl rfl)) (pd_call I.i__law_pick hg hr rfl X.g__law_pick X.F__law_pick.kp (b__law_pick.b X) hx (pd_cons (pd_var (i := 0) rfl (.inl rfl)) (pd_cons (pd_callB o_len rfl X.n_len (pd_cons (pd_var (i := 1) rfl (.inl rfl)) pd_nil)) pd_nil))) fun _ _ => rfl)))
theorem ok__law_read (X : Tx p K mg fa fd cl ci) (hP : PmOk P K cl) (hb : ∃ o, base.get? sysModules = some o) (I : Tab p w K mg base P fa fd k) : FnOkG p w K mg base (k + 1) (fa 4) (fd 4) ["text"] (spD P T (k + 1) 4) := by
  refine okD_succ (ar := 1) (n := 7) (bd := b__law_read) X.F__law_read sc__law_read rfl rfl rfl fun cdv A outer s H E hg hr tk => ?_
  have hx := passW_of tk
  have nd := (sc__law_read).nd
  have u1 := room1 hr
  have u64 := room64 hr
  have u65 := room65 hr
  have u80 := room80 hr
  have hk : ∀ a ns, P.kS a ns → ∀ H, SqL K H a (ns.map V.int) := fun a ns h H => kSof_sq (by rw [hP.kS] at h; exact h) H
  have hs : ∃ o, base.get? sysModules = some o := hb
  have hp := L2.passes_of (X := cxOf (L2.CX p w) p w K mg base ["text", "letters", "figures", "found", "i", "sign", "j"] "_law_read" (defScope s__law_read) (fa 4) cdv A outer s H E) rfl
  delta b__law_read
  exact (psd_cons (psd_par (n := 4) rfl (pd_cons pd_str (pd_cons pd_str (pd_cons (pd_lst pd_nil) (pd_cons pd_int pd_nil)))) (pgd_cons (pgd_name (i := 1) nd rfl (.inl rfl)) (pgd_cons (pgd_name (i := 2) nd rfl (.inl rfl)) (pgd_cons (pgd_name (i := 3) nd rfl (.inl rfl)) (pgd_cons (pgd_name (i := 4) nd rfl (.inl rfl)) pgd_nil))))) (psd_cons (psd_while (fuel := 33554432) hp (pd_cmp (o_lt hs u64) (pd_var (i := 4) rfl (.inl rfl)) (pd_callB o_len rfl X.n_len (pd_cons (pd_var (i := 0) rfl (.inl rfl)) pd_nil)) rfl) (psd_cons (psd_par2 (i := 5) (j := 6) rfl nd rfl rfl (by decide) rfl rfl (pd_cons (pd_ix u1 (pd_var (i := 0) rfl (.inl rfl)) (pd_var (i := 4) rfl (.inl rfl)) fun _ _ => rfl) (pd_cons (pd_op (o_add false) (pd_var (i := 4) rfl (.inl rfl)) pd_int) pd_nil)) rfl) (psd_cons (psd_if (pd_cmp (o_in hs u65) (pd_var (i := 5) rfl (.inl rfl)) pd_str rfl) (psd_cons (psd_set (i := 4) nd rfl (.inl rfl) (pd_var (i := 6) rfl (.inl rfl))) (psd_one psd_cnt)) psd_nil) (psd_cons (psd_if (pd_cmp (o_in hs u65) (pd_var (i := 5) rfl (.inl rfl)) (pd_var (i := 1) rfl (.inl rfl)) rfl) (psd_cons (psd_while (fuel := 33554432) hp (pd_w (pd_and (pd_cmp (o_lt hs u64) (pd_var (i := 6) rfl (.inl rfl)) (pd_callB o_len rfl X.n_len (pd_cons (pd_var (i := 0) rfl (.inl rfl)) pd_nil)) rfl) (pd_and1 (pd_cmp (o_in hs u65) (pd_ix u1 (pd_var (i := 0) rfl (.inl rfl)) (pd_var (i := 6) rfl (.inl rfl)) fun _ _ => rfl) (pd_op (o_add false) (pd_var (i := 1) rfl (.inl rfl)) (pd_var (i := 2) rfl (.inl rfl))) rfl)))) (psd_one (psd_set (i := 6) nd rfl (.inl rfl) (pd_op (o_add false) (pd_var (i := 6) rfl (.inl rfl)) pd_int)))) (psd_cons (psd_if (pd_cmp o_gt (pd_op o_sub (pd_var (i := 6) rfl (.inl rfl)) (pd_var (i := 4) rfl (.inl rfl))) pd_int rfl) (psd_frz (psd_one (psd_ret (pd_tup (pd_cons (pd_var (i := 3) rfl (.inl rfl)) (pd_cons (pd_var (i := 4) rfl (.inl rfl)) pd_nil)))))) psd_nil) (psd_one (psd_exp (pd_methL PySem.F.slot_list_append PySem.F.type_list_append o_append (pd_var (i := 3) rfl (.inl rfl)) (pd_cons (pd_tup (pd_cons pd_str (pd_cons (pd_sl false (pd_var (i := 0) rfl (.inl rfl)) (pd_part (pd_var (i := 4) rfl (.inl rfl))) (pd_part (pd_var (i := 6) rfl (.inl rfl)))) (pd_cons (pd_var (i := 4) rfl (.inl rfl)) pd_nil)))) pd_nil)))))) (psd_one (psd_if (pd_cmp (o_in hs u65) (pd_var (i := 5) rfl (.inl rfl)) (pd_var (i := 2) rfl (.inl rfl)) rfl) (psd_cons (psd_while (fuel := 33554432) hp (pd_w (pd_and (pd_cmp (o_ne hs u64) (pd_var (i := 5) rfl (.inl rfl)) pd_str rfl) (pd_and (pd_cmp (o_lt hs u64) (pd_var (i := 6) rfl (.inl rfl)) (pd_callB o_len rfl X.n_len (pd_cons (pd_var (i := 0) rfl (.inl rfl)) pd_nil)) rfl) (pd_and1 (pd_cmp (o_in hs u65) (pd_ix u1 (pd_var (i := 0) rfl (.inl rfl)) (pd_var (i := 6) rfl (.inl rfl)) fun _ _ => rfl) (pd_var (i := 2) rfl (.inl rfl)) rfl))))) (psd_one (psd_set (i := 6) nd rfl (.inl rfl) (pd_op (o_add false) (pd_var (i := 6) rfl (.inl rfl)) pd_int)))) (psd_one (psd_exp (pd_methL PySem.F.slot_list_append PySem.F.type_list_append o_append (pd_var (i := 3) rfl (.inl rfl)) (pd_cons (pd_tup (pd_cons pd_str (pd_cons (pd_sl false (pd_var (i := 0) rfl (.inl rfl)) (pd_part (pd_var (i := 4) rfl (.inl rfl))) (pd_part (pd_var (i := 6) rfl (.inl rfl)))) (pd_cons (pd_var (i := 4) rfl (.inl rfl)) pd_nil)))) pd_nil))))) (psd_one (psd_if (pd_cmp (o_in hs u65) (pd_var (i := 5) rfl (.inl rfl)) pd_str rfl) (psd_one (psd_exp (pd_methL PySem.F.slot_list_append PySem.F.type_list_append o_append (pd_var (i := 3) rfl (.inl rfl)) (pd_cons (pd_tup (pd_cons pd_str (pd_cons (pd_sl false (pd_var (i := 0) rfl (.inl rfl)) (pd_part (pd_var (i := 4) rfl (.inl rfl))) (pd_part (pd_var (i := 6) rfl (.inl rfl)))) (pd_cons (pd_var (i := 4) rfl (.inl rfl)) pd_nil)))) pd_nil)))) (psd_frz (psd_one (psd_ret (pd_tup (pd_cons (pd_var (i := 3) rfl (.inl rfl)) (pd_cons (pd_var (i := 4) rfl (.inl rfl)) pd_nil))))))))))) (psd_one (psd_set (i := 4) nd rfl (.inl rfl) (pd_var (i := 6) rfl (.inl rfl)))))))) (psd_frz (psd_one (psd_ret (pd_tup (pd_cons (pd_var (i := 3) rfl (.inl rfl)) (pd_cons pd_non pd_nil))))))))
theorem ok__law_told (X : Tx p K mg fa fd cl ci) (hP : PmOk P K cl) (hb : ∃ o, base.get? sysModules = some o) (I : Tab p w K mg base P fa fd k) : FnOkG p w K mg base (k + 1) (fa 5) (fd 5) ["text"] (spD P T (k + 1) 5) := by
  refine okD_succ (ar := 1) (n := 2) (bd := b__law_told) X.F__law_told sc__law_told rfl rfl rfl fun cdv A outer s H E hg hr tk => ?_
  have hx := passW_of tk
  have nd := (sc__law_told).nd
  have u1 := room1 hr
  have u64 := room64 hr
  have u65 := room65 hr
  have u80 := room80 hr
  have hk : ∀ a ns, P.kS a ns → ∀ H, SqL K H a (ns.map V.int) := fun a ns h H => kSof_sq (by rw [hP.kS] at h; exact h) H
  have hs : ∃ o, base.get? sysModules = some o := hb
  have hp := L2.passes_of (X := cxOf (L2.CX p w) p w K mg base ["text", "error"] "_law_told" (defScope s__law_told) (fa 5) cdv A outer s H E) rfl
  delta b__law_told
  exact (psd_one (psd_tryE (c := 1) (i := 1) (live := false) X.x_BadText (hP.cl 1) rfl rfl nd rfl rfl rfl (by decide) (by decide) (by decide) (.inl rfl) tk (fun W pn xe tk2 hp2 => (psd_one (psd_ret (pd_lst (pd_cons pd_str (pd_cons (pd_call I.i_lexemes hg hr rfl X.g_lexemes X.F_lexemes.kp (b_lexemes.b X) (passW_of tk2) (pd_cons (pd_var (i := 0) rfl (.inl rfl)) pd_nil)) pd_nil))))))))
theorem ok__law_piece (X : Tx p K mg fa fd cl ci) (hP : PmOk P K cl) (hb : ∃ o, base.get? sysModules = some o) (I : Tab p w K mg base P fa fd k) : FnOkG p w K mg base (k + 1) (fa 3) (fd 3) ["source"] (spD P T (k + 1) 3) := by
  refine okD_succ (ar := 1) (n := 6) (bd := b__law_piece) X.F__law_piece sc__law_piece rfl rfl rfl fun cdv A outer s H E hg hr tk => ?_
  have hx := passW_of tk
  have nd := (sc__law_piece).nd
  have u1 := room1 hr
  have u64 := room64 hr
  have u65 := room65 hr
  have u80 := room80 hr
  have hk : ∀ a ns, P.kS a ns → ∀ H, SqL K H a (ns.map V.int) := fun a ns h H => kSof_sq (by rw [hP.kS] at h; exact h) H
  have hs : ∃ o, base.get? sysModules = some o := hb
  have hp := L2.passes_of (X := cxOf (L2.CX p w) p w K mg base ["source", "letters", "word", "lap", "some", "odd"] "_law_piece" (defScope s__law_piece) (fa 3) cdv A outer s H E) rfl
  delta b__law_piece
  exact (psd_cons (psd_set (i := 1) nd rfl (.inl rfl) pd_str) (psd_cons (psd_set (i := 2) nd rfl (.inl rfl) (pd_call I.i__law_of hg hr rfl X.g__law_of X.F__law_of.kp (b__law_of.b X) hx (pd_cons (pd_var (i := 0) rfl (.inl rfl)) (pd_cons (pd_callTy (o_list rfl false) rfl X.n_list (pd_cons (pd_sl false (pd_var (i := 1) rfl (.inl rfl)) pd_noPart (pd_part pd_int)) pd_nil)) pd_nil)))) (psd_cons (psd_for hp rfl (pid_rng1 rfl X.n_range (pd_cons (pd_call I.i__law_pick hg hr rfl X.g__law_pick X.F__law_pick.kp (b__law_pick.b X) hx (pd_cons (pd_var (i := 0) rfl (.inl rfl)) (pd_cons pd_int pd_nil))) pd_nil)) (pgd_name (i := 3) nd rfl (.inl rfl)) (psd_one (psd_set (i := 2) nd rfl (.inl rfl) (pd_op (o_add false) (pd_var (i := 2) rfl (.inl rfl)) (pd_call I.i__law_of hg hr rfl X.g__law_of X.F__law_of.kp (b__law_of.b X) hx (pd_cons (pd_var (i := 0) rfl (.inl rfl)) (pd_cons (pd_callTy (o_list rfl false) rfl X.n_list (pd_cons (pd_var (i := 1) rfl (.inl rfl)) pd_nil)) pd_nil))))))) (psd_cons (psd_set (i := 4) nd rfl (.inl rfl) (pd_lst (pd_cons pd_str (pd_cons pd_str (pd_cons pd_str (pd_cons pd_str (pd_cons pd_str (pd_cons pd_str (pd_cons pd_str (pd_cons pd_str (pd_cons pd_str (pd_cons pd_str (pd_cons pd_str (pd_cons pd_str (pd_cons pd_str (pd_cons pd_str (pd_cons pd_str (pd_cons pd_str (pd_cons pd_str (pd_cons pd_str (pd_cons pd_str (pd_cons pd_str pd_nil)))))))))))))))))))))) (psd_cons (psd_set (i := 4) nd rfl (.inl rfl) (pd_op (o_add false) (pd_var (i := 4) rfl (.inl rfl)) (pd_lst (pd_cons (pd_op (o_mul false) pd_str (pd_call I.i__law_of hg hr rfl X.g__law_of X.F__law_of.kp (b__law_of.b X) hx (pd_cons (pd_var (i := 0) rfl (.inl rfl)) (pd_cons (pd_lst (pd_cons pd_int (pd_cons pd_int (pd_cons pd_int pd_nil)))) pd_nil)))) (pd_cons (pd_op (o_mul false) pd_str pd_int) (pd_cons (pd_op (o_mul false) pd_str pd_int) (pd_cons (pd_var (i := 2) rfl (.inl rfl)) (pd_cons (pd_var (i := 2) rfl (.inl rfl)) (pd_cons (pd_var (i := 2) rfl (.inl rfl)) (pd_cons (pd_var (i := 2) rfl (.inl rfl)) pd_nil)))))))))) (psd_cons (psd_set (i := 5) nd rfl (.inl rfl) (pd_lst (pd_cons pd_str (pd_cons pd_str (pd_cons pd_str (pd_cons pd_str (pd_cons pd_str (pd_cons pd_str (pd_cons pd_str (pd_cons pd_str (pd_cons pd_str (pd_cons pd_str (pd_cons (pd_op (o_mul false) pd_str pd_int) (pd_cons (pd_op (o_mul false) pd_str pd_int) (pd_cons pd_str (pd_cons pd_str (pd_cons pd_str (pd_cons pd_str (pd_cons pd_str (pd_cons pd_str (pd_cons pd_str (pd_cons pd_str (pd_cons pd_str (pd_cons pd_str pd_nil)))))))))))))))))))))))) (psd_one (psd_ret (pd_if (pd_cmp (o_eq hs u64) (pd_call I.i__law_pick hg hr rfl X.g__law_pick X.F__law_pick.kp (b__law_pick.b X) hx (pd_cons (pd_var (i := 0) rfl (.inl rfl)) (pd_cons pd_int pd_nil))) pd_int rfl) (pd_call I.i__law_of hg hr rfl X.g__law_of X.F__law_of.kp (b__law_of.b X) hx (pd_cons (pd_var (i := 0) rfl (.inl rfl)) (pd_cons (pd_var (i := 5) rfl (.inl rfl)) pd_nil))) (pd_call I.i__law_of hg hr rfl X.g__law_of X.F__law_of.kp (b__law_of.b X) hx (pd_cons (pd_var (i := 0) rfl (.inl rfl)) (pd_cons (pd_var (i := 4) rfl (.inl rfl)) pd_nil))))))))))))
theorem ok_law (X : Tx p K mg fa fd cl ci) (hP : PmOk P K cl) (hb : ∃ o, base.get? sysModules = some o) (I : Tab p w K mg base P fa fd k) : FnOkG p w K mg base (k + 1) (fa 0) (fd 0) ["script"] (spD P T (k + 1) 0) := by
  refine okD_succ (ar := 1) (n := 10) (bd := b_law) X.F_law sc_law rfl rfl rfl fun cdv A outer s H E hg hr tk => ?_
  have hx := passW_of tk
  have nd := (sc_law).nd
  have u1 := room1 hr
  have u64 := room64 hr
  have u65 := room65 hr
  have u80 := room80 hr
  have hk : ∀ a ns, P.kS a ns → ∀ H, SqL K H a (ns.map V.int) := fun a ns h H => kSof_sq (by rw [hP.kS] at h; exact h) H
  have hs : ∃ o, base.get? sysModules = some o := hb
  have hp := L2.passes_of (X := cxOf (L2.CX p w) p w K mg base ["script", "source", "lap", "text", "turn", "found", "place", "due", "told", "far"] "law" (defScope s_law) (fa 0) cdv A outer s H E) rfl
  delta b_law
  exact (psd_cons (psd_set (i := 1) nd rfl (.inl rfl) (pd_call I.i__law_source hg hr rfl X.g__law_source X.F__law_source.kp (b__law_source.b X) hx (pd_cons (pd_var (i := 0) rfl (.inl rfl)) pd_nil))) (psd_cons (psd_for hp rfl (pid_rng1 rfl X.n_range (pd_cons pd_int pd_nil)) (pgd_name (i := 2) nd rfl (.inl rfl)) (psd_cons (psd_set (i := 3) nd rfl (.inl rfl) pd_str) (psd_cons (psd_for hp rfl (pid_rng1 rfl X.n_range (pd_cons (pd_call I.i__law_of hg hr rfl X.g__law_of X.F__law_of.kp (b__law_of.b X) hx (pd_cons (pd_var (i := 1) rfl (.inl rfl)) (pd_cons (pd_lst (pd_cons pd_int (pd_cons pd_int (pd_cons pd_int (pd_cons pd_int pd_nil))))) pd_nil))) pd_nil)) (pgd_name (i := 4) nd rfl (.inl rfl)) (psd_one (psd_set (i := 3) nd rfl (.inl rfl) (pd_op (o_add false) (pd_op (o_add false) (pd_var (i := 3) rfl (.inl rfl)) (pd_call I.i__law_piece hg hr rfl X.g__law_piece X.F__law_piece.kp (b__law_piece.b X) hx (pd_cons (pd_var (i := 1) rfl (.inl rfl)) pd_nil))) (pd_call I.i__law_of hg hr rfl X.g__law_of X.F__law_of.kp (b__law_of.b X) hx (pd_cons (pd_var (i := 1) rfl (.inl rfl)) (pd_cons (pd_lst (pd_cons pd_str (pd_cons pd_str (pd_cons pd_str (pd_cons pd_str pd_nil))))) pd_nil))))))) (psd_cons (psd_asg (pd_call I.i__law_read hg hr rfl X.g__law_read X.F__law_read.kp (b__law_read.b X) hx (pd_cons (pd_var (i := 3) rfl (.inl rfl)) pd_nil)) (pgd_tup rfl (pgd_cons (pgd_name (i := 5) nd rfl (.inl rfl)) (pgd_cons (pgd_name (i := 6) nd rfl (.inl rfl)) pgd_nil)))) (psd_cons (psd_set (i := 7) nd rfl (.inl rfl) (pd_if (pd_isN (pd_var (i := 6) rfl (.inl rfl))) (pd_lst (pd_cons pd_str (pd_cons (pd_var (i := 5) rfl (.inl rfl)) pd_nil))) (pd_lst (pd_cons pd_str (pd_cons (pd_var (i := 6) rfl (.inl rfl)) pd_nil))))) (psd_cons (psd_set (i := 8) nd rfl (.inl rfl) (pd_call I.i__law_told hg hr rfl X.g__law_told X.F__law_told.kp (b__law_told.b X) hx (pd_cons (pd_var (i := 3) rfl (.inl rfl)) pd_nil))) (psd_cons (psd_if (pd_cmp (o_ne hs u64) (pd_callB (o_repr hs hg u80) rfl X.n_repr (pd_cons (pd_var (i := 8) rfl (.inl rfl)) pd_nil)) (pd_callB (o_repr hs hg u80) rfl X.n_repr (pd_cons (pd_var (i := 7) rfl (.inl rfl)) pd_nil)) rfl) (psd_one (psd_ret pd_bool)) psd_nil) (psd_one (psd_if (pd_cmp (o_eq hs u64) (pd_ix u1 (pd_var (i := 8) rfl (.inl rfl)) pd_int fun _ _ => rfl) pd_str rfl) (psd_cons (psd_exp (pd_methL PySem.F.slot_list_append PySem.F.type_list_append o_append (pd_ix u1 (pd_var (i := 8) rfl (.inl rfl)) pd_int fun _ _ => rfl) (pd_cons pd_non pd_nil))) (psd_one (psd_if (pd_cmp (o_ne hs u64) (pd_callB (o_repr hs hg u80) rfl X.n_repr (pd_cons (pd_call I.i__law_told hg hr rfl X.g__law_told X.F__law_told.kp (b__law_told.b X) hx (pd_cons (pd_var (i := 3) rfl (.inl rfl)) pd_nil)) pd_nil)) (pd_callB (o_repr hs hg u80) rfl X.n_repr (pd_cons (pd_var (i := 7) rfl (.inl rfl)) pd_nil)) rfl) (psd_one (psd_ret pd_bool)) psd_nil))) psd_nil))))))))) (psd_cons (psd_set (i := 9) nd rfl (.inl rfl) (pd_op (o_add false) (pd_op (o_mul false) pd_str pd_int) (pd_op (o_mul false) pd_str pd_int))) (psd_cons (psd_if (pd_w (pd_or (pd_cmp (o_ne hs u64) (pd_callB o_len rfl X.n_len (pd_cons (pd_call I.i_lexemes hg hr rfl X.g_lexemes X.F_lexemes.kp (b_lexemes.b X) hx (pd_cons (pd_var (i := 9) rfl (.inl rfl)) pd_nil)) pd_nil)) pd_int rfl) (pd_or (pd_cmp (o_ne hs u64) (pd_callB (o_repr hs hg u80) rfl X.n_repr (pd_cons (pd_call I.i_lexemes hg hr rfl X.g_lexemes X.F_lexemes.kp (b_lexemes.b X) hx (pd_cons pd_str pd_nil)) pd_nil)) pd_str rfl) (pd_or1 (pd_cmp (o_ne hs u64) (pd_callB (o_repr hs hg u80) rfl X.n_repr (pd_cons (pd_call I.i_lexemes hg hr rfl X.g_lexemes X.F_lexemes.kp (b_lexemes.b X) hx (pd_cons pd_str pd_nil)) pd_nil)) pd_str rfl))))) (psd_one (psd_ret pd_bool)) psd_nil) (psd_cons (psd_set (i := 7) nd rfl (.inl rfl) (pd_lst (pd_cons (pd_tup (pd_cons pd_str (pd_cons pd_str (pd_cons pd_int pd_nil)))) (pd_cons (pd_tup (pd_cons pd_str (pd_cons pd_str (pd_cons pd_int pd_nil)))) (pd_cons (pd_tup (pd_cons pd_str (pd_cons pd_str (pd_cons pd_int pd_nil)))) (pd_cons (pd_tup (pd_cons pd_str (pd_cons pd_str (pd_cons pd_int pd_nil)))) (pd_cons (pd_tup (pd_cons pd_str (pd_cons pd_str (pd_cons pd_int pd_nil)))) (pd_cons (pd_tup (pd_cons pd_str (pd_cons pd_str (pd_cons pd_int pd_nil)))) pd_nil)))))))) (psd_one (psd_ret (pd_cmpV (o_eq hs u64) (pd_callB (o_repr hs hg u80) rfl X.n_repr (pd_cons (pd_call I.i_lexemes hg hr rfl X.g_lexemes X.F_lexemes.kp (b_lexemes.b X) hx (pd_cons pd_str pd_nil)) pd_nil)) (pd_callB (o_repr hs hg u80) rfl X.n_repr (pd_cons (pd_var (i := 7) rfl (.inl rfl)) pd_nil)) rfl))))))))
theorem tab (X : Tx p K mg fa fd cl ci) (hP : PmOk P K cl) (hb : ∃ o, base.get? sysModules = some o) : ∀ k, Tab p w K mg base P fa fd k
  | 0 => ⟨okD_zero (d := ⟨3, 3, b_run_end⟩) rfl rfl, okD_zero (d := ⟨2, 3, b_lexeme_at⟩) rfl rfl, okD_zero (d := ⟨1, 3, b_lexemes⟩) rfl rfl, okD_zero (d := ⟨1, 3, b__law_source⟩) rfl rfl, okD_zero (d := ⟨2, 4, b__law_pick⟩) rfl rfl, okD_zero (d := ⟨2, 2, b__law_of⟩) rfl rfl, okD_zero (d := ⟨1, 7, b__law_read⟩) rfl rfl, okD_zero (d := ⟨1, 2, b__law_told⟩) rfl rfl, okD_zero (d := ⟨1, 6, b__law_piece⟩) rfl rfl, okD_zero (d := ⟨1, 10, b_law⟩) rfl rfl⟩
  | k + 1 => let I := tab X hP hb k; ⟨ok_run_end X hP hb I, ok_lexeme_at X hP hb I, ok_lexemes X hP hb I, ok__law_source X hP hb I, ok__law_pick X hP hb I, ok__law_of X hP hb I, ok__law_read X hP hb I, ok__law_told X hP hb I, ok__law_piece X hP hb I, ok_law X hP hb I⟩
end Mp.K07
end
section
set_option Elab.async false
set_option linter.all false
set_option maxRecDepth 100000
set_option autoImplicit false
set_option maxHeartbeats 4000000
namespace Mp
open PySem PySem.Spec PyProof.Rows L2
theorem exm_self {K : PySem.W.Frag} {S : Addr} (h1 : PySem.W.subIn K (.ref S) (.type "BaseException") = some true) (h2 : PySem.W.isClsIn K S = true) (h3 : PySem.W.typeIn K (.ref S) = some (.type "type")) (h4 : PySem.W.subIn K (.ref S) (.ref S) = some true) :
    PySem.W.exmOne K (.ref S) (.ref S) = some true := by
  have e1 : (PySem.W.subIn K (.ref S) (.type "BaseException") == some true) = true := by rw [h1] <;> rfl
  have e2 : ((PySem.W.clsIn K S).isSome && PySem.W.typeIn K (.ref S) == some (.type "type")) = true := by
    have h2' : (PySem.W.clsIn K S).isSome = true := h2
    rw [h2', h3] <;> rfl
  show (if (PySem.W.subIn K (.ref S) (.type "BaseException") == some true) = true then (if ((PySem.W.clsIn K S).isSome && PySem.W.typeIn K (.ref S) == some (.type "type")) = true then PySem.W.subIn K (.ref S) (.ref S) else none) else none) = some true
  rw [if_pos e1, if_pos e2]
  exact h4
end Mp
namespace Mp.K07
open PySem PySem.Spec PyProof.Rows L2 Mp
theorem all_mk {w : World} {K : PySem.W.Frag} {h : Heap} {mg : Str → Option Value} {fa0 : Addr} (X : K.In h) (G : h.Ns mainGlobals mg) (hfa : mg "law" = some (.ref fa0))
    {od8 an8 : Option Addr} {sl8 : Array (Option Value)} {oc8 kV8 dc8 pm8 cd8 ct8 : Value} {f8 : Addr} {od7 an7 : Option Addr} {sl7 : Array (Option Value)} {oc7 kV7 dc7 pm7 cd7 ct7 : Value} {f7 : Addr} {od6 an6 : Option Addr} {sl6 : Array (Option Value)} {oc6 kV6 dc6 pm6 cd6 ct6 : Value} {f6 : Addr} {od1 an1 : Option Addr} {sl1 : Array (Option Value)} {oc1 kV1 dc1 pm1 cd1 ct1 : Value} {f1 : Addr} {od9 an9 : Option Addr} {sl9 : Array (Option Value)} {oc9 kV9 dc9 pm9 cd9 ct9 : Value} {f9 : Addr} {od2 an2 : Option Addr} {sl2 : Array (Option Value)} {oc2 kV2 dc2 pm2 cd2 ct2 : Value} {f2 : Addr} {od4 an4 : Option Addr} {sl4 : Array (Option Value)} {oc4 kV4 dc4 pm4 cd4 ct4 : Value} {f4 : Addr} {od5 an5 : Option Addr} {sl5 : Array (Option Value)} {oc5 kV5 dc5 pm5 cd5 ct5 : Value} {f5 : Addr} {od3 an3 : Option Addr} {sl3 : Array (Option Value)} {oc3 kV3 dc3 pm3 cd3 ct3 : Value} {f3 : Addr} {od0 an0 : Option Addr} {sl0 : Array (Option Value)} {oc0 kV0 dc0 pm0 cd0 ct0 : Value} {f0 : Addr} {t_BLANKS : Tok} {t_FIGURES : Tok} {t_LETTERS : Tok} {t_MOST_LETTERS : Tok} {t_SIGNS : Tok} {enm eq : Str} {C FE EN fI cda cc : Addr} {ebs : List Value} {esn : List Str} {esub : List Value} {eab : Bool} {ecol : Option Bool} {edd : Option Addr} {m0 m1 m2 m3 m5 : Option Value} {eod ean ecdd ecld : Option Addr} {eosl eccs ecsl : Array (Option Value)} {eoc edc epm ect eccl ecl : Value} {evs : Array Value} {efile : Str} {etf : Tok} {fnm fq : Str} {FN : Addr} {fbs : List Value} {fsn : List Str} {fsub : List Value} {fab fh : Bool} {fcol : Option Bool} {fdd : Option Addr} {n0 n1 n2 n3 n5 : Option Value} {fni : String}
    (a8 : PySem.W.nsIn K mainGlobals "run_end" = some (some (.ref f8))) (l8 : K.lookup f8 = some ⟨oc8, od8, .func (PySem.W.fnOf "run_end" "run_end" (defArgs s_run_end) (defBody s_run_end) (defScope s_run_end) .none kV8 dc8 pm8 an8 cd8 ct8), sl8⟩) (c8 : PySem.W.codeIn K cd8 "run_end" = true) (k8 : PySem.W.keepIn K (.ref f8) = true)
    (a7 : PySem.W.nsIn K mainGlobals "lexeme_at" = some (some (.ref f7))) (l7 : K.lookup f7 = some ⟨oc7, od7, .func (PySem.W.fnOf "lexeme_at" "lexeme_at" (defArgs s_lexeme_at) (defBody s_lexeme_at) (defScope s_lexeme_at) .none kV7 dc7 pm7 an7 cd7 ct7), sl7⟩) (c7 : PySem.W.codeIn K cd7 "lexeme_at" = true) (k7 : PySem.W.keepIn K (.ref f7) = true)
    (a6 : PySem.W.nsIn K mainGlobals "lexemes" = some (some (.ref f6))) (l6 : K.lookup f6 = some ⟨oc6, od6, .func (PySem.W.fnOf "lexemes" "lexemes" (defArgs s_lexemes) (defBody s_lexemes) (defScope s_lexemes) .none kV6 dc6 pm6 an6 cd6 ct6), sl6⟩) (c6 : PySem.W.codeIn K cd6 "lexemes" = true) (k6 : PySem.W.keepIn K (.ref f6) = true)
    (a1 : PySem.W.nsIn K mainGlobals "_law_source" = some (some (.ref f1))) (l1 : K.lookup f1 = some ⟨oc1, od1, .func (PySem.W.fnOf "_law_source" "_law_source" (defArgs s__law_source) (defBody s__law_source) (defScope s__law_source) .none kV1 dc1 pm1 an1 cd1 ct1), sl1⟩) (c1 : PySem.W.codeIn K cd1 "_law_source" = true) (k1 : PySem.W.keepIn K (.ref f1) = true)
    (a9 : PySem.W.nsIn K mainGlobals "_law_pick" = some (some (.ref f9))) (l9 : K.lookup f9 = some ⟨oc9, od9, .func (PySem.W.fnOf "_law_pick" "_law_pick" (defArgs s__law_pick) (defBody s__law_pick) (defScope s__law_pick) .none kV9 dc9 pm9 an9 cd9 ct9), sl9⟩) (c9 : PySem.W.codeIn K cd9 "_law_pick" = true) (k9 : PySem.W.keepIn K (.ref f9) = true)
    (a2 : PySem.W.nsIn K mainGlobals "_law_of" = some (some (.ref f2))) (l2 : K.lookup f2 = some ⟨oc2, od2, .func (PySem.W.fnOf "_law_of" "_law_of" (defArgs s__law_of) (defBody s__law_of) (defScope s__law_of) .none kV2 dc2 pm2 an2 cd2 ct2), sl2⟩) (c2 : PySem.W.codeIn K cd2 "_law_of" = true) (k2 : PySem.W.keepIn K (.ref f2) = true)
    (a4 : PySem.W.nsIn K mainGlobals "_law_read" = some (some (.ref f4))) (l4 : K.lookup f4 = some ⟨oc4, od4, .func (PySem.W.fnOf "_law_read" "_law_read" (defArgs s__law_read) (defBody s__law_read) (defScope s__law_read) .none kV4 dc4 pm4 an4 cd4 ct4), sl4⟩) (c4 : PySem.W.codeIn K cd4 "_law_read" = true) (k4 : PySem.W.keepIn K (.ref f4) = true)
    (a5 : PySem.W.nsIn K mainGlobals "_law_told" = some (some (.ref f5))) (l5 : K.lookup f5 = some ⟨oc5, od5, .func (PySem.W.fnOf "_law_told" "_law_told" (defArgs s__law_told) (defBody s__law_told) (defScope s__law_told) .none kV5 dc5 pm5 an5 cd5 ct5), sl5⟩) (c5 : PySem.W.codeIn K cd5 "_law_told" = true) (k5 : PySem.W.keepIn K (.ref f5) = true)
    (a3 : PySem.W.nsIn K mainGlobals "_law_piece" = some (some (.ref f3))) (l3 : K.lookup f3 = some ⟨oc3, od3, .func (PySem.W.fnOf "_law_piece" "_law_piece" (defArgs s__law_piece) (defBody s__law_piece) (defScope s__law_piece) .none kV3 dc3 pm3 an3 cd3 ct3), sl3⟩) (c3 : PySem.W.codeIn K cd3 "_law_piece" = true) (k3 : PySem.W.keepIn K (.ref f3) = true)
    (a0 : PySem.W.nsIn K mainGlobals "law" = some (some (.ref f0))) (l0 : K.lookup f0 = some ⟨oc0, od0, .func (PySem.W.fnOf "law" "law" (defArgs s_law) (defBody s_law) (defScope s_law) .none kV0 dc0 pm0 an0 cd0 ct0), sl0⟩) (c0 : PySem.W.codeIn K cd0 "law" = true) (k0 : PySem.W.keepIn K (.ref f0) = true)
    (z_abs : PySem.W.nsIn K mainGlobals "abs" = some none)
    (z_int : PySem.W.nsIn K mainGlobals "int" = some none)
    (z_len : PySem.W.nsIn K mainGlobals "len" = some none)
    (z_list : PySem.W.nsIn K mainGlobals "list" = some none)
    (z_max : PySem.W.nsIn K mainGlobals "max" = some none)
    (z_range : PySem.W.nsIn K mainGlobals "range" = some none)
    (z_repr : PySem.W.nsIn K mainGlobals "repr" = some none)
    (q_BLANKS : PySem.W.nsIn K mainGlobals "BLANKS" = some (some (.str " \n" t_BLANKS)))
    (q_FIGURES : PySem.W.nsIn K mainGlobals "FIGURES" = some (some (.str "0123456789" t_FIGURES)))
    (q_LETTERS : PySem.W.nsIn K mainGlobals "LETTERS" = some (some (.str "abcdefghijklmnopqrstuvwxyz" t_LETTERS)))
    (q_MOST_LETTERS : PySem.W.nsIn K mainGlobals "MOST_LETTERS" = some (some (.int 12 t_MOST_LETTERS)))
    (q_SIGNS : PySem.W.nsIn K mainGlobals "SIGNS" = some (some (.str "{};-" t_SIGNS)))
    (xs : PySem.W.nsIn K mainGlobals "super" = some none) (xC : PySem.W.nsIn K mainGlobals "BadText" = some (some (.ref C))) (xL : K.lookup C = some (excClassObj enm eq C EN ebs [.ref FE, .type "ValueError", .type "Exception", .type "BaseException", .type "object"] true esn esub eab ecol edd m0 m1 m2 m3 m5 "ValueError.__new__"))
    (xsa : PySem.W.findIn K (.ref C) "__setattr__" = some (some (.builtin "object.__setattr__"))) (xga : PySem.W.findIn K (.ref C) "__getattribute__" = some (some (.builtin "BaseException.__getattribute__"))) (xgg : PySem.W.findIn K (.ref C) "__getattr__" = some none) (xnb : PySem.W.findIn K (.ref C) "place" = some none)
    (xi : PySem.W.findIn K (.ref C) "__init__" = some (some (.ref fI))) (xt : PySem.W.typeIn K (.ref fI) = some (.type "function"))
    (xl : K.lookup fI = some ⟨eoc, eod, .func (PySem.W.ksFn "__init__" "BadText.__init__" Ex.iA Ex.iB Ex.iS .none .none edc epm ean (.ref cda) ect cc), eosl⟩) (xc : PySem.W.codeIn K (.ref cda) "BadText.__init__" = true) (xd : K.lookup cda = some ⟨eccl, ecdd, .fields evs, eccs⟩) (xv : evs[2]? = some (.str efile etf)) (xf : ((PySem.Challenge.pw_heightfloors_k07_lexemes_and_wrong_place.main.file : Str) == efile) = true) (xe : K.lookup cc = some ⟨ecl, ecld, .cell (some (.ref C)), ecsl⟩)
    (xkC : PySem.W.keepIn K (.ref C) = true) (xeC : PySem.W.subIn K (.ref C) (.type "BaseException") = some true) (xvC : PySem.W.subIn K (.ref C) (.type "ValueError") = some true) (xtC : PySem.W.typeIn K (.ref C) = some (.type "type")) (xhC : PySem.W.hasDictIn K C = true) (xiC : PySem.W.isClsIn K C = true) (xsC : PySem.W.subIn K (.ref C) (.ref C) = some true) (xup : PySem.W.mroIn K C (.ref C) = some true) (xLF : K.lookup FE = some (excClassObj fnm fq FE FN fbs [.type "ValueError", .type "Exception", .type "BaseException", .type "object"] fh fsn fsub fab fcol fdd n0 n1 n2 n3 n5 fni)) (xsF : PySem.W.findIn K (.ref FE) "__init__" = some (some (.builtin "ValueError.__init__"))) (xtp : PySem.W.nsIn K cStatics "thirdparty.any" = some none) :
    ∃ (fd : FuncData) (P : Pm), P.kS = kSof K ∧ (∀ (s : Shared) (u : Value), BindsTo s fd ⟨[u], []⟩ [("script", u)]) ∧ ∀ base : Heap, K.In base → base.Ns mainGlobals mg → (∃ o, base.get? sysModules = some o) → FnOkG PySem.Challenge.pw_heightfloors_k07_lexemes_and_wrong_place w K mg base LV fa0 fd ["script"] (spD P T LV 0) := by
  have e := hfa.symm.trans (PySem.W.mg_of X G a0)
  cases e
  let cl : Nat → Addr := fun _ => C
  let ci : Nat → Addr := fun _ => fI
  let fa : Nat → Addr := fun i => match i with | 8 => f8 | 7 => f7 | 6 => f6 | 1 => f1 | 9 => f9 | 2 => f2 | 4 => f4 | 5 => f5 | 3 => f3 | 0 => fa0 | _ => 0
  let fd : Nat → FuncData := fun i => match i with | 8 => PySem.W.fnOf "run_end" "run_end" (defArgs s_run_end) (defBody s_run_end) (defScope s_run_end) .none kV8 dc8 pm8 an8 cd8 ct8 | 7 => PySem.W.fnOf "lexeme_at" "lexeme_at" (defArgs s_lexeme_at) (defBody s_lexeme_at) (defScope s_lexeme_at) .none kV7 dc7 pm7 an7 cd7 ct7 | 6 => PySem.W.fnOf "lexemes" "lexemes" (defArgs s_lexemes) (defBody s_lexemes) (defScope s_lexemes) .none kV6 dc6 pm6 an6 cd6 ct6 | 1 => PySem.W.fnOf "_law_source" "_law_source" (defArgs s__law_source) (defBody s__law_source) (defScope s__law_source) .none kV1 dc1 pm1 an1 cd1 ct1 | 9 => PySem.W.fnOf "_law_pick" "_law_pick" (defArgs s__law_pick) (defBody s__law_pick) (defScope s__law_pick) .none kV9 dc9 pm9 an9 cd9 ct9 | 2 => PySem.W.fnOf "_law_of" "_law_of" (defArgs s__law_of) (defBody s__law_of) (defScope s__law_of) .none kV2 dc2 pm2 an2 cd2 ct2 | 4 => PySem.W.fnOf "_law_read" "_law_read" (defArgs s__law_read) (defBody s__law_read) (defScope s__law_read) .none kV4 dc4 pm4 an4 cd4 ct4 | 5 => PySem.W.fnOf "_law_told" "_law_told" (defArgs s__law_told) (defBody s__law_told) (defScope s__law_told) .none kV5 dc5 pm5 an5 cd5 ct5 | 3 => PySem.W.fnOf "_law_piece" "_law_piece" (defArgs s__law_piece) (defBody s__law_piece) (defScope s__law_piece) .none kV3 dc3 pm3 an3 cd3 ct3 | 0 => PySem.W.fnOf "law" "law" (defArgs s_law) (defBody s_law) (defScope s_law) .none kV0 dc0 pm0 an0 cd0 ct0 | _ => PySem.W.fnOf "law" "law" (defArgs s_law) (defBody s_law) (defScope s_law) .none kV0 dc0 pm0 an0 cd0 ct0
  let P : Pm := ⟨fun i => some (fa i), fun c => some (cl c), kSof K⟩
  have tx : Tx PySem.Challenge.pw_heightfloors_k07_lexemes_and_wrong_place K mg fa fd cl ci :=
    { F_run_end := fun_mk (st := s_run_end) l8 c8 k8,
      g_run_end := PySem.W.mg_of X G a8,
      F_lexeme_at := fun_mk (st := s_lexeme_at) l7 c7 k7,
      g_lexeme_at := PySem.W.mg_of X G a7,
      F_lexemes := fun_mk (st := s_lexemes) l6 c6 k6,
      g_lexemes := PySem.W.mg_of X G a6,
      F__law_source := fun_mk (st := s__law_source) l1 c1 k1,
      g__law_source := PySem.W.mg_of X G a1,
      F__law_pick := fun_mk (st := s__law_pick) l9 c9 k9,
      g__law_pick := PySem.W.mg_of X G a9,
      F__law_of := fun_mk (st := s__law_of) l2 c2 k2,
      g__law_of := PySem.W.mg_of X G a2,
      F__law_read := fun_mk (st := s__law_read) l4 c4 k4,
      g__law_read := PySem.W.mg_of X G a4,
      F__law_told := fun_mk (st := s__law_told) l5 c5 k5,
      g__law_told := PySem.W.mg_of X G a5,
      F__law_piece := fun_mk (st := s__law_piece) l3 c3 k3,
      g__law_piece := PySem.W.mg_of X G a3,
      F_law := fun_mk (st := s_law) l0 c0 k0,
      g_law := PySem.W.mg_of X G a0,
      n_abs := PySem.W.mg_none_of X G z_abs,
      n_int := PySem.W.mg_none_of X G z_int,
      n_len := PySem.W.mg_none_of X G z_len,
      n_list := PySem.W.mg_none_of X G z_list,
      n_max := PySem.W.mg_none_of X G z_max,
      n_range := PySem.W.mg_none_of X G z_range,
      n_repr := PySem.W.mg_none_of X G z_repr,
      c_BLANKS := ⟨_, PySem.W.mg_of X G q_BLANKS⟩,
      c_FIGURES := ⟨_, PySem.W.mg_of X G q_FIGURES⟩,
      c_LETTERS := ⟨_, PySem.W.mg_of X G q_LETTERS⟩,
      c_MOST_LETTERS := ⟨_, PySem.W.mg_of X G q_MOST_LETTERS⟩,
      c_SIGNS := ⟨_, PySem.W.mg_of X G q_SIGNS⟩,
      top := by rfl,
      x_BadText := { gC := PySem.W.mg_of X G xC, nS := PySem.W.mg_none_of X G xs, cls := ⟨enm, eq, EN, ebs, _, esn, esub, eab, ecol, edd, m0, m1, m2, m3, m5, xL, rfl⟩, sa := xsa, ga := xga, gg := xgg, noN := xnb, iC := xi, tC := xt, kC := xkC, exC := xeC, veC := xvC, tyC := xtC, hdC := xhC, te := exm_self xeC xiC xtC xsC, up := xup, su := Ex.su_of xL xLF xsF, tp := xtp, fn := ⟨_, _, _, _, _, _, _, _, _, xl, xc, ⟨_, _, _, _, _, _, xd, xv, xf⟩, _, _, _, xe⟩ } }
  refine ⟨fd 0, P, rfl, fun s u => .of_eq rfl, fun base _ _ hb => ?_⟩
  exact (tab tx ⟨rfl, fun _ => rfl⟩ hb LV).i_law
end Mp.K07
end
section
set_option Elab.async false
set_option linter.all false
set_option maxRecDepth 100000
set_option autoImplicit false
set_option maxHeartbeats 0
open PySem PySem.W PyProof.Rows
set_option maxRecDepth 100000 in
set_option maxHeartbeats 0 in
theorem PySem.Challenge.cw_heightfloors_k07_lexemes_and_wrong_place_holds : PySem.Challenge.rw_heightfloors_k07_lexemes_and_wrong_place.Holds := by
  w_on; o_law; k_head; (case hw => w_witness2)
  k_fill
  refine Mp.walk_ofG (l := PySem.Challenge.rw_heightfloors_k07_lexemes_and_wrong_place) (n := 63) (k := Mp.K07.LV) (x := "script") (T := Mp.K07.T) (i := 0) rfl (by decide) rfl ⟨rfl, by decide, by decide⟩ (by first | rfl | decide +kernel | kernel_rfl) (fun w h Y => PySem.W.kIn_of Y) ?F ?L
  case F =>
    intro w mg fa h KX G hmg
    refine' Mp.K07.all_mk KX G hmg ?a8 ?l8 ?c8 ?k8 ?a7 ?l7 ?c7 ?k7 ?a6 ?l6 ?c6 ?k6 ?a1 ?l1 ?c1 ?k1 ?a9 ?l9 ?c9 ?k9 ?a2 ?l2 ?c2 ?k2 ?a4 ?l4 ?c4 ?k4 ?a5 ?l5 ?c5 ?k5 ?a3 ?l3 ?c3 ?k3 ?a0 ?l0 ?c0 ?k0 ?z_abs ?z_int ?z_len ?z_list ?z_max ?z_range ?z_repr ?q_BLANKS ?q_FIGURES ?q_LETTERS ?q_MOST_LETTERS ?q_SIGNS ?xs ?xC ?xL ?xsa ?xga ?xgg ?xnb ?xi ?xt ?xl ?xc ?xd ?xv ?xf ?xe ?xkC ?xeC ?xvC ?xtC ?xhC ?xiC ?xsC ?xup ?xLF ?xsF ?xtp
    (case a8 => k_is)
    (case l8 => k_is)
    (case c8 => k_is)
    (case k8 => k_is)
    (case a7 => k_is)
    (case l7 => k_is)
    (case c7 => k_is)
    (case k7 => k_is)
    (case a6 => k_is)
    (case l6 => k_is)
    (case c6 => k_is)
    (case k6 => k_is)
    (case a1 => k_is)
    (case l1 => k_is)
    (case c1 => k_is)
    (case k1 => k_is)
    (case a9 => k_is)
    (case l9 => k_is)
    (case c9 => k_is)
    (case k9 => k_is)
    (case a2 => k_is)
    (case l2 => k_is)
    (case c2 => k_is)
    (case k2 => k_is)
    (case a4 => k_is)
    (case l4 => k_is)
    (case c4 => k_is)
    (case k4 => k_is)
    (case a5 => k_is)
    (case l5 => k_is)
    (case c5 => k_is)
    (case k5 => k_is)
    (case a3 => k_is)
    (case l3 => k_is)
    (case c3 => k_is)
    (case k3 => k_is)
    (case a0 => k_is)
    (case l0 => k_is)
    (case c0 => k_is)
    (case k0 => k_is)
    (case z_abs => k_is)
    (case z_int => k_is)
    (case z_len => k_is)
    (case z_list => k_is)
    (case z_max => k_is)
    (case z_range => k_is)
    (case z_repr => k_is)
    (case q_BLANKS => k_is)
    (case q_FIGURES => k_is)
    (case q_LETTERS => k_is)
    (case q_MOST_LETTERS => k_is)
    (case q_SIGNS => k_is)
    (case xs => k_is)
    (case xC => k_is)
    (case xL => k_is)
    (case xsa => k_is)
    (case xga => k_is)
    (case xgg => k_is)
    (case xnb => k_is)
    (case xi => k_is)
    (case xt => k_is)
    (case xl => k_is)
    (case xc => k_is)
    (case xd => k_is)
    (case xv => first | rfl | k_is)
    (case xf => first | rfl | k_is)
    (case xe => k_is)
    (case xkC => k_is)
    (case xeC => k_is)
    (case xvC => k_is)
    (case xtC => k_is)
    (case xhC => k_is)
    (case xiC => k_is)
    (case xsC => first | rfl | k_is)
    (case xup => first | rfl | k_is)
    (case xLF => k_is)
    (case xsF => k_is)
    (case xtp => k_is)
  case L =>
    exact Mp.K07.law_true
end
