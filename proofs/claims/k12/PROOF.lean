import PyProof.Rows.All
import Wide.All
import OpenK.AllK
import HandS.ForExc
import HandS.ForMost
import HandS.IsInst
import HandS.NoneIn
import HandS.Rev
import HandS.RevRange
import HandS.TryOnly
import HandS.TupAny
import HandS.TupLe
import HandS.Zip
import KE.DataEq
import KE.KxText
import Wide.FinOn
import PySem.Challenge.RW_paperreader_k12_names_and_rows
set_option Elab.async false
set_option linter.all false
set_option maxRecDepth 100000
set_option maxHeartbeats 4000000
namespace VI
open PySem PySem.Spec PyProof.Rows L2
inductive D where
  | non | bl (b : Bool) | int (i : Int) | str (x : Str) | ty (n : String) | cl (c : String) | ref (n : Nat)
  | tup (ds : List D) | lst (ds : List D) | dic (kvs : List (D × D)) | obj (c : String) (fs : List (Str × D))
mutual
def D.beq : D → D → Bool
  | .non, .non => true
  | .bl a, .bl b => decide (a = b)
  | .int a, .int b => decide (a = b)
  | .str a, .str b => decide (a = b)
  | .ty a, .ty b => decide (a = b)
  | .cl a, .cl b => decide (a = b)
  | .ref a, .ref b => decide (a = b)
  | .tup a, .tup b => D.beqs a b
  | .lst a, .lst b => D.beqs a b
  | .dic a, .dic b => D.beqK a b
  | .obj c a, .obj d b => decide (c = d) && D.beqF a b
  | _, _ => false
def D.beqs : List D → List D → Bool
  | [], [] => true
  | a :: r, b :: q => D.beq a b && D.beqs r q
  | _, _ => false
def D.beqK : List (D × D) → List (D × D) → Bool
  | [], [] => true
  | (a, x) :: r, (b, y) :: q => (D.beq a b && D.beq x y) && D.beqK r q
  | _, _ => false
def D.beqF : List (Str × D) → List (Str × D) → Bool
  | [], [] => true
  | (a, x) :: r, (b, y) :: q => (decide (a = b) && D.beq x y) && D.beqF r q
  | _, _ => false
end
mutual
theorem D.beq_refl : ∀ a : D, D.beq a a = true
  | .non => by simp [D.beq]
  | .bl a => by simp [D.beq]
  | .int a => by simp [D.beq]
  | .str a => by simp [D.beq]
  | .ty a => by simp [D.beq]
  | .cl a => by simp [D.beq]
  | .ref a => by simp [D.beq]
  | .tup a => by simp only [D.beq]; exact D.beqs_refl a
  | .lst a => by simp only [D.beq]; exact D.beqs_refl a
  | .dic a => by simp only [D.beq]; exact D.beqK_refl a
  | .obj c a => by simp only [D.beq, decide_true, Bool.true_and]; exact D.beqF_refl a
theorem D.beqs_refl : ∀ a : List D, D.beqs a a = true
  | [] => by simp [D.beqs]
  | a :: r => by simp only [D.beqs, D.beq_refl a, D.beqs_refl r, Bool.and_self]
theorem D.beqK_refl : ∀ a : List (D × D), D.beqK a a = true
  | [] => by simp [D.beqK]
  | (a, x) :: r => by simp only [D.beqK, D.beq_refl a, D.beq_refl x, D.beqK_refl r, Bool.and_self]
theorem D.beqF_refl : ∀ a : List (Str × D), D.beqF a a = true
  | [] => by simp [D.beqF]
  | (a, x) :: r => by simp only [D.beqF, D.beq_refl x, D.beqF_refl r, decide_true, Bool.and_self]
end
mutual
theorem D.beq_eq : ∀ a b : D, D.beq a b = true → a = b
  | .non, b, h => by cases b <;> first | rfl | simp [D.beq] at h
  | .bl a, b, h => by cases b <;> simp [D.beq] at h <;> rw [h]
  | .int a, b, h => by cases b <;> simp [D.beq] at h <;> rw [h]
  | .str a, b, h => by cases b <;> simp [D.beq] at h <;> rw [h]
  | .ty a, b, h => by cases b <;> simp [D.beq] at h <;> rw [h]
  | .cl a, b, h => by cases b <;> simp [D.beq] at h <;> rw [h]
  | .ref a, b, h => by cases b <;> simp [D.beq] at h <;> rw [h]
  | .tup a, b, h => by cases b <;> simp [D.beq] at h; rw [D.beqs_eq a _ h]
  | .lst a, b, h => by cases b <;> simp [D.beq] at h; rw [D.beqs_eq a _ h]
  | .dic a, b, h => by cases b <;> simp [D.beq] at h; rw [D.beqK_eq a _ h]
  | .obj c a, b, h => by cases b <;> simp [D.beq] at h; rw [h.1, D.beqF_eq a _ h.2]
theorem D.beqs_eq : ∀ a b : List D, D.beqs a b = true → a = b
  | [], b, h => by cases b <;> first | rfl | simp [D.beqs] at h
  | a :: r, b, h => by
    cases b with
    | nil => simp [D.beqs] at h
    | cons b q =>
      simp [D.beqs] at h
      rw [D.beq_eq a b h.1, D.beqs_eq r q h.2]
theorem D.beqK_eq : ∀ a b : List (D × D), D.beqK a b = true → a = b
  | [], b, h => by cases b <;> first | rfl | simp [D.beqK] at h
  | (a, x) :: r, b, h => by
    cases b with
    | nil => simp [D.beqK] at h
    | cons b q =>
      obtain ⟨b, y⟩ := b
      simp [D.beqK] at h
      rw [D.beq_eq a b h.1.1, D.beq_eq x y h.1.2, D.beqK_eq r q h.2]
theorem D.beqF_eq : ∀ a b : List (Str × D), D.beqF a b = true → a = b
  | [], b, h => by cases b <;> first | rfl | simp [D.beqF] at h
  | (a, x) :: r, b, h => by
    cases b with
    | nil => simp [D.beqF] at h
    | cons b q =>
      obtain ⟨b, y⟩ := b
      simp [D.beqF] at h
      rw [h.1.1, D.beq_eq x y h.1.2, D.beqF_eq r q h.2]
end
instance : DecidableEq D := fun a b => if h : D.beq a b = true then isTrue (D.beq_eq a b h) else isFalse fun e => h (e ▸ D.beq_refl a)

abbrev Store := List (Option D)
abbrev DEnv := List (Option D)
/-- what an expression comes to: a value, or a new container that nobody else holds -/
inductive Wv where
  | val (d : D) | new (d : D)
def Wv.d : Wv → D
  | .val d => d
  | .new d => d
structure EX where
  cls : String
  row : Option D
inductive Res (α : Type) where
  | ok (a : α) (st : Store) | exc (x : EX) (st : Store) | stuck
def Res.bind {α β : Type} (r : Res α) (k : α → Store → Res β) : Res β :=
  match r with
  | .ok a st => k a st
  | .exc x st => .exc x st
  | .stuck => .stuck

/-- what the program's text has: the written part, the classes by name -/
structure Gx where
  K : PySem.W.Frag
  cm : String → Option Addr

def Live (as : List Addr) (st : Store) (p : Addr) : Prop := ∃ (i : Nat) (d : D), as[i]? = some p ∧ st[i]? = some (some d)
def notMut : HO → Bool
  | .tup _ => true
  | .frz _ _ => true
  | .own _ => true
  | .met _ _ => true
  | .rng _ _ => true
  | .tbl _ => true
  | _ => false
def KLst (K : PySem.W.Frag) (p : Addr) (vs : List V) : Prop :=
  ∃ (o : Obj) (its : Array Value) (n : Nat), K.lookup p = some o ∧ o.cls = .type "list" ∧ o.dict = none ∧ o.data = .seq its n ∧ its.size ≤ sizeLine ∧ Vals vs its.toList

mutual
inductive RelD (G : Gx) (as : List Addr) (L : Addr → Prop) (H : Hp) : D → V → Prop where
  | non : RelD G as L H .non .non
  | bl (b : Bool) : RelD G as L H (.bl b) (.bl b)
  | int (i : Int) : RelD G as L H (.int i) (.int i)
  | str (x : Str) : RelD G as L H (.str x) (.str x)
  | ty (n : String) : RelD G as L H (.ty n) (.ty n)
  | cl {c : String} {a : Addr} : G.cm c = some a → RelD G as L H (.cl c) (.ref a)
  | ref {n : Nat} {a : Addr} : as[n]? = some a → RelD G as L H (.ref n) (.ref a)
  | tup {ds : List D} {p : Addr} {vs : List V} : SqT G.K H p vs → RelDs G as L H ds vs → RelD G as L H (.tup ds) (.ref p)
  | lst {ds : List D} {p : Addr} {vs : List V} : Rd H p (.lst vs) → ¬ L p → RelDs G as L H ds vs → RelD G as L H (.lst ds) (.ref p)
  | lstK {ds : List D} {p : Addr} {vs : List V} : KLst G.K p vs → RelDs G as L H ds vs → RelD G as L H (.lst ds) (.ref p)
  | dic0 {p : Addr} : H p = some (.dK []) → ¬ L p → RelD G as L H (.dic []) (.ref p)
  | obj {c : String} {C p dx : Addr} {fs : List (Str × D)} {vfs : List (Str × V)} : G.cm c = some C → H p = some (.ins C dx vfs) → H dx = some (.own p) → ¬ L p → RelFs G as L H fs vfs → RelD G as L H (.obj c fs) (.ref p)
inductive RelDs (G : Gx) (as : List Addr) (L : Addr → Prop) (H : Hp) : List D → List V → Prop where
  | nil : RelDs G as L H [] []
  | cons {d : D} {v : V} {ds : List D} {vs : List V} : RelD G as L H d v → RelDs G as L H ds vs → RelDs G as L H (d :: ds) (v :: vs)
inductive RelFs (G : Gx) (as : List Addr) (L : Addr → Prop) (H : Hp) : List (Str × D) → List (Str × V) → Prop where
  | nil : RelFs G as L H [] []
  | cons {f : Str} {d : D} {v : V} {fs : List (Str × D)} {vs : List (Str × V)} : RelD G as L H d v → RelFs G as L H fs vs → RelFs G as L H ((f, d) :: fs) ((f, v) :: vs)
end

structure Ext (as : List Addr) (st : Store) (H : Hp) (as' : List Addr) (st' : Store) (H' : Hp) : Prop where
  pre : as <+: as'
  new : ∀ (i : Nat) (a : Addr), as'[i]? = some a → as.length ≤ i → H a = none
  dead : ∀ i : Nat, st[i]? = some none → st'[i]? = some none
  len : st.length ≤ st'.length
  keep : ∀ b o, H b = some o → (¬ Live as st b ∨ notMut o = true) → H' b = some o
  there : ∀ b o, H b = some o → ∃ o', H' b = some o'

section
variable {G : Gx} {as as' as2 : List Addr} {st st' st2 : Store} {H H' H2 : Hp} {L L' : Addr → Prop}
theorem pre_get {i : Nat} {a : Addr} (h : as <+: as') (e : as[i]? = some a) : as'[i]? = some a := by
  obtain ⟨m, rfl⟩ := h
  obtain ⟨hi, _⟩ := List.getElem?_eq_some_iff.mp e
  rw [List.getElem?_append_left hi]; exact e
theorem Ext.back (e : Ext as st H as' st' H') (hl : as.length = st.length) {b : Addr} (hb : Live as' st' b) (hH : H b ≠ none) : Live as st b := by
  obtain ⟨i, d, h1, h2⟩ := hb
  by_cases hi : as.length ≤ i
  · exact absurd (e.new i b h1 hi) hH
  · have hi' : i < as.length := by omega
    obtain ⟨m, rfl⟩ := e.pre
    rw [List.getElem?_append_left hi'] at h1
    cases q : st[i]? with
    | none =>
      have := List.getElem?_eq_none_iff.mp q
      omega
    | some x =>
      cases x with
      | none =>
        rw [e.dead i q] at h2
        cases h2
      | some x => exact ⟨i, x, h1, q⟩
theorem Ext.rfl' : Ext as st H as st H := by
  refine ⟨List.prefix_refl _, fun i a h hi => ?_, fun _ h => h, Nat.le_refl _, fun _ _ h _ => h, fun _ o h => ⟨o, h⟩⟩
  rw [List.getElem?_eq_none_iff.mpr hi] at h
  cases h
theorem Ext.fresh (e : Ext as st H as' st' H') {p : Addr} (h : H' p = none) : H p = none := by
  cases q : H p with
  | none => rfl
  | some o =>
    obtain ⟨o', h'⟩ := e.there p o q
    rw [h] at h'; cases h'
theorem Ext.trans (a : Ext as st H as' st' H') (b : Ext as' st' H' as2 st2 H2) (hl : as.length = st.length) : Ext as st H as2 st2 H2 := by
  refine ⟨a.pre.trans b.pre, fun i x h hi => ?_, fun i h => b.dead i (a.dead i h), Nat.le_trans a.len b.len, fun c o h k => ?_, fun c o h => ?_⟩
  · by_cases h1 : as'.length ≤ i
    · exact a.fresh (b.new i x h h1)
    · obtain ⟨m, rfl⟩ := b.pre
      rw [List.getElem?_append_left (by omega)] at h
      exact a.new i x h hi
  · refine b.keep c o (a.keep c o h k) ?_
    rcases k with k | k
    · exact .inl fun z => k (a.back hl z (by rw [h]; exact fun q => nomatch q))
    · exact .inr k
  · obtain ⟨o1, h1⟩ := a.there c o h
    exact b.there c o1 h1

theorem sqT_mono {K : PySem.W.Frag} {p : Addr} {vs : List V} (hk : ∀ b o, H b = some o → (¬ L b ∨ notMut o = true) → H' b = some o) (h : SqT K H p vs) : SqT K H' p vs := by
  rcases h with (h | ⟨o, h⟩) | h
  · exact .inl (.inl (hk _ _ h (.inr rfl)))
  · exact .inl (.inr ⟨o, hk _ _ h (.inr rfl)⟩)
  · exact .inr h
mutual
theorem RelD.mono (hp : as <+: as') (hL : ∀ b, H b ≠ none → ¬ L b → ¬ L' b) (hk : ∀ b o, H b = some o → (¬ L b ∨ notMut o = true) → H' b = some o) : ∀ {d : D} {v : V}, RelD G as L H d v → RelD G as' L' H' d v
  | _, _, .non => .non
  | _, _, .bl b => .bl b
  | _, _, .int i => .int i
  | _, _, .str x => .str x
  | _, _, .ty n => .ty n
  | _, _, .cl h => .cl h
  | _, _, .ref h => .ref (pre_get hp h)
  | _, _, .tup h r => .tup (sqT_mono (L := L) hk h) (RelDs.mono hp hL hk r)
  | _, _, .lst h n r => .lst (by
      rcases h with h | ⟨o, h⟩
      · exact .inl (hk _ _ h (.inl n))
      · exact .inr ⟨o, hk _ _ h (.inr rfl)⟩) (hL _ (by
      rcases h with h | ⟨o, h⟩ <;> rw [h] <;> exact fun q => nomatch q) n) (RelDs.mono hp hL hk r)
  | _, _, .lstK h r => .lstK h (RelDs.mono hp hL hk r)
  | _, _, .dic0 h n => .dic0 (hk _ _ h (.inl n)) (hL _ (by rw [h]; exact fun q => nomatch q) n)
  | _, _, .obj c h1 h2 n r => .obj c (hk _ _ h1 (.inl n)) (hk _ _ h2 (.inr rfl)) (hL _ (by rw [h1]; exact fun q => nomatch q) n) (RelFs.mono hp hL hk r)
theorem RelDs.mono (hp : as <+: as') (hL : ∀ b, H b ≠ none → ¬ L b → ¬ L' b) (hk : ∀ b o, H b = some o → (¬ L b ∨ notMut o = true) → H' b = some o) : ∀ {ds : List D} {vs : List V}, RelDs G as L H ds vs → RelDs G as' L' H' ds vs
  | _, _, .nil => .nil
  | _, _, .cons r t => .cons (RelD.mono hp hL hk r) (RelDs.mono hp hL hk t)
theorem RelFs.mono (hp : as <+: as') (hL : ∀ b, H b ≠ none → ¬ L b → ¬ L' b) (hk : ∀ b o, H b = some o → (¬ L b ∨ notMut o = true) → H' b = some o) : ∀ {ds : List (Str × D)} {vs : List (Str × V)}, RelFs G as L H ds vs → RelFs G as' L' H' ds vs
  | _, _, .nil => .nil
  | _, _, .cons r t => .cons (RelD.mono hp hL hk r) (RelFs.mono hp hL hk t)
end
end

/-- a container at an address, with its content -/
def CellR (G : Gx) (as : List Addr) (L : Addr → Prop) (H : Hp) (a : Addr) : D → Prop
  | .lst ds => ∃ vs, H a = some (.lst vs) ∧ RelDs G as L H ds vs
  | .dic [] => H a = some (.dK [])
  | .obj c fs => ∃ C dx vfs, G.cm c = some C ∧ H a = some (.ins C dx vfs) ∧ H dx = some (.own a) ∧ RelFs G as L H fs vfs
  | _ => False
structure StRL (G : Gx) (as : List Addr) (L : Addr → Prop) (st : Store) (H : Hp) : Prop where
  len : as.length = st.length
  nd : as.Nodup
  cells : ∀ (i : Nat) (d : D), st[i]? = some (some d) → ∃ a, as[i]? = some a ∧ CellR G as L H a d
  there : ∀ (i : Nat) (a : Addr), as[i]? = some a → H a ≠ none
abbrev StR (G : Gx) (as : List Addr) (st : Store) (H : Hp) : Prop := StRL G as (Live as st) st H
/-- H0: ahead of it; a new one is held by nobody -/
def RelW (G : Gx) (H0 : Hp) (as : List Addr) (st : Store) (H : Hp) : Wv → V → Prop
  | .val d, v => RelD G as (Live as st) H d v
  | .new d, v => ∃ p, v = .ref p ∧ H0 p = none ∧ (∀ i : Nat, as[i]? ≠ some p) ∧ CellR G as (fun b => Live as st b ∨ b = p) H p d ∧ StRL G as (fun b => Live as st b ∨ b = p) st H
def EnvR (G : Gx) (as : List Addr) (L : Addr → Prop) (H : Hp) (env : DEnv) (σ : L2.St) : Prop :=
  env.length = σ.length ∧ ∀ (i : Nat) (d : D), env[i]? = some (some d) → ∃ v, σ[i]? = some (some v) ∧ RelD G as L H d v
section
variable {G : Gx} {as as' as2 : List Addr} {st st' st2 : Store} {H H' H2 H0 : Hp} {L L' : Addr → Prop}
theorem CellR.there {a : Addr} {d : D} (h : CellR G as L H a d) : H a ≠ none := by
  cases d with
  | lst ds => obtain ⟨vs, e, _⟩ := h; rw [e]; exact fun q => nomatch q
  | dic kvs =>
    cases kvs with
    | nil =>
      have h : H a = some (.dK []) := h
      rw [h]; exact fun q => nomatch q
    | cons _ _ => exact False.elim h
  | obj c fs => obtain ⟨C, dx, vfs, _, e, _⟩ := h; rw [e]; exact fun q => nomatch q
  | _ => exact False.elim h
theorem CellR.isMut {a : Addr} {d : D} (h : CellR G as L H a d) : ∃ o, H a = some o ∧ notMut o = false := by
  cases d with
  | lst ds => obtain ⟨vs, e, _⟩ := h; exact ⟨_, e, rfl⟩
  | dic kvs =>
    cases kvs with
    | nil => exact ⟨_, h, rfl⟩
    | cons _ _ => exact False.elim h
  | obj c fs => obtain ⟨C, dx, vfs, _, e, _⟩ := h; exact ⟨_, e, rfl⟩
  | _ => exact False.elim h
theorem CellR.mono {a : Addr} {d : D} (hp : as <+: as') (hL : ∀ b, H b ≠ none → ¬ L b → ¬ L' b) (hk : ∀ b o, H b = some o → (¬ L b ∨ notMut o = true) → H' b = some o) (ha : H' a = H a) (h : CellR G as L H a d) : CellR G as' L' H' a d := by
  cases d with
  | lst ds => obtain ⟨vs, e, r⟩ := h; exact ⟨vs, ha.trans e, r.mono hp hL hk⟩
  | dic kvs =>
    cases kvs with
    | nil => exact ha.trans h
    | cons _ _ => exact False.elim h
  | obj c fs => obtain ⟨C, dx, vfs, c, e, e2, r⟩ := h; exact ⟨C, dx, vfs, c, ha.trans e, hk _ _ e2 (.inr rfl), r.mono hp hL hk⟩
  | _ => exact False.elim h
/-- a container that is no cell, as a value -/
theorem CellR.val {a : Addr} {d : D} (h : CellR G as L H a d) (n : ¬ L a) : RelD G as L H d (.ref a) := by
  cases d with
  | lst ds => obtain ⟨vs, e, r⟩ := h; exact .lst (.inl e) n r
  | dic kvs =>
    cases kvs with
    | nil => exact .dic0 h n
    | cons _ _ => exact False.elim h
  | obj c fs => obtain ⟨C, dx, vfs, c, e, e2, r⟩ := h; exact .obj c e e2 n r
  | _ => exact False.elim h
theorem CellR.lessL {a : Addr} {d : D} (h : CellR G as L H a d) (hL : ∀ b, L' b → L b) : CellR G as L' H a d :=
  h.mono (List.prefix_refl _) (fun b _ n z => n (hL b z)) (fun b o e k => e) rfl
theorem RelD.lessL {d : D} {v : V} (h : RelD G as L H d v) (hL : ∀ b, L' b → L b) : RelD G as L' H d v :=
  h.mono (List.prefix_refl _) (fun b _ n z => n (hL b z)) (fun b o e k => e)
theorem RelDs.lessL {d : List D} {v : List V} (h : RelDs G as L H d v) (hL : ∀ b, L' b → L b) : RelDs G as L' H d v :=
  h.mono (List.prefix_refl _) (fun b _ n z => n (hL b z)) (fun b o e k => e)
theorem RelW.d {w : Wv} {v : V} (h : RelW G H0 as st H w v) : RelD G as (Live as st) H w.d v := by
  cases w with
  | val d => exact h
  | new d => obtain ⟨p, rfl, _, n, c, _⟩ := h; exact (c.lessL fun b z => .inl z).val fun ⟨i, _, h1, _⟩ => n i h1

theorem Ext.hL (e : Ext as st H as' st' H') (hl : as.length = st.length) : ∀ b, H b ≠ none → ¬ Live as st b → ¬ Live as' st' b := fun b hb n z => n (e.back hl z hb)
theorem RelD.ext {d : D} {v : V} (h : RelD G as (Live as st) H d v) (e : Ext as st H as' st' H') (hl : as.length = st.length) : RelD G as' (Live as' st') H' d v := h.mono e.pre (e.hL hl) e.keep
theorem RelDs.ext {d : List D} {v : List V} (h : RelDs G as (Live as st) H d v) (e : Ext as st H as' st' H') (hl : as.length = st.length) : RelDs G as' (Live as' st') H' d v := h.mono e.pre (e.hL hl) e.keep
theorem RelFs.ext {d : List (Str × D)} {v : List (Str × V)} (h : RelFs G as (Live as st) H d v) (e : Ext as st H as' st' H') (hl : as.length = st.length) : RelFs G as' (Live as' st') H' d v := h.mono e.pre (e.hL hl) e.keep
/-- fresh for what came ahead -/
theorem RelW.from {w : Wv} {v : V} {H1 : Hp} (h : RelW G H1 as st H w v) (e : ∀ p, H1 p = none → H0 p = none) : RelW G H0 as st H w v := by
  cases w with
  | val d => exact h
  | new d => obtain ⟨p, rfl, h0, r⟩ := h; exact ⟨p, rfl, e p h0, r⟩
theorem EnvR.ext {env : DEnv} {σ : L2.St} (h : EnvR G as (Live as st) H env σ) (e : Ext as st H as' st' H') (hl : as.length = st.length) : EnvR G as' (Live as' st') H' env σ :=
  ⟨h.1, fun i d hi => let ⟨v, h1, h2⟩ := h.2 i d hi; ⟨v, h1, h2.ext e hl⟩⟩
theorem EnvR.set {env : DEnv} {σ : L2.St} (h : EnvR G as L H env σ) {d : D} {v : V} (r : RelD G as L H d v) (i : Nat) : EnvR G as L H (env.set i (some d)) (σ.set i (some v)) := by
  refine ⟨by simpa using h.1, fun j d' hj => ?_⟩
  by_cases hij : i = j
  · subst hij
    by_cases hi : i < env.length
    · rw [List.getElem?_set_self hi] at hj
      cases hj
      exact ⟨v, by rw [List.getElem?_set_self (by rw [← h.1]; exact hi)], r⟩
    · have q : (env.set i (some d))[i]? = none := List.getElem?_eq_none_iff.mpr (by simp; omega)
      rw [q] at hj; cases hj
  · rw [List.getElem?_set_ne hij] at hj
    obtain ⟨v', h1, h2⟩ := h.2 j d' hj
    exact ⟨v', by rw [List.getElem?_set_ne hij]; exact h1, h2⟩
theorem EnvR.unset {env : DEnv} {σ : L2.St} (h : EnvR G as L H env σ) (i : Nat) : EnvR G as L H (env.set i none) (σ.set i none) := by
  refine ⟨by simpa using h.1, fun j d' hj => ?_⟩
  by_cases hij : i = j
  · subst hij
    by_cases hi : i < env.length
    · rw [List.getElem?_set_self hi] at hj
      cases hj
    · have q : (env.set i none)[i]? = none := List.getElem?_eq_none_iff.mpr (by simp; omega)
      rw [q] at hj; cases hj
  · rw [List.getElem?_set_ne hij] at hj
    obtain ⟨v', h1, h2⟩ := h.2 j d' hj
    exact ⟨v', by rw [List.getElem?_set_ne hij]; exact h1, h2⟩
def wipeD (env : DEnv) : List Nat → DEnv
  | [] => env
  | v :: vs => (wipeD env vs).set v none
theorem EnvR.wipe {env : DEnv} {σ : L2.St} (h : EnvR G as L H env σ) : ∀ vs : List Nat, EnvR G as L H (wipeD env vs) (wipe σ vs)
  | [] => h
  | v :: vs => (EnvR.wipe h vs).unset v

/-! ### new objects, written objects -/
/-- something new is laid that is no cell -/
theorem Ext.lay {p : Addr} {o : HO} (hp : H p = none) : Ext as st H as st (upd H p o) := by
  refine ⟨List.prefix_refl _, fun i a h hi => ?_, fun _ h => h, Nat.le_refl _, fun b u h _ => ?_, fun b u h => ?_⟩
  · rw [List.getElem?_eq_none_iff.mpr hi] at h
    cases h
  · rw [upd_ne (ne_of_none h hp)]; exact h
  · exact ⟨u, by rw [upd_ne (ne_of_none h hp)]; exact h⟩
theorem notLive {p : Addr} (s : StRL G as L st H) (hp : H p = none) : ∀ i : Nat, as[i]? ≠ some p := fun i h1 => s.there i p h1 hp
theorem StR.lay (s : StR G as st H) {p : Addr} {o : HO} (hp : H p = none) : StRL G as (fun b => Live as st b ∨ b = p) st (upd H p o) := by
  refine ⟨s.len, s.nd, fun i d h => ?_, fun i a h => ?_⟩
  · obtain ⟨a, h1, c⟩ := s.cells i d h
    have ne : a ≠ p := fun q => by
      have := c.there
      rw [q] at this; exact this hp
    refine ⟨a, h1, c.mono (List.prefix_refl _) (fun b hb n z => ?_) (fun b u e _ => by rw [upd_ne (ne_of_none e hp)]; exact e) (upd_ne ne)⟩
    rcases z with z | z
    · exact n z
    · exact hb (by rw [z]; exact hp)
  · have := s.there i a h
    intro q
    by_cases ha : a = p
    · rw [ha] at this; exact this hp
    · rw [upd_ne ha] at q; exact this q
theorem StRL.less {L' : Addr → Prop} (s : StRL G as L st H) (h : ∀ b, L' b → L b) : StRL G as L' st H :=
  ⟨s.len, s.nd, fun i d e => let ⟨a, h1, c⟩ := s.cells i d e; ⟨a, h1, c.lessL h⟩, s.there⟩
theorem StR.laid (s : StR G as st H) {p : Addr} {o : HO} (hp : H p = none) : StR G as st (upd H p o) := (s.lay hp).less fun _ z => .inl z
/-- a container that is no cell becomes one -/
theorem Ext.reg {p : Addr} {d : D} (hl : as.length = st.length) (hp : H0 p = none) (e : Ext as st H0 as st H) : Ext as st H0 (as ++ [p]) (st ++ [some d]) H := by
  refine ⟨⟨[p], rfl⟩, fun i a h hi => ?_, fun i h => ?_, by simp, e.keep, e.there⟩
  · by_cases hi2 : i = as.length
    · subst hi2
      simp at h
      rw [← h]; exact hp
    · rw [List.getElem?_append_right (by omega)] at h
      have : ([p] : List Addr)[i - as.length]? = none := List.getElem?_eq_none_iff.mpr (by simp; omega)
      rw [this] at h; cases h
  · obtain ⟨hi, _⟩ := List.getElem?_eq_some_iff.mp h
    rw [List.getElem?_append_left hi]; exact h
theorem live_reg (hl : as.length = st.length) {p b : Addr} {d : D} : Live (as ++ [p]) (st ++ [some d]) b → Live as st b ∨ b = p := by
  rintro ⟨i, d', h1, h2⟩
  by_cases hi : i < as.length
  · rw [List.getElem?_append_left hi] at h1
    rw [List.getElem?_append_left (by omega)] at h2
    exact .inl ⟨i, d', h1, h2⟩
  · rw [List.getElem?_append_right (by omega)] at h1
    by_cases h0 : i - as.length = 0
    · rw [h0] at h1
      exact .inr (Option.some.inj h1).symm
    · rw [show ([p] : List Addr)[i - as.length]? = none from List.getElem?_eq_none_iff.mpr (by simp; omega)] at h1
      cases h1
theorem StRL.reg {p : Addr} {d : D} (s : StRL G as (fun b => Live as st b ∨ b = p) st H) (n : ∀ i : Nat, as[i]? ≠ some p) (c : CellR G as (fun b => Live as st b ∨ b = p) H p d) : StR G (as ++ [p]) (st ++ [some d]) H := by
  have hp : as <+: as ++ [p] := ⟨[p], rfl⟩
  have up : ∀ {a : Addr} {d' : D}, CellR G as (fun b => Live as st b ∨ b = p) H a d' → CellR G (as ++ [p]) (Live (as ++ [p]) (st ++ [some d])) H a d' := fun c =>
    c.mono hp (fun b _ nb z => nb (live_reg s.len z)) (fun b o e _ => e) rfl
  refine ⟨by simp [s.len], ?_, fun i d' h => ?_, fun i a h => ?_⟩
  · rw [List.nodup_append]
    refine ⟨s.nd, by simp, fun a ha b hb => ?_⟩
    rintro rfl
    obtain ⟨i, hi⟩ := List.getElem?_of_mem ha
    simp at hb
    rw [hb] at hi
    exact n i hi
  · by_cases hi : i < st.length
    · rw [List.getElem?_append_left hi] at h
      obtain ⟨a, h1, c'⟩ := s.cells i d' h
      exact ⟨a, pre_get hp h1, up c'⟩
    · rw [List.getElem?_append_right (by omega)] at h
      by_cases h0 : i - st.length = 0
      · rw [h0] at h
        have e : some d = some d' := Option.some.inj h
        cases e
        refine ⟨p, ?_, up c⟩
        rw [List.getElem?_append_right (by have := s.len; omega), show i - as.length = 0 by have := s.len; omega]
        rfl
      · rw [show ([some d] : Store)[i - st.length]? = none from List.getElem?_eq_none_iff.mpr (by simp; omega)] at h
        cases h
  · by_cases hi : i < as.length
    · rw [List.getElem?_append_left hi] at h
      exact s.there i a h
    · rw [List.getElem?_append_right (by omega)] at h
      by_cases h0 : i - as.length = 0
      · rw [h0] at h
        have e : p = a := Option.some.inj h
        rw [← e]; exact c.there
      · rw [show ([p] : List Addr)[i - as.length]? = none from List.getElem?_eq_none_iff.mpr (by simp; omega)] at h
        cases h
/-- a cell is written -/
theorem live_set {i : Nat} {d d0 : D} {b : Addr} (hi : st[i]? = some (some d0)) : Live as (st.set i (some d)) b ↔ Live as st b := by
  obtain ⟨hlt, _⟩ := List.getElem?_eq_some_iff.mp hi
  constructor
  · rintro ⟨j, d', h1, h2⟩
    by_cases hj : i = j
    · subst hj; exact ⟨i, d0, h1, hi⟩
    · rw [List.getElem?_set_ne hj] at h2
      exact ⟨j, d', h1, h2⟩
  · rintro ⟨j, d', h1, h2⟩
    by_cases hj : i = j
    · subst hj; exact ⟨i, d, h1, List.getElem?_set_self hlt⟩
    · exact ⟨j, d', h1, by rw [List.getElem?_set_ne hj]; exact h2⟩
theorem StR.write {i : Nat} {a : Addr} {d0 d : D} {o : HO} (s : StR G as st H) (hi : st[i]? = some (some d0)) (ha : as[i]? = some a) (c : CellR G as (Live as st) (upd H a o) a d) :
    StR G as (st.set i (some d)) (upd H a o) ∧ Ext as st H as (st.set i (some d)) (upd H a o) := by
  have la : Live as st a := ⟨i, d0, ha, hi⟩
  obtain ⟨a', ha', c0⟩ := s.cells i d0 hi
  rw [ha] at ha'; cases ha'
  obtain ⟨o0, ho0, hm⟩ := c0.isMut
  have keep : ∀ b u, H b = some u → (¬ Live as st b ∨ notMut u = true) → upd H a o b = some u := fun b u e k => by
    have ne : b ≠ a := fun z => by
      subst z
      rcases k with k | k
      · exact k la
      · rw [ho0] at e; cases e; rw [hm] at k; cases k
    rw [upd_ne ne]; exact e
  have e : Ext as st H as (st.set i (some d)) (upd H a o) := by
    refine ⟨List.prefix_refl _, fun j b h hj => ?_, fun j h => ?_, by simp, keep, fun b u h => ?_⟩
    · rw [List.getElem?_eq_none_iff.mpr hj] at h; cases h
    · have hij : i ≠ j := fun z => by subst z; rw [hi] at h; cases h
      rw [List.getElem?_set_ne hij]; exact h
    · by_cases hb : b = a
      · exact ⟨o, by rw [hb, upd_same]⟩
      · exact ⟨u, by rw [upd_ne hb]; exact h⟩
  refine ⟨⟨by simp [s.len], s.nd, fun j d' h => ?_, fun j b h q => ?_⟩, e⟩
  · by_cases hij : i = j
    · subst hij
      obtain ⟨hlt, _⟩ := List.getElem?_eq_some_iff.mp hi
      rw [List.getElem?_set_self hlt] at h
      cases h
      exact ⟨a, ha, c.lessL fun b z => (live_set hi).mp z⟩
    · rw [List.getElem?_set_ne hij] at h
      obtain ⟨b, hb, c'⟩ := s.cells j d' h
      have ne : b ≠ a := fun z => by
        subst z
        exact hij (by
          obtain ⟨h1, e1⟩ := List.getElem?_eq_some_iff.mp ha
          obtain ⟨h2, e2⟩ := List.getElem?_eq_some_iff.mp hb
          exact (List.getElem_inj s.nd).mp (e1.trans e2.symm))
      exact ⟨b, hb, c'.mono e.pre (e.hL s.len) e.keep (upd_ne ne)⟩
  · have := s.there j b h
    by_cases hb : b = a
    · rw [hb, upd_same] at q; cases q
    · rw [upd_ne hb] at q; exact this q
end
end VI
namespace VI
open PySem PySem.Spec PyProof.Rows L2
abbrev EM := DEnv → Store → Res Wv
abbrev TM := DEnv → Store → Res Bool
abbrev AM := DEnv → Store → Res (List D)
def RelX (G : Gx) (as : List Addr) (st : Store) (H : Hp) (x : EX) (cv : Value) (xd : Option Addr) : Prop :=
  ∃ C, G.cm x.cls = some C ∧ cv = .ref C ∧ match x.row with
    | none => xd = none
    | some d => ∃ p v, xd = some p ∧ H p = some (.xd [("row", v)]) ∧ RelD G as (Live as st) H d v
def Post (G : Gx) (E : XK) (as : List Addr) (st : Store) (H : Hp) {α : Type} (r : Res α) (R : α → List Addr → Store → Hp → Prop) : Prop :=
  match r with
  | .ok a st' => ∀ as' H', Ext as st H as' st' H' → StR G as' st' H' → R a as' st' H'
  | .exc x st' => ∀ as' H' cv xd, Ext as st H as' st' H' → StR G as' st' H' → RelX G as' st' H' x cv xd → E cv xd H'
  | .stuck => False
section
variable {G : Gx} {E : XK} {as as' : List Addr} {st st' : Store} {H H' : Hp} {α β : Type}
theorem Post.mono {r : Res α} {R R' : α → List Addr → Store → Hp → Prop} (h : Post G E as st H r R) (k : ∀ a as' st' H', Ext as st H as' st' H' → StR G as' st' H' → R a as' st' H' → R' a as' st' H') : Post G E as st H r R' := by
  cases r with
  | ok a st' => exact fun as' H' e s => k a as' st' H' e s (h as' H' e s)
  | exc x st' => exact h
  | stuck => exact h
theorem Post.bind {r : Res α} {k : α → Store → Res β} {R : β → List Addr → Store → Hp → Prop} (hl : as.length = st.length) (h : Post G E as st H (r.bind k) R) :
    Post G E as st H r (fun a as' st' H' => Post G E as' st' H' (k a st') R) := by
  cases r with
  | ok a st' =>
    intro as' H' e s
    have h : Post G E as st H (k a st') R := h
    cases q : k a st' with
    | ok b st2 =>
      rw [q] at h
      exact fun as2 H2 e2 s2 => h as2 H2 (e.trans e2 hl) s2
    | exc x st2 =>
      rw [q] at h
      exact fun as2 H2 cv xd e2 s2 r2 => h as2 H2 cv xd (e.trans e2 hl) s2 r2
    | stuck => rw [q] at h; exact h
  | exc x st' => exact h
  | stuck => exact h
/-- nothing happens -/
theorem Post.now {a : α} {R : α → List Addr → Store → Hp → Prop} (s : StR G as st H) (h : Post G E as st H (.ok a st) R) : R a as st H := h as H Ext.rfl' s
end
def tI (G : Gx) (E : XK) (m : EM) : TE := fun σ H Q => ∃ as st env, StR G as st H ∧ EnvR G as (Live as st) H env σ ∧ Post G E as st H (m env st) fun w as' st' H' => ∀ v, RelW G H as' st' H' w v → Q v H'
def tT (G : Gx) (E : XK) (m : TM) : TT := fun σ H Q => ∃ as st env, StR G as st H ∧ EnvR G as (Live as st) H env σ ∧ Post G E as st H (m env st) fun b as' st' H' => Q b H'
def tAr (G : Gx) (E : XK) (m : AM) : TA := fun σ H Q => ∃ as st env, StR G as st H ∧ EnvR G as (Live as st) H env σ ∧ Post G E as st H (m env st) fun ds as' st' H' => ∀ vs, RelDs G as' (Live as' st') H' ds vs → Q vs H'
theorem _root_.L2.PE.vi {X : Cx} {e : Expr} {t t' : TE} (h : PE X e t) (k : ∀ σ H Q, t' σ H Q → t σ H Q) : PE X e t' := ⟨fun pins s σ H Q I q => h.run pins s σ H Q I (k σ H Q q)⟩
theorem _root_.L2.PT.vi {X : Cx} {e : Expr} {t t' : TT} (h : PT X e t) (k : ∀ σ H Q, t' σ H Q → t σ H Q) : PT X e t' := ⟨fun pins s σ H Q I q => h.run pins s σ H Q I (k σ H Q q)⟩
theorem _root_.L2.PW.vi {X : Cx} {e : Expr} {t t' : TT} (h : PW X e t) (k : ∀ σ H Q, t' σ H Q → t σ H Q) : PW X e t' := ⟨fun wh pins s σ H Q I q => h.run wh pins s σ H Q I (k σ H Q q)⟩
theorem _root_.L2.PA.vi {X : Cx} {e : List Expr} {t t' : TA} (h : PA X e t) (k : ∀ σ H Q, t' σ H Q → t σ H Q) : PA X e t' := ⟨fun pos pins s σ H Q I q => h.run pos pins s σ H Q I (k σ H Q q)⟩
theorem _root_.L2.PS.vi {X : Cx} {e : Stmt} {t t' : TS} (h : PS X e t) (k : ∀ D σ H, t' D σ H → t D σ H) : PS X e t' := ⟨fun pins s σ H D I q => h.run pins s σ H D I (k D σ H q)⟩
theorem _root_.L2.PSs.vi {X : Cx} {e : List Stmt} {t t' : TS} (h : PSs X e t) (k : ∀ D σ H, t' D σ H → t D σ H) : PSs X e t' := ⟨fun pins s σ H D I q => h.run pins s σ H D I (k D σ H q)⟩

/-! ### expressions -/
def evVar (i : Nat) : EM := fun env st => match env[i]? with
  | some (some d) => .ok (.val d) st
  | _ => .stuck
def evC (d : D) : EM := fun _ st => .ok (.val d) st
def ev1 (f : D → Store → Res Wv) (a : EM) : EM := fun env st => (a env st).bind fun w st1 => f w.d st1
def ev2 (f : D → D → Store → Res Wv) (a b : EM) : EM := fun env st => (a env st).bind fun w st1 => (b env st1).bind fun w2 st2 => f w.d w2.d st2
def evA (f : List D → Store → Res Wv) (a : AM) : EM := fun env st => (a env st).bind fun ds st1 => f ds st1
def evM (f : D → List D → Store → Res Wv) (o : EM) (a : AM) : EM := fun env st => (o env st).bind fun w st1 => (a env st1).bind fun ds st2 => f w.d ds st2
def anil : AM := fun _ st => .ok [] st
def acons (a : EM) (r : AM) : AM := fun env st => (a env st).bind fun w st1 => (r env st1).bind fun ds st2 => .ok (w.d :: ds) st2
/-- a value operation against a rule's question -/
def OpS (G : Gx) (E : XK) (f : D → D → Store → Res Wv) (r : R2) : Prop := ∀ as st H d1 d2 x y Q, StR G as st H → RelD G as (Live as st) H d1 x → RelD G as (Live as st) H d2 y →
  Post G E as st H (f d1 d2 st) (fun w as' st' H' => ∀ v, RelW G H as' st' H' w v → Q v H') → r x y H Q
def UnS (G : Gx) (E : XK) (f : D → Store → Res Wv) (r : V → Hp → VK → Prop) : Prop := ∀ as st H d x Q, StR G as st H → RelD G as (Live as st) H d x →
  Post G E as st H (f d st) (fun w as' st' H' => ∀ v, RelW G H as' st' H' w v → Q v H') → r x H Q
def CallS (G : Gx) (E : XK) (f : List D → Store → Res Wv) (r : List V → Hp → VK → Prop) : Prop := ∀ as st H ds xs Q, StR G as st H → RelDs G as (Live as st) H ds xs →
  Post G E as st H (f ds st) (fun w as' st' H' => ∀ v, RelW G H as' st' H' w v → Q v H') → r xs H Q
def MtS' (G : Gx) (E : XK) (f : D → List D → Store → Res Wv) (r : V → List V → Hp → VK → Prop) : Prop := ∀ as st H d ds x xs Q, StR G as st H → RelD G as (Live as st) H d x → RelDs G as (Live as st) H ds xs →
  Post G E as st H (f d ds st) (fun w as' st' H' => ∀ v, RelW G H as' st' H' w v → Q v H') → r x xs H Q
section
variable {G : Gx} {E : XK} {X : Cx} {σ : L2.St} {H : Hp} {Q : VK} {a b c e o : Expr} {es : List Expr} {pos : Pos} {ma mb mc : EM}
theorem fresh_of {as as' : List Addr} {st st' : Store} {H H' : Hp} (e : Ext as st H as' st' H') : ∀ p, H' p = none → H p = none := fun _ h => e.fresh h
theorem tI_var {i : Nat} (h : tI G E (evVar i) σ H Q) : tVar i σ H Q := by
  obtain ⟨as, st, env, s, er, p⟩ := h
  unfold evVar at p
  cases q : env[i]? with
  | none => rw [q] at p; exact p.elim
  | some o =>
    cases o with
    | none => rw [q] at p; exact p.elim
    | some d =>
      rw [q] at p
      obtain ⟨v, hv, r⟩ := er.2 i d q
      exact ⟨v, hv, p.now s v r⟩
theorem pI_var {i : Nat} {x : Str} (hN : X.N[i]? = some x) (hv : Vis X.env.scope x) (hd : (x == ("__debug__" : Str)) = false := by decide) (hcd : (x == ("__classdict__" : Str)) = false := by decide) : PE X (.Name x pos) (tI G E (evVar i)) :=
  (pe_var hN hv hd hcd).vi fun _ _ _ => tI_var
theorem pI_c {d : D} {v : V} (h : PE X e (tC v)) (r : ∀ as L H, RelD G as L H d v) : PE X e (tI G E (evC d)) := h.vi fun σ H Q ⟨as, st, env, s, er, p⟩ => p.now s v (r _ _ _)
theorem pI_int {i j} : PE X (.Constant (.int i) j pos) (tI G E (evC (.int i))) := pI_c pe_int fun _ _ _ => .int i
theorem pI_bl {b j} : PE X (.Constant (.bool b) j pos) (tI G E (evC (.bl b))) := pI_c pe_bl fun _ _ _ => .bl b
theorem pI_non {j} : PE X (.Constant .none j pos) (tI G E (evC .non)) := pI_c pe_non fun _ _ _ => .non
theorem pI_str {x j} : PE X (.Constant (.str x) j pos) (tI G E (evC (.str x))) := pI_c pe_str fun _ _ _ => .str x
theorem pI_gint {x : Str} {i : Int} (hg : Gl X x) (hm : ∃ t, X.mg x = some (.int i t)) (hd : (x == ("__debug__" : Str)) = false := by decide) : PE X (.Name x pos) (tI G E (evC (.int i))) := by
  obtain ⟨t, hm⟩ := hm
  exact pI_c (pe_glob (v := .int i) hg hm ⟨t, rfl⟩ hd) fun _ _ _ => .int i
theorem pI_gstr {x z : Str} (hg : Gl X x) (hm : ∃ t, X.mg x = some (.str z t)) (hd : (x == ("__debug__" : Str)) = false := by decide) : PE X (.Name x pos) (tI G E (evC (.str z))) := by
  obtain ⟨t, hm⟩ := hm
  exact pI_c (pe_glob (v := .str z) hg hm ⟨t, rfl⟩ hd) fun _ _ _ => .str z
theorem pI_ty {x : Str} {n : String} (hg : Gl X x) (hm : X.mg x = none) (hv : bootBuiltins x = some (.type n)) (hn : x ≠ "__name__" := by decide) (hd : (x == ("__debug__" : Str)) = false := by decide) : PE X (.Name x pos) (tI G E (evC (.ty n))) :=
  pI_c (pe_bltn (v := .ty n) hg hm hv rfl hn hd) fun _ _ _ => .ty n
theorem pI_cls {x : Str} {c : String} {C : Addr} (hg : Gl X x) (hm : X.mg x = some (.ref C)) (hc : G.cm c = some C) (hd : (x == ("__debug__" : Str)) = false := by decide) : PE X (.Name x pos) (tI G E (evC (.cl c))) :=
  pI_c (pe_glob (v := .ref C) hg hm rfl hd) fun _ _ _ => .cl hc
theorem tI_ev2 {f : D → D → Store → Res Wv} {r : R2} (hs : OpS G E f r) (h : tI G E (ev2 f ma mb) σ H Q) : tOp r (tI G E ma) (tI G E mb) σ H Q := by
  obtain ⟨as, st, env, s, er, p⟩ := h
  refine ⟨as, st, env, s, er, (p.bind s.len).mono fun w as1 st1 H1 e1 s1 p1 v1 r1 => ?_⟩
  refine ⟨as1, st1, env, s1, er.ext e1 s.len, (p1.bind s1.len).mono fun w2 as2 st2 H2 e2 s2 p2 v2 r2 => ?_⟩
  exact hs as2 st2 H2 _ _ _ _ _ s2 (r1.d.ext e2 s1.len) r2.d (p2.mono fun w as3 st3 H3 e3 s3 q v rv => q v (rv.from fun x hx => (e1.fresh (e2.fresh hx))))
theorem pI_op {op : Operator} {f : D → D → Store → Res Wv} {r : R2} (ho : OpR X (binaryOp op) r) (hs : OpS G E f r) (ha : PE X a (tI G E ma)) (hb : PE X b (tI G E mb)) : PE X (.BinOp a op b pos) (tI G E (ev2 f ma mb)) :=
  (pe_op ho ha hb).vi fun _ _ _ => tI_ev2 hs
theorem pI_cmp {op : CmpOp} {f : D → D → Store → Res Wv} {r : R2} (ho : OpR X (compareOp op) r) (hs : OpS G E f r) (ha : PE X a (tI G E ma)) (hb : PE X b (tI G E mb)) (hm : behindInMarks op b = false) : PE X (.Compare a [op] [b] pos) (tI G E (ev2 f ma mb)) :=
  (pe_cmpR ho ha hb hm).vi fun _ _ _ => tI_ev2 hs
theorem pI_ix {f : D → D → Store → Res Wv} {r : R2} (ho : IxR X r) (hs : OpS G E f r) (ha : PE X a (tI G E ma)) (hb : PE X b (tI G E mb)) (hx : PlainIx b) : PE X (.Subscript a b pos) (tI G E (ev2 f ma mb)) :=
  (pe_ix ho ha hb hx).vi fun _ _ _ => tI_ev2 hs
theorem tI_ev1 {f : D → Store → Res Wv} {r : V → Hp → VK → Prop} (hs : UnS G E f r) (h : tI G E (ev1 f ma) σ H Q) : tUn r (tI G E ma) σ H Q := by
  obtain ⟨as, st, env, s, er, p⟩ := h
  refine ⟨as, st, env, s, er, (p.bind s.len).mono fun w as1 st1 H1 e1 s1 p1 v1 r1 => ?_⟩
  exact hs as1 st1 H1 _ _ _ s1 r1.d (p1.mono fun w as3 st3 H3 e3 s3 q v rv => q v (rv.from (fresh_of e1)))
theorem pI_un {op : UnaryOp} {f : D → Store → Res Wv} {r : V → Hp → VK → Prop} (ho : UnR X (unaryOp op) r) (hs : UnS G E f r) (ha : PE X a (tI G E ma)) : PE X (.UnaryOp op a pos) (tI G E (ev1 f ma)) :=
  (pe_un ho ha).vi fun _ _ _ => tI_ev1 hs
theorem pI_nil : PA X [] (tAr G E anil) := pa_nil.vi fun σ H Q ⟨as, st, env, s, er, p⟩ => p.now s [] .nil
theorem pI_cons {m : AM} (ha : PE X e (tI G E ma)) (hr : PA X es (tAr G E m)) (hs : starEach (e :: es) X.env = (false, eval e X.env) :: starEach es X.env := by rfl) : PA X (e :: es) (tAr G E (acons ma m)) := by
  refine (pa_cons ha hr hs).vi fun σ H Q h => ?_
  obtain ⟨as, st, env, s, er, p⟩ := h
  refine ⟨as, st, env, s, er, (p.bind s.len).mono fun w as1 st1 H1 e1 s1 p1 v1 r1 => ?_⟩
  refine ⟨as1, st1, env, s1, er.ext e1 s.len, (p1.bind s1.len).mono fun ds as2 st2 H2 e2 s2 p2 vs r2 => ?_⟩
  exact p2.now s2 _ (.cons (r1.d.ext e2 s1.len) r2)
theorem tI_evA {m : AM} {f : List D → Store → Res Wv} {r : List V → Hp → VK → Prop} (hs : CallS G E f r) (h : tI G E (evA f m) σ H Q) : tCB r (tAr G E m) σ H Q := by
  obtain ⟨as, st, env, s, er, p⟩ := h
  refine ⟨as, st, env, s, er, (p.bind s.len).mono fun ds as1 st1 H1 e1 s1 p1 vs r1 => ?_⟩
  exact hs as1 st1 H1 _ _ _ s1 r1 (p1.mono fun w as3 st3 H3 e3 s3 q v rv => q v (rv.from (fresh_of e1)))
theorem pI_callB {m : AM} {x : Str} {id : String} {p : Pos} {f : List D → Store → Res Wv} {r : List V → Hp → VK → Prop} (hc : CallR X (.builtin id) r) (hs : CallS G E f r) (hg : Gl X x) (hm : X.mg x = none) (hv : bootBuiltins x = some (.builtin id)) (ha : PA X (e :: es) (tAr G E m))
    (hn : x ≠ "__name__" := by decide) (hdb : (x == ("__debug__" : Str)) = false := by decide) (he : starEach (e :: es) X.env = (false, eval e X.env) :: starEach es X.env := by rfl) (hpl : (backTo pos (starEach es X.env)).any (·.1) = false := by rfl) : PE X (.Call (.Name x p) (e :: es) [] pos) (tI G E (evA f m)) :=
  (pe_callB hc hg hm hv ha hn hdb he hpl).vi fun _ _ _ => tI_evA hs
theorem pI_callTy {m : AM} {x : Str} {T : String} {p : Pos} {f : List D → Store → Res Wv} {r : List V → Hp → VK → Prop} (hc : CallR X (.type T) r) (hs : CallS G E f r) (hg : Gl X x) (hm : X.mg x = none) (hv : bootBuiltins x = some (.type T)) (ha : PA X (e :: es) (tAr G E m))
    (hn : x ≠ "__name__" := by decide) (hdb : (x == ("__debug__" : Str)) = false := by decide) (he : starEach (e :: es) X.env = (false, eval e X.env) :: starEach es X.env := by rfl) (hpl : (backTo pos (starEach es X.env)).any (·.1) = false := by rfl) : PE X (.Call (.Name x p) (e :: es) [] pos) (tI G E (evA f m)) :=
  (pe_callTy hc hg hm hv ha hn hdb he hpl).vi fun _ _ _ => tI_evA hs

/-! ### tests, and, or, not, if, chains -/
def tvB (m : EM) : TM := fun env st => (m env st).bind fun w st1 => match w.d with
  | .bl b => .ok b st1
  | _ => .stuck
def tvNot (t : TM) : TM := fun env st => (t env st).bind fun b st1 => .ok (!b) st1
def tvAnd (t u : TM) : TM := fun env st => (t env st).bind fun b st1 => if b = true then u env st1 else .ok false st1
def tvOr (t u : TM) : TM := fun env st => (t env st).bind fun b st1 => if b = true then .ok true st1 else u env st1
def evNot (a : EM) : EM := fun env st => (a env st).bind fun w st1 => match w.d with
  | .bl b => .ok (.val (.bl (!b))) st1
  | _ => .stuck
def evAnd (a b : EM) : EM := fun env st => (a env st).bind fun w st1 => match w.d with
  | .bl true => b env st1
  | .bl false => .ok (.val (.bl false)) st1
  | _ => .stuck
def evOr (a b : EM) : EM := fun env st => (a env st).bind fun w st1 => match w.d with
  | .bl true => .ok (.val (.bl true)) st1
  | .bl false => b env st1
  | _ => .stuck
def evIf (t : TM) (a b : EM) : EM := fun env st => (t env st).bind fun c st1 => if c = true then a env st1 else b env st1
def evCh (f g : D → D → Store → Res Wv) (a b c : EM) : EM := fun env st => (a env st).bind fun w1 st1 => (b env st1).bind fun w2 st2 => (f w1.d w2.d st2).bind fun w3 st3 => match w3.d with
  | .bl true => (c env st3).bind fun w4 st4 => g w2.d w4.d st4
  | .bl false => .ok (.val (.bl false)) st3
  | _ => .stuck
theorem RelD.isBl {as : List Addr} {L : Addr → Prop} {H : Hp} {b : Bool} {v : V} (h : RelD G as L H (.bl b) v) : v = .bl b := by cases h; rfl
theorem RelD.isInt {as : List Addr} {L : Addr → Prop} {H : Hp} {b : Int} {v : V} (h : RelD G as L H (.int b) v) : v = .int b := by cases h; rfl
theorem RelD.isStr {as : List Addr} {L : Addr → Prop} {H : Hp} {b : Str} {v : V} (h : RelD G as L H (.str b) v) : v = .str b := by cases h; rfl
theorem RelD.isNon {as : List Addr} {L : Addr → Prop} {H : Hp} {v : V} (h : RelD G as L H .non v) : v = .non := by cases h; rfl
theorem RelD.isTy {as : List Addr} {L : Addr → Prop} {H : Hp} {b : String} {v : V} (h : RelD G as L H (.ty b) v) : v = .ty b := by cases h; rfl
theorem tT_tvB {Q : Bool → Hp → Prop} (h : tT G E (tvB ma) σ H Q) : tI G E ma σ H fun x H1 => ∃ k, x = .bl k ∧ Q k H1 := by
  obtain ⟨as, st, env, s, er, p⟩ := h
  refine ⟨as, st, env, s, er, (p.bind s.len).mono fun w as1 st1 H1 e1 s1 p1 v1 r1 => ?_⟩
  have r := r1.d
  cases q : w.d with
  | bl b =>
    simp only [q] at p1
    rw [q] at r
    exact ⟨b, r.isBl, p1.now s1⟩
  | _ => simp only [q] at p1; exact p1.elim
theorem pT_val (h : PE X e (tI G E ma)) (he : ∀ whole, isTrue e X.env whole = (do let v ← whole; standAt e.pos; holding [v] (truthy v)) := by intro _; rfl) : PT X e (tT G E (tvB ma)) :=
  (pt_val h he).vi fun _ _ _ => tT_tvB
theorem pT_cmp {op : CmpOp} {f : D → D → Store → Res Wv} {r : R2} (ho : OpR X (compareOp op) r) (hs : OpS G E f r) (ha : PE X a (tI G E ma)) (hb : PE X b (tI G E mb)) (hm : behindInMarks op b = false) : PT X (.Compare a [op] [b] pos) (tT G E (tvB (ev2 f ma mb))) :=
  (pt_cmpR ho ha hb hm).vi fun _ _ _ h => tI_ev2 hs (tT_tvB h)
variable {ta tb : TM} {rest : List Expr}
theorem pT_not (h : PT X a (tT G E ta)) : PT X (.UnaryOp .Not a pos) (tT G E (tvNot ta)) := (pt_not h).vi fun σ H Q ⟨as, st, env, s, er, p⟩ =>
  ⟨as, st, env, s, er, (p.bind s.len).mono fun b as1 st1 H1 e1 s1 p1 => p1.now s1⟩
theorem pW_and1 (h : PT X a (tT G E ta)) : PW X (.BoolOp .And [a] pos) (tT G E ta) := pw_and1 h
theorem pW_or1 (h : PT X a (tT G E ta)) : PW X (.BoolOp .Or [a] pos) (tT G E ta) := pw_or1 h
theorem tT_and {Q : Bool → Hp → Prop} (h : tT G E (tvAnd ta tb) σ H Q) : tAnd (tT G E ta) (tT G E tb) σ H Q := by
  obtain ⟨as, st, env, s, er, p⟩ := h
  refine ⟨as, st, env, s, er, (p.bind s.len).mono fun c as1 st1 H1 e1 s1 p1 => ?_⟩
  cases c with
  | true =>
    rw [if_pos rfl] at p1 ⊢
    exact ⟨as1, st1, env, s1, er.ext e1 s.len, p1⟩
  | false =>
    rw [if_neg Bool.false_ne_true] at p1 ⊢
    exact p1.now s1
theorem tT_or {Q : Bool → Hp → Prop} (h : tT G E (tvOr ta tb) σ H Q) : tOr (tT G E ta) (tT G E tb) σ H Q := by
  obtain ⟨as, st, env, s, er, p⟩ := h
  refine ⟨as, st, env, s, er, (p.bind s.len).mono fun c as1 st1 H1 e1 s1 p1 => ?_⟩
  cases c with
  | true =>
    rw [if_pos rfl] at p1 ⊢
    exact p1.now s1
  | false =>
    rw [if_neg Bool.false_ne_true] at p1 ⊢
    exact ⟨as1, st1, env, s1, er.ext e1 s.len, p1⟩
theorem pW_and (h : PT X a (tT G E ta)) (hb : PW X (.BoolOp .And (b :: rest) pos) (tT G E tb)) : PW X (.BoolOp .And (a :: b :: rest) pos) (tT G E (tvAnd ta tb)) := (pw_and h hb).vi fun _ _ _ => tT_and
theorem pW_or (h : PT X a (tT G E ta)) (hb : PW X (.BoolOp .Or (b :: rest) pos) (tT G E tb)) : PW X (.BoolOp .Or (a :: b :: rest) pos) (tT G E (tvOr ta tb)) := (pw_or h hb).vi fun _ _ _ => tT_or
theorem pI_one {op} (h : PE X a (tI G E ma)) : PE X (.BoolOp op [a] pos) (tI G E ma) := pe_one h
theorem pI_not (h : PE X a (tI G E ma)) : PE X (.UnaryOp .Not a pos) (tI G E (evNot ma)) := (pe_not h).vi fun σ H Q ⟨as, st, env, s, er, p⟩ =>
  ⟨as, st, env, s, er, (p.bind s.len).mono fun w as1 st1 H1 e1 s1 p1 v1 r1 => by
    have r := r1.d
    cases q : w.d with
    | bl b =>
      simp only [q] at p1
      rw [q] at r
      exact ⟨b, r.isBl, p1.now s1 _ (.bl _)⟩
    | _ => simp only [q] at p1; exact p1.elim⟩
theorem pI_and (h : PE X a (tI G E ma)) (hb : PE X (.BoolOp .And (b :: rest) pos) (tI G E mb)) : PE X (.BoolOp .And (a :: b :: rest) pos) (tI G E (evAnd ma mb)) := (pe_and h hb).vi fun σ H Q ⟨as, st, env, s, er, p⟩ =>
  ⟨as, st, env, s, er, (p.bind s.len).mono fun w as1 st1 H1 e1 s1 p1 v1 r1 => by
    have r := r1.d
    cases q : w.d with
    | bl b =>
      simp only [q] at p1
      rw [q] at r
      refine ⟨b, r.isBl, ?_⟩
      cases b with
      | true =>
        rw [if_pos rfl]
        exact ⟨as1, st1, env, s1, er.ext e1 s.len, p1.mono fun w2 as2 st2 H2 e2 s2 p2 v2 r2 => p2 v2 (r2.from (fresh_of e1))⟩
      | false =>
        rw [if_neg Bool.false_ne_true]
        exact p1.now s1 _ (.bl _)
    | _ => simp only [q] at p1; exact p1.elim⟩
theorem pI_or (h : PE X a (tI G E ma)) (hb : PE X (.BoolOp .Or (b :: rest) pos) (tI G E mb)) : PE X (.BoolOp .Or (a :: b :: rest) pos) (tI G E (evOr ma mb)) := (pe_or h hb).vi fun σ H Q ⟨as, st, env, s, er, p⟩ =>
  ⟨as, st, env, s, er, (p.bind s.len).mono fun w as1 st1 H1 e1 s1 p1 v1 r1 => by
    have r := r1.d
    cases q : w.d with
    | bl b =>
      simp only [q] at p1
      rw [q] at r
      refine ⟨b, r.isBl, ?_⟩
      cases b with
      | false =>
        rw [if_neg Bool.false_ne_true]
        exact ⟨as1, st1, env, s1, er.ext e1 s.len, p1.mono fun w2 as2 st2 H2 e2 s2 p2 v2 r2 => p2 v2 (r2.from (fresh_of e1))⟩
      | true =>
        rw [if_pos rfl]
        exact p1.now s1 _ (.bl _)
    | _ => simp only [q] at p1; exact p1.elim⟩
theorem pI_if (hc : PT X c (tT G E ta)) (h : PE X a (tI G E ma)) (hb : PE X b (tI G E mb)) : PE X (.IfExp c a b pos) (tI G E (evIf ta ma mb)) := (pe_ifExp hc h hb).vi fun σ H Q ⟨as, st, env, s, er, p⟩ =>
  ⟨as, st, env, s, er, (p.bind s.len).mono fun k as1 st1 H1 e1 s1 p1 => by
    cases k with
    | true =>
      rw [if_pos rfl] at p1 ⊢
      exact ⟨as1, st1, env, s1, er.ext e1 s.len, p1.mono fun w2 as2 st2 H2 e2 s2 p2 v2 r2 => p2 v2 (r2.from (fresh_of e1))⟩
    | false =>
      rw [if_neg Bool.false_ne_true] at p1 ⊢
      exact ⟨as1, st1, env, s1, er.ext e1 s.len, p1.mono fun w2 as2 st2 H2 e2 s2 p2 v2 r2 => p2 v2 (r2.from (fresh_of e1))⟩⟩
theorem tI_evCh {f g : D → D → Store → Res Wv} {r r' : R2} (hs : OpS G E f r) (hs' : OpS G E g r') (h : tI G E (evCh f g ma mb mc) σ H Q) : tChain r r' (tI G E ma) (tI G E mb) (tI G E mc) σ H Q := by
  obtain ⟨as, st, env, s, er, p⟩ := h
  refine ⟨as, st, env, s, er, (p.bind s.len).mono fun w as1 st1 H1 e1 s1 p1 v1 r1 => ?_⟩
  refine ⟨as1, st1, env, s1, er.ext e1 s.len, (p1.bind s1.len).mono fun w2 as2 st2 H2 e2 s2 p2 v2 r2 => ?_⟩
  refine hs as2 st2 H2 _ _ _ _ _ s2 (r1.d.ext e2 s1.len) r2.d ((p2.bind s2.len).mono fun w3 as3 st3 H3 e3 s3 p3 v3 r3 => ?_)
  have rr := r3.d
  cases q : w3.d with
  | bl b =>
    simp only [q] at p3
    rw [q] at rr
    refine ⟨b, rr.isBl, ?_⟩
    cases b with
    | true =>
      rw [if_pos rfl]
      refine ⟨as3, st3, env, s3, ((er.ext e1 s.len).ext e2 s1.len).ext e3 s2.len, (p3.bind s3.len).mono fun w4 as4 st4 H4 e4 s4 p4 v4 r4 => ?_⟩
      exact hs' as4 st4 H4 _ _ _ _ _ s4 ((r2.d.ext e3 s2.len).ext e4 s3.len) r4.d (p4.mono fun w5 as5 st5 H5 e5 s5 p5 v5 r5 => p5 v5 (r5.from fun x hx => e1.fresh (e2.fresh (e3.fresh (e4.fresh hx)))))
    | false =>
      rw [if_neg Bool.false_ne_true]
      exact p3.now s3 _ (.bl _)
  | _ => simp only [q] at p3; exact p3.elim
theorem pI_chain {op op' : CmpOp} {f g : D → D → Store → Res Wv} {r r' : R2} (ho : OpR X (compareOp op) r) (hs : OpS G E f r) (ho' : OpR X (compareOp op') r') (hs' : OpS G E g r') (ha : PE X a (tI G E ma)) (hb : PE X b (tI G E mb)) (hc : PE X c (tI G E mc))
    (hm : lastMarks [op, op'] [b, c] = false := by with_unfolding_all rfl) : PE X (.Compare a [op, op'] [b, c] pos) (tI G E (evCh f g ma mb mc)) := (pe_chain ho ho' ha hb hc hm).vi fun _ _ _ => tI_evCh hs hs'
theorem pT_chain {op op' : CmpOp} {f g : D → D → Store → Res Wv} {r r' : R2} (ho : OpR X (compareOp op) r) (hs : OpS G E f r) (ho' : OpR X (compareOp op') r') (hs' : OpS G E g r') (ha : PE X a (tI G E ma)) (hb : PE X b (tI G E mb)) (hc : PE X c (tI G E mc))
    (hm : lastMarks [op, op'] [b, c] = false := by with_unfolding_all rfl) : PT X (.Compare a [op, op'] [b, c] pos) (tT G E (tvB (evCh f g ma mb mc))) := (pt_chain ho ho' ha hb hc hm).vi fun _ _ _ h => tI_evCh hs hs' (tT_tvB h)

/-! ### displays -/
def evTup (m : AM) : EM := fun env st => (m env st).bind fun ds st1 => if ds.length ≤ 100000 then .ok (.val (.tup ds)) st1 else .stuck
def evLst (m : AM) : EM := fun env st => (m env st).bind fun ds st1 => if ds.length ≤ 100000 then .ok (.new (.lst ds)) st1 else .stuck
theorem RelDs.length {as : List Addr} {L : Addr → Prop} {H : Hp} : ∀ {ds : List D} {vs : List V}, RelDs G as L H ds vs → ds.length = vs.length
  | _, _, .nil => rfl
  | _, _, .cons _ t => by simp [RelDs.length t]
theorem szl {n : Nat} (h : n ≤ 100000) : n ≤ sizeLine := Nat.le_trans h (by decide)
/-- a new tuple, a new list, at a place that was free -/
theorem RelD.newTup {as : List Addr} {st : Store} {H : Hp} {ds : List D} {vs : List V} {p : Addr} (s : StR G as st H) (r : RelDs G as (Live as st) H ds vs) (hp : H p = none) : RelD G as (Live as st) (upd H p (.tup vs)) (.tup ds) (.ref p) :=
  .tup (.inl (.inl upd_same)) (r.ext (Ext.lay hp) s.len)
theorem RelW.newLst {as : List Addr} {st : Store} {H : Hp} {ds : List D} {vs : List V} {p : Addr} (s : StR G as st H) (r : RelDs G as (Live as st) H ds vs) (hp : H p = none) : RelW G H as st (upd H p (.lst vs)) (.new (.lst ds)) (.ref p) := by
  refine ⟨p, rfl, hp, notLive s hp, ⟨vs, upd_same, r.mono (List.prefix_refl _) (fun b hb n z => ?_) fun b u e _ => by rw [upd_ne (ne_of_none e hp)]; exact e⟩, s.lay hp⟩
  rcases z with z | z
  · exact n z
  · exact hb (by rw [z]; exact hp)
theorem pI_tup {m : AM} {x1} (h : PA X es (tAr G E m)) : PE X (.Tuple es x1 pos) (tI G E (evTup m)) := (pe_tup h).vi fun σ H Q ⟨as, st, env, s, er, p⟩ =>
  ⟨as, st, env, s, er, (p.bind s.len).mono fun ds as1 st1 H1 e1 s1 p1 vs r1 => by
    by_cases q : ds.length ≤ 100000
    · rw [if_pos q] at p1
      refine ⟨szl (by rw [← r1.length]; exact q), fun x hx => ?_⟩
      exact p1 as1 (upd H1 x (.tup vs)) (Ext.lay hx) (s1.laid hx) _ (RelD.newTup s1 r1 hx)
    · rw [if_neg q] at p1; exact p1.elim⟩
theorem pI_lst {m : AM} (h : PA X es (tAr G E m)) : PE X (.List es pos) (tI G E (evLst m)) := (pe_lst h).vi fun σ H Q ⟨as, st, env, s, er, p⟩ =>
  ⟨as, st, env, s, er, (p.bind s.len).mono fun ds as1 st1 H1 e1 s1 p1 vs r1 => by
    by_cases q : ds.length ≤ 100000
    · rw [if_pos q] at p1
      refine ⟨szl (by rw [← r1.length]; exact q), fun x hx => ?_⟩
      exact p1 as1 (upd H1 x (.lst vs)) (Ext.lay hx) (s1.laid hx) _ ((RelW.newLst s1 r1 hx).from (fresh_of e1))
    · rw [if_neg q] at p1; exact p1.elim⟩
end
end VI
namespace VI
open PySem PySem.Spec PyProof.Rows L2
inductive SRes where
  | nx (env : DEnv) (st : Store) | ret (w : Wv) (st : Store) | brk (env : DEnv) (st : Store) | cnt (env : DEnv) (st : Store) | exc (x : EX) (st : Store) | stuck
abbrev SM := DEnv → Store → SRes
def SRes.bind (r : SRes) (k : SM) : SRes := match r with
  | .nx env st => k env st
  | r => r
def SPost (G : Gx) (E : XK) (De : Ends) (as : List Addr) (st : Store) (H : Hp) (r : SRes) : Prop :=
  match r with
  | .nx env' st' => ∀ as' H' σ', Ext as st H as' st' H' → StR G as' st' H' → EnvR G as' (Live as' st') H' env' σ' → De.nx σ' H'
  | .ret w st' => ∀ as' H' v, Ext as st H as' st' H' → StR G as' st' H' → RelW G H as' st' H' w v → De.rt v H'
  | .brk env' st' => ∀ as' H' σ', Ext as st H as' st' H' → StR G as' st' H' → EnvR G as' (Live as' st') H' env' σ' → De.bk σ' H'
  | .cnt env' st' => ∀ as' H' σ', Ext as st H as' st' H' → StR G as' st' H' → EnvR G as' (Live as' st') H' env' σ' → De.ct σ' H'
  | .exc x st' => ∀ as' H' cv xd, Ext as st H as' st' H' → StR G as' st' H' → RelX G as' st' H' x cv xd → E cv xd H'
  | .stuck => False
def tS (G : Gx) (E : XK) (m : SM) : TS := fun De σ H => ∃ as st env, StR G as st H ∧ EnvR G as (Live as st) H env σ ∧ SPost G E De as st H (m env st)
section
variable {G : Gx} {E : XK} {X : Cx} {De : Ends} {as as' as1 : List Addr} {st st' st1 : Store} {H H' H1 : Hp} {σ : L2.St}
/-- further on -/
theorem SPost.from {r : SRes} (hl : as.length = st.length) (e : Ext as st H as1 st1 H1) (h : SPost G E De as st H r) : SPost G E De as1 st1 H1 r := by
  cases r with
  | nx env st' => exact fun as' H' σ' e' s r => h as' H' σ' (e.trans e' hl) s r
  | ret w st' => exact fun as' H' v e' s r => h as' H' v (e.trans e' hl) s (r.from (fresh_of e))
  | brk env st' => exact fun as' H' σ' e' s r => h as' H' σ' (e.trans e' hl) s r
  | cnt env st' => exact fun as' H' σ' e' s r => h as' H' σ' (e.trans e' hl) s r
  | exc x st' => exact fun as' H' cv xd e' s r => h as' H' cv xd (e.trans e' hl) s r
  | stuck => exact h
theorem SPost.bind {r : SRes} {k : SM} (hl : as.length = st.length) (h : SPost G E De as st H (r.bind k)) : SPost G E { De with nx := tS G E k De } as st H r := by
  cases r with
  | nx env st' => exact fun as' H' σ' e s r => ⟨as', st', env, s, r, (show SPost G E De as st H (k env st') from h).from hl e⟩
  | ret w st' => exact h
  | brk env st' => exact h
  | cnt env st' => exact h
  | exc x st' => exact h
  | stuck => exact h
/-- an expression's end, then a statement -/
theorem SPost.of {α : Type} {r : Res α} {k : α → Store → SRes} (hl : as.length = st.length) (h : SPost G E De as st H (match r with | .ok a st1 => k a st1 | .exc x st1 => .exc x st1 | .stuck => .stuck)) :
    Post G E as st H r fun a as1 st1 H1 => SPost G E De as st H (k a st1) := by
  cases r with
  | ok a st1 => exact fun as' H' e s => h
  | exc x st' => exact h
  | stuck => exact h
def SRes.of {α : Type} (r : Res α) (k : α → Store → SRes) : SRes := match r with
  | .ok a st1 => k a st1
  | .exc x st1 => .exc x st1
  | .stuck => .stuck
def sNext : SM := fun env st => .nx env st
def sSeq (a b : SM) : SM := fun env st => (a env st).bind b
def sBreak : SM := fun env st => .brk env st
def sCont : SM := fun env st => .cnt env st
def sDrop (e : EM) : SM := fun env st => SRes.of (e env st) fun _ st1 => .nx env st1
def sRet (e : EM) : SM := fun env st => SRes.of (e env st) fun w st1 => .ret w st1
def sRetN : SM := fun _ st => .ret (.val .non) st
def sIf (t : TM) (a b : SM) : SM := fun env st => SRes.of (t env st) fun c st1 => if c = true then a env st1 else b env st1
/-- x = e: by its value | a new container that becomes a cell -/
def sSet (i : Nat) (e : EM) : SM := fun env st => SRes.of (e env st) fun w st1 => .nx (env.set i (some w.d)) st1
def sReg (i : Nat) (e : EM) : SM := fun env st => SRes.of (e env st) fun w st1 => match w with
  | .new d => .nx (env.set i (some (.ref st1.length))) (st1 ++ [some d])
  | .val _ => .stuck
theorem tS_next (h : tS G E sNext De σ H) : tNext De σ H := by
  obtain ⟨as, st, env, s, er, p⟩ := h
  exact p as H σ Ext.rfl' s er
theorem tS_brk (h : tS G E sBreak De σ H) : tBreak De σ H := by
  obtain ⟨as, st, env, s, er, p⟩ := h
  exact p as H σ Ext.rfl' s er
theorem tS_cnt (h : tS G E sCont De σ H) : tCont De σ H := by
  obtain ⟨as, st, env, s, er, p⟩ := h
  exact p as H σ Ext.rfl' s er
theorem tS_seq {a b : SM} (h : tS G E (sSeq a b) De σ H) : tSeq (tS G E a) (tS G E b) De σ H := by
  obtain ⟨as, st, env, s, er, p⟩ := h
  exact ⟨as, st, env, s, er, p.bind s.len⟩
theorem tS_drop {e : EM} (h : tS G E (sDrop e) De σ H) : tDrop (tI G E e) De σ H := by
  obtain ⟨as, st, env, s, er, p⟩ := h
  refine ⟨as, st, env, s, er, (SPost.of s.len p).mono fun w as1 st1 H1 e1 s1 p1 v r => ?_⟩
  exact p1 as1 H1 σ e1 s1 (er.ext e1 s.len)
theorem tS_ret {e : EM} (h : tS G E (sRet e) De σ H) : tRet (tI G E e) De σ H := by
  obtain ⟨as, st, env, s, er, p⟩ := h
  refine ⟨as, st, env, s, er, (SPost.of s.len p).mono fun w as1 st1 H1 e1 s1 p1 v r => ?_⟩
  exact p1 as1 H1 v e1 s1 r
theorem tS_retN (h : tS G E sRetN De σ H) : tRetN De σ H := by
  obtain ⟨as, st, env, s, er, p⟩ := h
  exact p as H .non Ext.rfl' s .non
theorem tS_if {t : TM} {a b : SM} (h : tS G E (sIf t a b) De σ H) : tIfS (tT G E t) (tS G E a) (tS G E b) De σ H := by
  obtain ⟨as, st, env, s, er, p⟩ := h
  refine ⟨as, st, env, s, er, (SPost.of s.len p).mono fun c as1 st1 H1 e1 s1 p1 => ?_⟩
  cases c with
  | true =>
    rw [if_pos rfl] at p1 ⊢
    exact ⟨as1, st1, env, s1, er.ext e1 s.len, p1.from s.len e1⟩
  | false =>
    rw [if_neg Bool.false_ne_true] at p1 ⊢
    exact ⟨as1, st1, env, s1, er.ext e1 s.len, p1.from s.len e1⟩
theorem tS_set {i : Nat} {e : EM} (h : tS G E (sSet i e) De σ H) : tAsg (tI G E e) (gName i) De σ H := by
  obtain ⟨as, st, env, s, er, p⟩ := h
  refine ⟨as, st, env, s, er, (SPost.of s.len p).mono fun w as1 st1 H1 e1 s1 p1 v r => ?_⟩
  exact p1 as1 H1 _ e1 s1 ((er.ext e1 s.len).set r.d i)
theorem Ext.regAt {p : Addr} {d : D} (e : Ext as st H as1 st1 H1) (hl : as.length = st.length) (hl1 : as1.length = st1.length) (hp : H p = none) : Ext as st H (as1 ++ [p]) (st1 ++ [some d]) H1 := by
  refine ⟨e.pre.trans ⟨[p], rfl⟩, fun i a h hi => ?_, fun i h => ?_, by have := e.len; simp; omega, e.keep, e.there⟩
  · by_cases hi2 : i < as1.length
    · rw [List.getElem?_append_left hi2] at h
      exact e.new i a h hi
    · rw [List.getElem?_append_right (by omega)] at h
      by_cases h0 : i - as1.length = 0
      · rw [h0] at h
        have q : p = a := Option.some.inj h
        rw [← q]; exact hp
      · rw [show ([p] : List Addr)[i - as1.length]? = none from List.getElem?_eq_none_iff.mpr (by simp; omega)] at h
        cases h
  · have q := e.dead i h
    obtain ⟨hi, _⟩ := List.getElem?_eq_some_iff.mp q
    rw [List.getElem?_append_left hi]; exact q
/-- a new container becomes a cell -/
theorem RelW.reg {d : D} {v : V} (e : Ext as st H as1 st1 H1) (s : StR G as st H) (s1 : StR G as1 st1 H1) (r : RelW G H as1 st1 H1 (.new d) v) :
    ∃ p, v = .ref p ∧ Ext as st H (as1 ++ [p]) (st1 ++ [some d]) H1 ∧ StR G (as1 ++ [p]) (st1 ++ [some d]) H1 ∧ RelD G (as1 ++ [p]) (Live (as1 ++ [p]) (st1 ++ [some d])) H1 (.ref st1.length) v := by
  obtain ⟨p, rfl, hp, n, c, sl⟩ := r
  refine ⟨p, rfl, e.regAt s.len s1.len hp, sl.reg n c, .ref ?_⟩
  rw [List.getElem?_append_right (by have := s1.len; omega), show st1.length - as1.length = 0 by have := s1.len; omega]
  rfl
theorem tS_reg {i : Nat} {e : EM} (h : tS G E (sReg i e) De σ H) : tAsg (tI G E e) (gName i) De σ H := by
  obtain ⟨as, st, env, s, er, p⟩ := h
  refine ⟨as, st, env, s, er, (SPost.of s.len p).mono fun w as1 st1 H1 e1 s1 p1 v r => ?_⟩
  cases w with
  | val d => exact p1.elim
  | new d =>
    obtain ⟨q, rfl, e2, s2, r2⟩ := r.reg e1 s s1
    exact p1 _ H1 _ e2 s2 ((er.ext e2 s.len).set r2 i)
end
/-! ### targets -/
abbrev GD := D → DEnv → Option DEnv
def gdName (i : Nat) : GD := fun d env => some (env.set i (some d))
def gdSeq : List GD → List D → DEnv → Option DEnv
  | [], [], env => some env
  | g :: gs, d :: ds, env => (g d env).bind fun env1 => gdSeq gs ds env1
  | _, _, _ => none
def gdTup (gs : List GD) : GD := fun d env => match d with
  | .tup ds => gdSeq gs ds env
  | _ => none
def gdLst (gs : List GD) : GD := fun d env => match d with
  | .lst ds => gdSeq gs ds env
  | _ => none
/-- a target's reading: by a value -/
def SameBut (sl : List Nat) (σ' σ : L2.St) : Prop := ∀ vs : List Nat, (∀ i ∈ sl, i ∈ vs) → wipe σ' vs = wipe σ vs
def tG (G : Gx) (g : GD) (sl : List Nat) : TG := fun v σ H Q => ∃ as st env d env', StR G as st H ∧ EnvR G as (Live as st) H env σ ∧ RelD G as (Live as st) H d v ∧ g d env = some env' ∧ ∀ σ', EnvR G as (Live as st) H env' σ' → SameBut sl σ' σ → Q σ' H
def tGs (G : Gx) (gs : List GD) (sl : List Nat) : TGs := fun vs σ H Q => ∃ as st env ds env', StR G as st H ∧ EnvR G as (Live as st) H env σ ∧ RelDs G as (Live as st) H ds vs ∧ gdSeq gs ds env = some env' ∧ ∀ σ', EnvR G as (Live as st) H env' σ' → SameBut sl σ' σ → Q σ' H
theorem wipe_get (σ : L2.St) : ∀ (vs : List Nat) (j : Nat), (wipe σ vs)[j]? = if j ∈ vs then (if j < σ.length then some none else none) else σ[j]?
  | [], j => by simp [wipe]
  | v :: vs, j => by
    unfold wipe
    rw [List.getElem?_set]
    by_cases h : v = j
    · subst h
      simp [wipe_length]
    · rw [if_neg h, wipe_get σ vs j]
      have : j ∈ v :: vs ↔ j ∈ vs := by simp [Ne.symm h]
      by_cases hj : j ∈ vs
      · rw [if_pos hj, if_pos (this.mpr hj)]
      · rw [if_neg hj, if_neg (fun z => hj (this.mp z))]
theorem SameBut.set {σ : L2.St} {i : Nat} {x : Option V} : SameBut [i] (σ.set i x) σ := fun vs h => by
  have hi : i ∈ vs := h i (by simp)
  apply List.ext_getElem?
  intro j
  rw [wipe_get, wipe_get]
  by_cases hj : j ∈ vs
  · rw [if_pos hj, if_pos hj]; simp
  · rw [if_neg hj, if_neg hj]
    rw [List.getElem?_set_ne (fun (z : i = j) => hj (z ▸ hi))]
theorem _root_.L2.PG.vi {X : Cx} {e : Expr} {t t' : TG} (h : PG X e t) (k : ∀ v σ H Q, t' v σ H Q → t v σ H Q) : PG X e t' := ⟨fun pins s σ H v u Q I r q => h.run pins s σ H v u Q I r (k v σ H Q q)⟩
theorem _root_.L2.PGs.vi {X : Cx} {e : List Expr} {t t' : TGs} (h : PGs X e t) (k : ∀ v σ H Q, t' v σ H Q → t v σ H Q) : PGs X e t' := ⟨fun pins s σ H v u Q I r q => h.run pins s σ H v u Q I r (k v σ H Q q)⟩
theorem _root_.L2.PI.vi {X : Cx} {tg e : Expr} {t t' : TI} (h : PI X tg e t) (k : ∀ σ H Q, t' σ H Q → t σ H Q) : PI X tg e t' := ⟨fun pins s σ H R I q => h.run pins s σ H R I (k σ H R q)⟩
section
variable {G : Gx} {E : XK} {X : Cx} {De : Ends} {as as' as1 : List Addr} {st st' st1 : Store} {H H' H1 : Hp} {σ : L2.St} {pos : Pos}
theorem pG_name {i : Nat} {x : Str} (hN : X.N.Nodup) (hi : X.N[i]? = some x) (hx : Loc X.env.scope x) (hf : X.fn x = true ∨ X.env.scope.names.lookup x = some .local := by first | exact .inl rfl | exact .inr rfl | assumption) : PG X (.Name x pos) (tG G (gdName i) [i]) :=
  (pg_name hN hi hx hf).vi fun v σ H Q ⟨as, st, env, d, env', s, er, r, q, k⟩ => by
    cases q
    exact k _ (er.set r i) SameBut.set
theorem pGs_nil : PGs X [] (tGs G [] []) := pgs_nil.vi fun v σ H Q ⟨as, st, env, ds, env', s, er, r, q, k⟩ => by
  cases r with
  | nil =>
    cases q
    exact ⟨rfl, k _ er fun _ _ => rfl⟩
  | cons _ _ => cases q
theorem pGs_cons {e : Expr} {es : List Expr} {g : GD} {gs : List GD} {sl sls : List Nat} (h1 : PG X e (tG G g sl)) (h2 : PGs X es (tGs G gs sls))
    (hs : (assignEach (e :: es) X.env).map (·.2) = assign e X.env :: (assignEach es X.env).map (·.2) := by rfl) : PGs X (e :: es) (tGs G (g :: gs) (sl ++ sls)) := (pgs_cons h1 h2 hs).vi fun v σ H Q ⟨as, st, env, ds, env', s, er, r, q, k⟩ => by
  cases r with
  | nil => cases q
  | @cons d v' ds vs r rr =>
    have q : (g d env).bind (fun env1 => gdSeq gs ds env1) = some env' := q
    cases q1 : g d env with
    | none => rw [q1] at q; cases q
    | some env1 =>
      rw [q1] at q
      exact ⟨_, _, rfl, as, st, env, d, env1, s, er, r, q1, fun σ' er' sb => ⟨as, st, env1, ds, env', s, er', rr, q, fun σ2 er2 sb2 => k σ2 er2 fun vs hv => (sb2 vs fun i hi => hv i (List.mem_append_right _ hi)).trans (sb vs fun i hi => hv i (List.mem_append_left _ hi))⟩⟩
theorem pG_tup {es : List Expr} {k : Nat} {gs : List GD} {sl : List Nat} {n : Nat} (hK : G.K = X.K) (hc : X.calm = true) (h : PGs X es (tGs G gs sl)) (hgs : gs.length = n)
    (hn : (assignEach es X.env).length = n := by rfl) (hst : (assignEach es X.env).findIdx? (·.1) = none := by rfl) : PG X (.Tuple es k pos) (tG G (gdTup gs) sl) := (pg_tup hc h hn hst).vi fun v σ H Q ⟨as, st, env, d, env', s, er, r, q, k⟩ => by
  cases r with
  | @tup ds p vs hT hd =>
    have q : gdSeq gs ds env = some env' := q
    have len : ∀ (gs : List GD) (ds : List D) (env env' : DEnv), gdSeq gs ds env = some env' → ds.length = gs.length := by
      intro gs
      induction gs with
      | nil => intro ds env env' h; cases ds with
        | nil => rfl
        | cons _ _ => cases h
      | cons g gs ih => intro ds env env' h; cases ds with
        | nil => cases h
        | cons d ds =>
          have h : (g d env).bind (fun env1 => gdSeq gs ds env1) = some env' := h
          cases q1 : g d env with
          | none => rw [q1] at h; cases h
          | some env1 => rw [q1] at h; simp [ih ds env1 env' h]
    rw [hK] at hT
    exact ⟨p, vs, rfl, hT, by rw [← hd.length, len _ _ _ _ q, hgs], as, st, env, ds, env', s, er, hd, q, k⟩
  | _ => cases q
theorem pG_lst {es : List Expr} {k : Nat} {gs : List GD} {sl : List Nat} {n : Nat} (hK : G.K = X.K) (hc : X.calm = true) (h : PGs X es (tGs G gs sl)) (hgs : gs.length = n)
    (hn : (assignEach es X.env).length = n := by rfl) (hst : (assignEach es X.env).findIdx? (·.1) = none := by rfl) : PG X (.Tuple es k pos) (tG G (gdLst gs) sl) := (pg_unl hc h hn hst).vi fun v σ H Q ⟨as, st, env, d, env', s, er, r, q, k⟩ => by
  have len : ∀ (gs : List GD) (ds : List D) (env env' : DEnv), gdSeq gs ds env = some env' → ds.length = gs.length := by
    intro gs
    induction gs with
    | nil => intro ds env env' h; cases ds with
      | nil => rfl
      | cons _ _ => cases h
    | cons g gs ih => intro ds env env' h; cases ds with
      | nil => cases h
      | cons d ds =>
        have h : (g d env).bind (fun env1 => gdSeq gs ds env1) = some env' := h
        cases q1 : g d env with
        | none => rw [q1] at h; cases h
        | some env1 => rw [q1] at h; simp [ih ds env1 env' h]
  cases r with
  | @lst ds p vs hT hL hd =>
    have q : gdSeq gs ds env = some env' := q
    exact ⟨p, vs, rfl, .inl hT, by rw [← hd.length, len _ _ _ _ q, hgs], as, st, env, ds, env', s, er, hd, q, k⟩
  | @lstK ds p vs hT hd =>
    have q : gdSeq gs ds env = some env' := q
    rw [hK] at hT
    exact ⟨p, vs, rfl, .inr hT, by rw [← hd.length, len _ _ _ _ q, hgs], as, st, env, ds, env', s, er, hd, q, k⟩
  | _ => cases q

/-- an expression, then a target: by value -/
def sAsg (g : GD) (e : EM) : SM := fun env st => SRes.of (e env st) fun w st1 => match g w.d env with
  | some env1 => .nx env1 st1
  | none => .stuck
theorem tS_asg {g : GD} {sl : List Nat} {e : EM} (h : tS G E (sAsg g e) De σ H) : tAsg (tI G E e) (tG G g sl) De σ H := by
  obtain ⟨as, st, env, s, er, p⟩ := h
  refine ⟨as, st, env, s, er, (SPost.of s.len p).mono fun w as1 st1 H1 e1 s1 p1 v r => ?_⟩
  cases q : g w.d env with
  | none => simp only [q] at p1; exact p1.elim
  | some env1 =>
    simp only [q] at p1
    exact ⟨as1, st1, env, w.d, env1, s1, er.ext e1 s.len, r.d, q, fun σ' er' _ => p1 as1 H1 σ' e1 s1 er'⟩
/-- a, b = x, y -/
def sPar (i j : Nat) (m : AM) : SM := fun env st => SRes.of (m env st) fun ds st1 => match ds with
  | [d, e] => .nx ((env.set i (some d)).set j (some e)) st1
  | _ => .stuck
theorem tS_par {i j : Nat} {m : AM} (h : tS G E (sPar i j m) De σ H) : tPar i j (tAr G E m) De σ H := by
  obtain ⟨as, st, env, s, er, p⟩ := h
  refine ⟨as, st, env, s, er, (SPost.of s.len p).mono fun ds as1 st1 H1 e1 s1 p1 vs r => ?_⟩
  cases r with
  | nil => exact p1.elim
  | cons r1 r =>
    cases r with
    | nil => exact p1.elim
    | cons r2 r =>
      cases r with
      | nil => exact ⟨_, _, rfl, p1 as1 H1 _ e1 s1 (((er.ext e1 s.len).set r1 i).set r2 j)⟩
      | cons _ _ => exact p1.elim

/-! ### what a for walks -/
structure IterV where
  items : List D
  src : Option Nat
abbrev IM := DEnv → Store → Res IterV
def srcOk (iv : IterV) (st : Store) : Bool := match iv.src with
  | none => true
  | some n => decide (st[n]? = some (some (.lst iv.items)))
structure Src (G : Gx) (J : It) (iv : IterV) (as : List Addr) (st : Store) (H : Hp) : Prop where
  go : ∀ as' st' H', Ext as st H as' st' H' → StR G as' st' H' → srcOk iv st' = true → ∀ (i : Nat) (d : D), iv.items[i]? = some d →
    J.go i H' ∧ ∀ x H2, J.yld i H' x H2 → Ext as' st' H' as' st' H2 ∧ StR G as' st' H2 ∧ RelD G as' (Live as' st') H2 d x
  stop : ∀ as' st' H', Ext as st H as' st' H' → StR G as' st' H' → srcOk iv st' = true → ∀ i : Nat, iv.items.length ≤ i → J.stop i H'
def tIt (G : Gx) (E : XK) (m : IM) : TI := fun σ H R => ∃ as st env, StR G as st H ∧ EnvR G as (Live as st) H env σ ∧ Post G E as st H (m env st) fun iv as' st' H' => ∀ J, Src G J iv as' st' H' → R J H'
def forGo (iv : IterV) (g : GD) (body : SM) : List D → SM
  | [], env, st => if srcOk iv st = true then .nx env st else .stuck
  | d :: r, env, st => if srcOk iv st = true then (match g d env with
    | none => .stuck
    | some env1 => match body env1 st with
      | .nx e s => forGo iv g body r e s
      | .cnt e s => forGo iv g body r e s
      | .brk e s => .nx e s
      | .ret w s => .ret w s
      | .exc x s => .exc x s
      | .stuck => .stuck) else .stuck
def sFor (m : IM) (g : GD) (body : SM) : SM := fun env st => SRes.of (m env st) fun iv st1 => forGo iv g body iv.items env st1
theorem tS_for {m : IM} {g : GD} {sl : List Nat} {body : SM} (h : tS G E (sFor m g body) De σ H) : tFor (tIt G E m) (tG G g sl) (tS G E body) De σ H := by
  obtain ⟨as, st, env, s, er, p⟩ := h
  refine ⟨as, st, env, s, er, (SPost.of s.len p).mono fun iv as1 st1 H1 e1 s1 p1 J SJ => ?_⟩
  refine ⟨fun i m σ' H' => i ≤ iv.items.length ∧ m = iv.items.length - i ∧ ∃ as2 st2 env2, Ext as1 st1 H1 as2 st2 H' ∧ StR G as2 st2 H' ∧ EnvR G as2 (Live as2 st2) H' env2 σ' ∧ SPost G E De as2 st2 H' (forGo iv g body (iv.items.drop i) env2 st2),
    ⟨iv.items.length, by omega, by omega, as1, st1, env, Ext.rfl', s1, er.ext e1 s.len, by rw [List.drop_zero]; exact p1.from s.len e1⟩, ?_⟩
  rintro i m σ' H' ⟨hi, rfl, as2, st2, env2, e2, s2, er2, p2⟩
  by_cases hlt : i < iv.items.length
  · rw [List.drop_eq_getElem_cons hlt] at p2
    unfold forGo at p2
    by_cases ok : srcOk iv st2 = true
    · rw [if_pos ok] at p2
      obtain ⟨hgo, hy⟩ := SJ.go as2 st2 H' e2 s2 ok i iv.items[i] (List.getElem?_eq_getElem hlt)
      refine .inr ⟨hgo, fun σ3 H3 => ∃ as3 st3 env3, Ext as1 st1 H1 as3 st3 H3 ∧ StR G as3 st3 H3 ∧ EnvR G as3 (Live as3 st3) H3 env3 σ3 ∧ SPost G E De as3 st3 H3 (forGo iv g body (iv.items.drop (i + 1)) env3 st3),
        fun σ3 H3 ⟨as3, st3, env3, q⟩ => ⟨iv.items.length - (i + 1), by omega, by omega, rfl, as3, st3, env3, q⟩, fun x H2 hx => ?_⟩
      obtain ⟨e3, s3, r3⟩ := hy x H2 hx
      cases q : g iv.items[i] env2 with
      | none => simp only [q] at p2; exact p2.elim
      | some env3 =>
        simp only [q] at p2
        have p3 := p2.from s2.len e3
        refine ⟨as2, st2, env2, iv.items[i], env3, s3, er2.ext e3 s2.len, r3, q, fun σ3 er3 _ => ⟨as2, st2, env3, s3, er3, ?_⟩⟩
        have ee : Ext as1 st1 H1 as2 st2 H2 := e2.trans e3 s1.len
        cases qb : body env3 st2 with
        | nx e s =>
          simp only [qb] at p3
          exact fun as4 H4 σ4 e4 s4 r4 => ⟨as4, s, e, ee.trans e4 s1.len, s4, r4, p3.from s3.len e4⟩
        | cnt e s =>
          simp only [qb] at p3
          exact fun as4 H4 σ4 e4 s4 r4 => ⟨as4, s, e, ee.trans e4 s1.len, s4, r4, p3.from s3.len e4⟩
        | brk e s => simp only [qb] at p3; exact p3
        | ret w s => simp only [qb] at p3; exact p3
        | exc x s => simp only [qb] at p3; exact p3
        | stuck => simp only [qb] at p3; exact p3
    · rw [if_neg ok] at p2; exact p2.elim
  · rw [List.drop_of_length_le (by omega)] at p2
    unfold forGo at p2
    by_cases ok : srcOk iv st2 = true
    · rw [if_pos ok] at p2
      exact .inl ⟨SJ.stop as2 st2 H' e2 s2 ok i (by omega), p2 as2 H' σ' Ext.rfl' s2 er2⟩
    · rw [if_neg ok] at p2; exact p2.elim
end
end VI
namespace VI
open PySem PySem.Spec PyProof.Rows L2
theorem _root_.L2.PI.viOr {X : Cx} {tg e : Expr} {t t' : TI} (h : PI X tg e t) (h' : PI X tg e t') : PI X tg e (fun σ H R => t σ H R ∨ t' σ H R) := ⟨fun pins s σ H R I q => q.elim (h.run pins s σ H R I) (h'.run pins s σ H R I)⟩
def lstOf (d : D) (st : Store) : Option (List D × Option Nat) := match d with
  | .lst ds => some (ds, none)
  | .ref n => match st[n]? with
    | some (some (.lst ds)) => some (ds, some n)
    | _ => none
  | _ => none
def seqOf (d : D) (st : Store) : Option (List D × Option Nat) := match d with
  | .tup ds => some (ds, none)
  | .str x => some (x.cps.toList.map fun c => D.str ⟨#[c]⟩, none)
  | d => lstOf d st
def itSeq (e : EM) : IM := fun env st => (e env st).bind fun w st1 => match seqOf w.d st1 with
  | some (ds, src) => .ok ⟨ds, src⟩ st1
  | none => .stuck
def rangeD (lo : Int) (n : Nat) : List D := (List.range n).map fun (i : Nat) => D.int (lo + (i : Int))
def okR (i : Int) : Bool := decide (-(2 ^ 62) ≤ i) && decide (i < 2 ^ 62)
def itR1 (m : AM) : IM := fun env st => (m env st).bind fun ds st1 => match ds with
  | [.int j] => if okR j = true then .ok ⟨rangeD 0 j.toNat, none⟩ st1 else .stuck
  | _ => .stuck
def itR2 (m : AM) : IM := fun env st => (m env st).bind fun ds st1 => match ds with
  | [.int i, .int j] => if (okR i && okR j) = true then .ok ⟨rangeD i (j - i).toNat, none⟩ st1 else .stuck
  | _ => .stuck
def numD : Nat → List D → List D
  | _, [] => []
  | i, d :: ds => .tup [.int (i : Nat), d] :: numD (i + 1) ds
def itEnum (m : AM) : IM := fun env st => (m env st).bind fun ds st1 => match ds with
  | [d] => match lstOf d st1 with
    | some (ds, none) => .ok ⟨numD 0 ds, none⟩ st1
    | _ => .stuck
  | _ => .stuck
def zipD : List D → List D → List D
  | a :: as, b :: bs => .tup [a, b] :: zipD as bs
  | _, _ => []
def itZip (m : AM) : IM := fun env st => (m env st).bind fun ds st1 => match ds with
  | [.tup a, .tup b] => .ok ⟨zipD a b, none⟩ st1
  | [.lst a, .lst b] => .ok ⟨zipD a b, none⟩ st1
  | _ => .stuck
def itRev (e : EM) : IM := fun env st => (e env st).bind fun w st1 => match w.d with
  | .tup ds => .ok ⟨ds.reverse, none⟩ st1
  | .lst ds => .ok ⟨ds.reverse, none⟩ st1
  | _ => .stuck
section
variable {G : Gx} {E : XK} {X : Cx} {De : Ends} {as as' as1 : List Addr} {st st' st1 : Store} {H H' H1 : Hp} {σ : L2.St} {pos : Pos} {L : Addr → Prop}
theorem RelDs.get : ∀ {ds : List D} {vs : List V} {i : Nat} {d : D}, RelDs G as L H ds vs → ds[i]? = some d → ∃ v, vs[i]? = some v ∧ RelD G as L H d v
  | _, _, _, _, .nil, h => by simp at h
  | _, _, 0, _, .cons r _, h => by
    simp at h
    exact ⟨_, rfl, h ▸ r⟩
  | _, _, i + 1, d, .cons _ t, h => by
    obtain ⟨v, h1, h2⟩ := RelDs.get (i := i) (d := d) t (by simpa using h)
    exact ⟨v, by simpa using h1, h2⟩
/-- a list, by value or a cell, as HandS reads it -/
theorem lstOf_sq (s : StR G as st H) {d : D} {v : V} {ds : List D} {src : Option Nat} (r : RelD G as (Live as st) H d v) (h : lstOf d st = some (ds, src)) :
    ∃ p vs, v = .ref p ∧ SqL G.K H p vs ∧ RelDs G as (Live as st) H ds vs := by
  cases r with
  | @ref n a ha =>
    unfold lstOf at h
    cases q : st[n]? with
    | none => simp only [q] at h; cases h
    | some o =>
      cases o with
      | none => simp only [q] at h; cases h
      | some d =>
        cases d with
        | lst ds' =>
          simp only [q] at h
          cases h
          obtain ⟨a', ha', vs, hv, rr⟩ := s.cells n _ q
          rw [ha] at ha'; cases ha'
          exact ⟨a, vs, rfl, .inl (.inl hv), rr⟩
        | _ => simp only [q] at h; cases h
  | @lst ds' p vs hr hl rr => cases h; exact ⟨p, vs, rfl, .inl hr, rr⟩
  | @lstK ds' p vs hr rr => cases h; exact ⟨p, vs, rfl, .inr hr, rr⟩
  | _ => simp only [lstOf] at h; cases h
theorem lstOf_src {d : D} {ds : List D} {n : Nat} (h : lstOf d st = some (ds, some n)) : d = .ref n ∧ st[n]? = some (some (.lst ds)) := by
  cases d with
  | ref m =>
    simp only [lstOf] at h
    cases q : st[m]? with
    | none => simp only [q] at h; cases h
    | some o =>
      cases o with
      | none => simp only [q] at h; cases h
      | some d =>
        cases d with
        | lst ds' => simp only [q] at h; cases h; exact ⟨rfl, q⟩
        | _ => simp only [q] at h; cases h
  | _ => simp only [lstOf] at h; cases h
theorem lstOf_later {d : D} {ds : List D} {src : Option Nat} (h : lstOf d st = some (ds, src)) (ok : srcOk ⟨ds, src⟩ st' = true) : lstOf d st' = some (ds, src) := by
  cases src with
  | none =>
    cases d with
    | ref m =>
      simp only [lstOf] at h
      cases q : st[m]? with
      | none => simp only [q] at h; cases h
      | some o =>
        cases o with
        | none => simp only [q] at h; cases h
        | some d => cases d <;> simp only [q] at h <;> cases h
    | lst _ => exact h
    | _ => simp only [lstOf] at h; cases h
  | some n =>
    obtain ⟨rfl, _⟩ := lstOf_src h
    have ok : st'[n]? = some (some (.lst ds)) := by simpa [srcOk] using ok
    simp only [lstOf, ok]
theorem src_lst (s : StR G as st H) {d : D} {a : Addr} {ds : List D} {src : Option Nat} (r : RelD G as (Live as st) H d (.ref a)) (h : lstOf d st = some (ds, src)) : Src G (Itl G.K a) ⟨ds, src⟩ as st H where
  go := fun as' st' H' e s' ok i d' hi => by
    obtain ⟨p, vs, ep, hs, rr⟩ := lstOf_sq s' (r.ext e s.len) (lstOf_later h ok)
    cases ep
    obtain ⟨x, hx, rx⟩ := rr.get hi
    refine ⟨⟨vs, x, hs, hx⟩, fun y H2 hy => ?_⟩
    obtain ⟨rfl, hy⟩ := hy
    have := hy vs hs
    rw [hx] at this; cases this
    exact ⟨Ext.rfl', s', rx⟩
  stop := fun as' st' H' e s' ok i hi => by
    obtain ⟨p, vs, ep, hs, rr⟩ := lstOf_sq s' (r.ext e s.len) (lstOf_later h ok)
    cases ep
    exact ⟨vs, hs, by rw [← rr.length]; exact hi⟩
theorem src_tup (s : StR G as st H) {p : Addr} {vs : List V} {ds : List D} (h : SqT G.K H p vs) (rr : RelDs G as (Live as st) H ds vs) : Src G (Itt G.K p) ⟨ds, none⟩ as st H where
  go := fun as' st' H' e s' ok i d' hi => by
    have hs : SqT G.K H' p vs := sqT_mono (L := Live as st) e.keep h
    obtain ⟨x, hx, rx⟩ := (rr.ext e s.len).get hi
    refine ⟨⟨vs, x, hs, hx⟩, fun y H2 hy => ?_⟩
    obtain ⟨rfl, hy⟩ := hy
    have := hy vs hs
    rw [hx] at this; cases this
    exact ⟨Ext.rfl', s', rx⟩
  stop := fun as' st' H' e s' ok i hi => ⟨vs, sqT_mono (L := Live as st) e.keep h, by rw [← rr.length]; exact hi⟩
theorem src_str {x : Str} : Src G (Its x) ⟨x.cps.toList.map fun c => D.str ⟨#[c]⟩, none⟩ as st H where
  go := fun as' st' H' e s' ok i d' hi => by
    have hi : (x.cps.toList.map fun c => D.str ⟨#[c]⟩)[i]? = some d' := hi
    rw [List.getElem?_map] at hi
    cases q : x.cps.toList[i]? with
    | none => rw [q] at hi; cases hi
    | some c =>
      rw [q] at hi
      cases hi
      obtain ⟨h1, h2⟩ := List.getElem?_eq_some_iff.mp q
      refine ⟨by show i < x.cps.size; simpa using h1, fun y H2 hy => ?_⟩
      obtain ⟨rfl, c', hc, rfl⟩ := hy
      have : x.cps[i]? = some c := by rw [← q]; simp
      rw [this] at hc; cases hc
      exact ⟨Ext.rfl', s', .str _⟩
  stop := fun as' st' H' e s' ok i hi => by
    show x.cps.size ≤ i
    simpa using hi
theorem src_rng {lo : Int} {n : Nat} : Src G (Itr lo n) ⟨rangeD lo n, none⟩ as st H where
  go := fun as' st' H' e s' ok i d' hi => by
    have hi : (rangeD lo n)[i]? = some d' := hi
    unfold rangeD at hi
    rw [List.getElem?_map] at hi
    cases q : (List.range n)[i]? with
    | none => rw [q] at hi; cases hi
    | some c =>
      rw [q] at hi
      cases hi
      obtain ⟨h1, h2⟩ := List.getElem?_eq_some_iff.mp q
      simp at h1 h2
      subst h2
      refine ⟨h1, fun y H2 hy => ?_⟩
      obtain ⟨rfl, rfl⟩ := hy
      exact ⟨Ext.rfl', s', .int _⟩
  stop := fun as' st' H' e s' ok i hi => by
    show n ≤ i
    simpa [rangeD] using hi
theorem numD_get : ∀ (ds : List D) (k i : Nat) (d : D), (numD k ds)[i]? = some d → ∃ x, ds[i]? = some x ∧ d = .tup [.int ((k + i : Nat) : Int), x]
  | [], _, _, _, h => by simp [numD] at h
  | x :: ds, k, 0, d, h => by
    simp [numD] at h
    exact ⟨x, rfl, by rw [← h]; simp⟩
  | x :: ds, k, i + 1, d, h => by
    obtain ⟨y, h1, h2⟩ := numD_get ds (k + 1) i d (by simpa [numD] using h)
    exact ⟨y, by simpa using h1, by rw [h2]; simp; omega⟩
theorem numD_len : ∀ (ds : List D) (k : Nat), (numD k ds).length = ds.length
  | [], _ => rfl
  | x :: ds, k => by simp [numD, numD_len ds (k + 1)]
theorem src_enum (s : StR G as st H) {d : D} {a : Addr} {ds : List D} (r : RelD G as (Live as st) H d (.ref a)) (h : lstOf d st = some (ds, none)) : Src G (Ite G.K a) ⟨numD 0 ds, none⟩ as st H where
  go := fun as' st' H' e s' ok i d' hi => by
    obtain ⟨p, vs, ep, hs, rr⟩ := lstOf_sq s' (r.ext e s.len) (lstOf_later h rfl)
    cases ep
    obtain ⟨y, hy, rfl⟩ := numD_get ds 0 i d' hi
    obtain ⟨x, hx, rx⟩ := rr.get hy
    refine ⟨⟨vs, x, hs, hx⟩, fun z H2 hz => ?_⟩
    obtain ⟨T, x', rfl, hT, rfl, hall⟩ := hz
    have := hall vs hs
    rw [hx] at this; cases this
    refine ⟨Ext.lay hT, s'.laid hT, ?_⟩
    have q : RelDs G as' (Live as' st') H' [.int ((0 + i : Nat) : Int), y] [.int (i : Nat), x] := .cons (by rw [Nat.zero_add]; exact .int _) (.cons rx .nil)
    exact RelD.newTup s' q hT
  stop := fun as' st' H' e s' ok i hi => by
    obtain ⟨p, vs, ep, hs, rr⟩ := lstOf_sq s' (r.ext e s.len) (lstOf_later h rfl)
    cases ep
    have hi : (numD 0 ds).length ≤ i := hi
    rw [numD_len] at hi
    exact ⟨vs, hs, by rw [← rr.length]; exact hi⟩
theorem zipD_get : ∀ (as bs : List D) (i : Nat) (d : D), (zipD as bs)[i]? = some d → ∃ x y, as[i]? = some x ∧ bs[i]? = some y ∧ d = .tup [x, y]
  | [], _, _, _, h => by simp [zipD] at h
  | _ :: _, [], _, _, h => by simp [zipD] at h
  | a :: as, b :: bs, 0, d, h => by
    simp [zipD] at h
    exact ⟨a, b, rfl, rfl, h.symm⟩
  | a :: as, b :: bs, i + 1, d, h => by
    obtain ⟨x, y, h1, h2, h3⟩ := zipD_get as bs i d (by simpa [zipD] using h)
    exact ⟨x, y, by simpa using h1, by simpa using h2, h3⟩
theorem zipD_len : ∀ (as bs : List D), (zipD as bs).length = min as.length bs.length
  | [], _ => by simp [zipD]
  | _ :: _, [] => by simp [zipD]
  | a :: as, b :: bs => by simp [zipD, zipD_len as bs]
theorem src_zipT (s : StR G as st H) {p q : Addr} {xs ys : List V} {a b : List D} (h1 : SqT G.K H p xs) (h2 : SqT G.K H q ys) (r1 : RelDs G as (Live as st) H a xs) (r2 : RelDs G as (Live as st) H b ys) : Src G (RZ.ItzT G.K p q) ⟨zipD a b, none⟩ as st H where
  go := fun as' st' H' e s' ok i d' hi => by
    have k1 : SqT G.K H' p xs := sqT_mono (L := Live as st) e.keep h1
    have k2 : SqT G.K H' q ys := sqT_mono (L := Live as st) e.keep h2
    obtain ⟨y, z, hy, hz, rfl⟩ := zipD_get a b i d' hi
    obtain ⟨x1, hx1, rx1⟩ := (r1.ext e s.len).get hy
    obtain ⟨x2, hx2, rx2⟩ := (r2.ext e s.len).get hz
    refine ⟨⟨xs, ys, x1, x2, k1, k2, hx1, hx2⟩, fun z H2 hz => ?_⟩
    obtain ⟨T, x', y', rfl, hT, rfl, g1, g2⟩ := hz
    have e1 := g1 xs k1
    have e2 := g2 ys k2
    rw [hx1] at e1; cases e1
    rw [hx2] at e2; cases e2
    exact ⟨Ext.lay hT, s'.laid hT, RelD.newTup s' (.cons rx1 (.cons rx2 .nil)) hT⟩
  stop := fun as' st' H' e s' ok i hi => by
    have hi : (zipD a b).length ≤ i := hi
    rw [zipD_len] at hi
    refine ⟨xs, ys, sqT_mono (L := Live as st) e.keep h1, sqT_mono (L := Live as st) e.keep h2, ?_⟩
    rw [← r1.length, ← r2.length]
    omega
theorem src_zipL (s : StR G as st H) {p q : Addr} {a b : List D} (h1 : RelD G as (Live as st) H (.lst a) (.ref p)) (h2 : RelD G as (Live as st) H (.lst b) (.ref q)) : Src G (Itz G.K p q) ⟨zipD a b, none⟩ as st H where
  go := fun as' st' H' e s' ok i d' hi => by
    obtain ⟨p', xs, ep, k1, r1⟩ := lstOf_sq s' (h1.ext e s.len) (ds := a) (src := none) rfl
    cases ep
    obtain ⟨q', ys, eq, k2, r2⟩ := lstOf_sq s' (h2.ext e s.len) (ds := b) (src := none) rfl
    cases eq
    obtain ⟨y, z, hy, hz, rfl⟩ := zipD_get a b i d' hi
    obtain ⟨x1, hx1, rx1⟩ := r1.get hy
    obtain ⟨x2, hx2, rx2⟩ := r2.get hz
    refine ⟨⟨xs, ys, x1, x2, k1, k2, hx1, hx2⟩, fun z H2 hz => ?_⟩
    obtain ⟨T, x', y', rfl, hT, rfl, g1, g2⟩ := hz
    have e1 := g1 xs k1
    have e2 := g2 ys k2
    rw [hx1] at e1; cases e1
    rw [hx2] at e2; cases e2
    exact ⟨Ext.lay hT, s'.laid hT, RelD.newTup s' (.cons rx1 (.cons rx2 .nil)) hT⟩
  stop := fun as' st' H' e s' ok i hi => by
    obtain ⟨p', xs, ep, k1, r1⟩ := lstOf_sq s' (h1.ext e s.len) (ds := a) (src := none) rfl
    cases ep
    obtain ⟨q', ys, eq, k2, r2⟩ := lstOf_sq s' (h2.ext e s.len) (ds := b) (src := none) rfl
    cases eq
    have hi : (zipD a b).length ≤ i := hi
    rw [zipD_len] at hi
    refine ⟨xs, ys, k1, k2, ?_⟩
    rw [← r1.length, ← r2.length]
    omega
theorem rev_get {α : Type} (xs : List α) (i : Nat) (d : α) (h : xs.reverse[i]? = some d) : i < xs.length ∧ xs[xs.length - 1 - i]? = some d := by
  obtain ⟨h1, h2⟩ := List.getElem?_eq_some_iff.mp h
  have h1' : i < xs.length := by simpa using h1
  refine ⟨h1', ?_⟩
  rw [List.getElem?_reverse h1'] at h
  exact h
theorem src_revT (s : StR G as st H) {p : Addr} {vs : List V} {ds : List D} (h : SqT G.K H p vs) (rr : RelDs G as (Live as st) H ds vs) : Src G (RT.ItvT G.K p vs.length) ⟨ds.reverse, none⟩ as st H where
  go := fun as' st' H' e s' ok i d' hi => by
    have hs : SqT G.K H' p vs := sqT_mono (L := Live as st) e.keep h
    obtain ⟨hl, hg⟩ := rev_get ds i d' hi
    obtain ⟨x, hx, rx⟩ := (rr.ext e s.len).get hg
    rw [rr.length] at hl hx
    refine ⟨⟨hl, vs, x, hs, hx⟩, fun y H2 hy => ?_⟩
    obtain ⟨rfl, hy⟩ := hy
    have := hy vs hs
    rw [hx] at this; cases this
    exact ⟨Ext.rfl', s', rx⟩
  stop := fun as' st' H' e s' ok i hi => by
    show vs.length ≤ i
    rw [← rr.length]; simpa using hi
theorem src_revL (s : StR G as st H) {p : Addr} {vs : List V} {ds : List D} (h : RelD G as (Live as st) H (.lst ds) (.ref p)) (hv : SqL G.K H p vs) (rr : RelDs G as (Live as st) H ds vs) : Src G (Itv G.K p vs.length) ⟨ds.reverse, none⟩ as st H where
  go := fun as' st' H' e s' ok i d' hi => by
    obtain ⟨p', xs, ep, k1, r1⟩ := lstOf_sq s' (h.ext e s.len) (ds := ds) (src := none) rfl
    cases ep
    obtain ⟨hl, hg⟩ := rev_get ds i d' hi
    obtain ⟨x, hx, rx⟩ := r1.get hg
    rw [rr.length] at hl hx
    refine ⟨⟨hl, xs, x, k1, hx⟩, fun y H2 hy => ?_⟩
    obtain ⟨rfl, hy⟩ := hy
    have := hy xs k1
    rw [hx] at this; cases this
    exact ⟨Ext.rfl', s', rx⟩
  stop := fun as' st' H' e s' ok i hi => by
    show vs.length ≤ i
    rw [← rr.length]; simpa using hi
end
end VI
namespace VI
open PySem PySem.Spec PyProof.Rows L2
/-! ### cutting a store -/
mutual
def refsLt (k : Nat) : D → Bool
  | .ref n => decide (n < k)
  | .tup ds => refsLts k ds
  | .lst ds => refsLts k ds
  | .dic kvs => refsLtK k kvs
  | .obj _ fs => refsLtF k fs
  | _ => true
def refsLts (k : Nat) : List D → Bool
  | [] => true
  | d :: ds => refsLt k d && refsLts k ds
def refsLtK (k : Nat) : List (D × D) → Bool
  | [] => true
  | (a, b) :: ds => (refsLt k a && refsLt k b) && refsLtK k ds
def refsLtF (k : Nat) : List (Str × D) → Bool
  | [] => true
  | (_, b) :: ds => refsLt k b && refsLtF k ds
end
section
variable {G : Gx} {as : List Addr} {L : Addr → Prop} {H : Hp} {k : Nat}
mutual
theorem RelD.cut : ∀ {d : D} {v : V}, refsLt k d = true → RelD G as L H d v → RelD G (as.take k) L H d v
  | _, _, _, .non => .non
  | _, _, _, .bl b => .bl b
  | _, _, _, .int i => .int i
  | _, _, _, .str x => .str x
  | _, _, _, .ty n => .ty n
  | _, _, _, .cl h => .cl h
  | _, _, q, .ref h => .ref (by
      simp only [refsLt, decide_eq_true_eq] at q
      rw [List.getElem?_take_of_lt q]; exact h)
  | _, _, q, .tup h r => .tup h (RelDs.cut (by simpa only [refsLt] using q) r)
  | _, _, q, .lst h n r => .lst h n (RelDs.cut (by simpa only [refsLt] using q) r)
  | _, _, q, .lstK h r => .lstK h (RelDs.cut (by simpa only [refsLt] using q) r)
  | _, _, _, .dic0 h n => .dic0 h n
  | _, _, q, .obj c h1 h2 n r => .obj c h1 h2 n (RelFs.cut (by simpa only [refsLt] using q) r)
theorem RelDs.cut : ∀ {d : List D} {v : List V}, refsLts k d = true → RelDs G as L H d v → RelDs G (as.take k) L H d v
  | _, _, _, .nil => .nil
  | _, _, q, .cons r t => by
    simp only [refsLts, Bool.and_eq_true] at q
    exact .cons (RelD.cut q.1 r) (RelDs.cut q.2 t)
theorem RelFs.cut : ∀ {d : List (Str × D)} {v : List (Str × V)}, refsLtF k d = true → RelFs G as L H d v → RelFs G (as.take k) L H d v
  | _, _, _, .nil => .nil
  | _, _, q, .cons r t => by
    simp only [refsLtF, Bool.and_eq_true] at q
    exact .cons (RelD.cut q.1 r) (RelFs.cut q.2 t)
end
mutual
theorem RelD.refs : ∀ {d : D} {v : V}, RelD G as L H d v → refsLt as.length d = true
  | _, _, .non => by simp [refsLt]
  | _, _, .bl b => by simp [refsLt]
  | _, _, .int i => by simp [refsLt]
  | _, _, .str x => by simp [refsLt]
  | _, _, .ty n => by simp [refsLt]
  | _, _, .cl h => by simp [refsLt]
  | _, _, .ref h => by
      obtain ⟨h1, _⟩ := List.getElem?_eq_some_iff.mp h
      simp [refsLt, h1]
  | _, _, .tup h r => by simp only [refsLt]; exact RelDs.refs r
  | _, _, .lst h n r => by simp only [refsLt]; exact RelDs.refs r
  | _, _, .lstK h r => by simp only [refsLt]; exact RelDs.refs r
  | _, _, .dic0 h n => by simp [refsLt, refsLtK]
  | _, _, .obj c h1 h2 n r => by simp only [refsLt]; exact RelFs.refs r
theorem RelDs.refs : ∀ {d : List D} {v : List V}, RelDs G as L H d v → refsLts as.length d = true
  | _, _, .nil => by simp [refsLts]
  | _, _, .cons r t => by simp only [refsLts, Bool.and_eq_true]; exact ⟨RelD.refs r, RelDs.refs t⟩
theorem RelFs.refs : ∀ {d : List (Str × D)} {v : List (Str × V)}, RelFs G as L H d v → refsLtF as.length d = true
  | _, _, .nil => by simp [refsLtF]
  | _, _, .cons r t => by simp only [refsLtF, Bool.and_eq_true]; exact ⟨RelD.refs r, RelFs.refs t⟩
end
theorem CellR.cut {a : Addr} {d : D} (q : refsLt k d = true) (h : CellR G as L H a d) : CellR G (as.take k) L H a d := by
  cases d with
  | lst ds => obtain ⟨vs, e, r⟩ := h; exact ⟨vs, e, r.cut (by simpa only [refsLt] using q)⟩
  | dic kvs =>
    cases kvs with
    | nil => exact h
    | cons _ _ => exact False.elim h
  | obj c fs => obtain ⟨C, dx, vfs, c, e, e2, r⟩ := h; exact ⟨C, dx, vfs, c, e, e2, r.cut (by simpa only [refsLt] using q)⟩
  | _ => exact False.elim h
theorem CellR.refs {a : Addr} {d : D} (h : CellR G as L H a d) : refsLt as.length d = true := by
  cases d with
  | lst ds => obtain ⟨vs, e, r⟩ := h; simp only [refsLt]; exact r.refs
  | dic kvs =>
    cases kvs with
    | nil => simp [refsLt, refsLtK]
    | cons _ _ => exact False.elim h
  | obj c fs => obtain ⟨C, dx, vfs, c, e, e2, r⟩ := h; simp only [refsLt]; exact r.refs
  | _ => exact False.elim h
end
def cellLt (k : Nat) : Option D → Bool
  | some d => refsLt k d
  | none => true
/-- the store back to what it was at st0 (its cells may have changed) -/
def cutOk (st0 st' : Store) : Bool := decide (st0.length ≤ st'.length) && (decide (st'.take st0.length = st0) || (st'.take st0.length).all (cellLt st0.length))
section
variable {G : Gx} {as as0 as' : List Addr} {st st0 st' : Store} {H H0 H' : Hp} {L : Addr → Prop}
theorem cutOk_cells (s0 : StR G as0 st0 H0) (h : cutOk st0 st' = true) (i : Nat) (d : D) (hi : (st'.take st0.length)[i]? = some (some d)) : refsLt st0.length d = true := by
  unfold cutOk at h
  simp only [Bool.and_eq_true, Bool.or_eq_true, decide_eq_true_eq] at h
  rcases h.2 with h2 | h2
  · rw [h2] at hi
    obtain ⟨a, _, c⟩ := s0.cells i d hi
    have := c.refs
    rw [s0.len] at this; exact this
  · rw [List.all_eq_true] at h2
    exact h2 _ (List.mem_of_getElem? hi)
theorem live_cut {k : Nat} {b : Addr} (h : Live (as'.take k) (st'.take k) b) : Live as' st' b := by
  obtain ⟨i, d, h1, h2⟩ := h
  refine ⟨i, d, ?_, ?_⟩
  · by_cases hi : i < k
    · rw [List.getElem?_take_of_lt hi] at h1; exact h1
    · rw [List.getElem?_take_eq_none (by omega)] at h1; cases h1
  · by_cases hi : i < k
    · rw [List.getElem?_take_of_lt hi] at h2; exact h2
    · rw [List.getElem?_take_eq_none (by omega)] at h2; cases h2
theorem StR.cut (s0 : StR G as0 st0 H0) (s : StR G as' st' H') (h : cutOk st0 st' = true) : StRL G (as'.take st0.length) (Live as' st') (st'.take st0.length) H' := by
  refine ⟨by simp [s.len], s.nd.sublist (List.take_sublist _ _), fun i d hi => ?_, fun i a hi => ?_⟩
  · have q := cutOk_cells s0 h i d hi
    by_cases hk : i < st0.length
    · rw [List.getElem?_take_of_lt hk] at hi
      obtain ⟨a, h1, c⟩ := s.cells i d hi
      exact ⟨a, by rw [List.getElem?_take_of_lt hk]; exact h1, c.cut q⟩
    · rw [List.getElem?_take_eq_none (by omega)] at hi; cases hi
  · by_cases hk : i < st0.length
    · rw [List.getElem?_take_of_lt hk] at hi; exact s.there i a hi
    · rw [List.getElem?_take_eq_none (by omega)] at hi; cases hi
theorem Ext.cut (e : Ext as0 st0 H0 as' st' H') (s0 : StR G as0 st0 H0) : Ext as0 st0 H0 (as'.take st0.length) (st'.take st0.length) H' := by
  obtain ⟨m, rfl⟩ := e.pre
  have q : (as0 ++ m).take st0.length = as0 := by rw [← s0.len]; simp
  rw [q]
  refine ⟨List.prefix_refl _, fun i a h hi => ?_, fun i h => ?_, by have := e.len; simp; omega, e.keep, e.there⟩
  · rw [List.getElem?_eq_none_iff.mpr hi] at h; cases h
  · obtain ⟨hi, _⟩ := List.getElem?_eq_some_iff.mp h
    rw [List.getElem?_take_of_lt hi]; exact e.dead i h
end
/-- what a call hands back -/
def fin (st0 : Store) (w : Wv) (st' : Store) : Res Wv := if cutOk st0 st' = true then (match w with
  | .val (.ref m) => if m < st0.length then .ok (.val (.ref m)) (st'.take st0.length) else match st'[m]? with
    | some (some d) => if refsLt st0.length d = true then .ok (.new d) (st'.take st0.length) else .stuck
    | _ => .stuck
  | .val d => if refsLt st0.length d = true then .ok (.val d) (st'.take st0.length) else .stuck
  | .new d => if refsLt st0.length d = true then .ok (.new d) (st'.take st0.length) else .stuck) else .stuck
def finX (st0 : Store) (x : EX) (st' : Store) : Res Wv := if cutOk st0 st' = true ∧ (match x.row with | none => true | some d => refsLt st0.length d) = true then .exc x (st'.take st0.length) else .stuck
abbrev FnSem := List D → Store → Res Wv
def runP (n : Nat) (body : SM) : FnSem := fun ds st => match body (ds.map some ++ List.replicate (n - ds.length) none) st with
  | .nx _ st' => fin st (.val .non) st'
  | .ret w st' => fin st w st'
  | .exc x st' => finX st x st'
  | _ => .stuck
def spI (G : Gx) (n : Nat) (f : FnSem) : Sp := fun vs H Q Ex => vs.length = n ∧ ∃ as st ds, StR G as st H ∧ RelDs G as (Live as st) H ds vs ∧ Post G Ex as st H (f ds st) fun w as' st' H' => ∀ v, RelW G H as' st' H' w v → Q v H'
section
variable {G : Gx} {E : XK} {as as0 as' : List Addr} {st st0 st' : Store} {H H0 H' : Hp} {L : Addr → Prop}
theorem fin_ok {w w2 : Wv} {st2 : Store} (h : fin st0 w st' = .ok w2 st2) : cutOk st0 st' = true ∧ st2 = st'.take st0.length := by
  unfold fin at h
  by_cases c : cutOk st0 st' = true
  · rw [if_pos c] at h
    refine ⟨c, ?_⟩
    cases w with
    | new d =>
      by_cases q : refsLt st0.length d = true
      · simp only [q, if_true] at h; cases h; rfl
      · simp only [if_neg q] at h; cases h
    | val d =>
      cases d with
      | ref m =>
        simp only at h
        by_cases hm : m < st0.length
        · rw [if_pos hm] at h; cases h; rfl
        · rw [if_neg hm] at h
          split at h
          · split at h
            · cases h; rfl
            · cases h
          · cases h
      | _ =>
        simp only at h
        split at h
        · cases h; rfl
        · cases h
  · rw [if_neg c] at h; cases h
theorem fin_noexc {w : Wv} {x : EX} {st2 : Store} (h : fin st0 w st' = .exc x st2) : False := by
  unfold fin at h
  by_cases c : cutOk st0 st' = true
  · rw [if_pos c] at h
    cases w with
    | new d =>
      by_cases q : refsLt st0.length d = true
      · simp only [q, if_true] at h; cases h
      · simp only [if_neg q] at h; cases h
    | val d =>
      cases d with
      | ref m =>
        simp only at h
        by_cases hm : m < st0.length
        · rw [if_pos hm] at h; cases h
        · rw [if_neg hm] at h
          split at h
          · split at h
            · cases h
            · cases h
          · cases h
      | _ =>
        simp only at h
        split at h
        · cases h
        · cases h
  · rw [if_neg c] at h; cases h
theorem fin_rel {w w2 : Wv} {st2 : Store} {v : V} (s0 : StR G as0 st0 H0) (e : Ext as0 st0 H0 as' st' H') (s : StR G as' st' H') (r : RelW G H0 as' st' H' w v) (h : fin st0 w st' = .ok w2 st2) :
    StR G (as'.take st0.length) st2 H' ∧ RelW G H0 (as'.take st0.length) st2 H' w2 v := by
  obtain ⟨c, rfl⟩ := fin_ok h
  have sc := s0.cut s c
  refine ⟨sc.less fun b z => live_cut z, ?_⟩
  unfold fin at h
  rw [if_pos c] at h
  cases w with
  | new d =>
    by_cases q : refsLt st0.length d = true
    · simp only [q, if_true] at h
      cases h
      obtain ⟨p, rfl, hp, n, cr, sl⟩ := r
      refine ⟨p, rfl, hp, fun i hi => ?_, (cr.cut q).lessL fun b z => z.imp live_cut id, ?_⟩
      · by_cases hk : i < st0.length
        · rw [List.getElem?_take_of_lt hk] at hi; exact n i hi
        · rw [List.getElem?_take_eq_none (by omega)] at hi; cases hi
      · refine ⟨sc.len, sc.nd, fun i d' hi => ?_, sc.there⟩
        have q' := cutOk_cells s0 c i d' hi
        by_cases hk : i < st0.length
        · rw [List.getElem?_take_of_lt hk] at hi
          obtain ⟨a, h1, c'⟩ := sl.cells i d' hi
          exact ⟨a, by rw [List.getElem?_take_of_lt hk]; exact h1, (c'.cut q').lessL fun b z => z.imp live_cut id⟩
        · rw [List.getElem?_take_eq_none (by omega)] at hi; cases hi
    · simp only [if_neg q] at h; cases h
  | val d =>
    have r : RelD G as' (Live as' st') H' d v := r
    have fine : refsLt st0.length d = true → RelW G H0 (as'.take st0.length) (st'.take st0.length) H' (.val d) v := fun q => (r.cut q).lessL fun b z => live_cut z
    cases d with
    | ref m =>
      simp only at h
      by_cases hm : m < st0.length
      · rw [if_pos hm] at h; cases h
        exact fine (by simp [refsLt, hm])
      · rw [if_neg hm] at h
        cases q : st'[m]? with
        | none => simp only [q] at h; cases h
        | some o =>
          cases o with
          | none => simp only [q] at h; cases h
          | some d =>
            simp only [q] at h
            by_cases ql : refsLt st0.length d = true
            · rw [if_pos ql] at h
              cases h
              cases r with
              | @ref _ a ha =>
                obtain ⟨a', ha', cr⟩ := s.cells m d q
                rw [ha] at ha'; cases ha'
                have la : Live as' st' a := ⟨m, d, ha, q⟩
                refine ⟨a, rfl, e.new m a ha (by rw [s0.len]; omega), fun i hi => ?_, (cr.cut ql).lessL fun b z => z.elim live_cut fun z => z ▸ la, sc.less fun b z => z.elim live_cut fun z => z ▸ la⟩
                by_cases hk : i < st0.length
                · rw [List.getElem?_take_of_lt hk] at hi
                  obtain ⟨h1, e1⟩ := List.getElem?_eq_some_iff.mp ha
                  obtain ⟨h2, e2⟩ := List.getElem?_eq_some_iff.mp hi
                  have := (List.getElem_inj s.nd).mp (e1.trans e2.symm)
                  omega
                · rw [List.getElem?_take_eq_none (by omega)] at hi; cases hi
            · rw [if_neg ql] at h; cases h
    | _ =>
      simp only at h
      split at h
      · rename_i q
        cases h
        exact fine q
      · cases h
theorem EnvR.start {ds : List D} {vs : List V} {N : List Str} (r : RelDs G as L H ds vs) : EnvR G as L H (ds.map some ++ List.replicate (N.length - ds.length) none) (L2.start N vs) := by
  unfold L2.start
  refine ⟨by simp [r.length], fun i d h => ?_⟩
  by_cases hi : i < ds.length
  · rw [List.getElem?_append_left (by simpa using hi), List.getElem?_map] at h
    cases q : ds[i]? with
    | none => rw [q] at h; cases h
    | some d' =>
      rw [q] at h
      cases h
      obtain ⟨v, hv, rv⟩ := r.get q
      exact ⟨v, by rw [List.getElem?_append_left (by rw [List.length_map, ← r.length]; exact hi), List.getElem?_map, hv]; rfl, rv⟩
  · rw [List.getElem?_append_right (by simpa using hi)] at h
    rw [List.getElem?_replicate] at h
    split at h <;> cases h
/-- a def's body against its promise -/
theorem run_body {n : Nat} {N : List Str} {body : SM} {vs : List V} {Q : VK} {Ex : XK} (hn : N.length = n) (h : ∃ as st ds, StR G as st H ∧ RelDs G as (Live as st) H ds vs ∧ Post G Ex as st H (runP n body ds st) fun w as' st' H' => ∀ v, RelW G H as' st' H' w v → Q v H') :
    tS G Ex body { nx := fun _ H' => Q .non H', rt := Q } (L2.start N vs) H := by
  obtain ⟨as, st, ds, s, r, p⟩ := h
  refine ⟨as, st, _, s, EnvR.start r, ?_⟩
  rw [hn]
  unfold runP at p
  cases q : body (ds.map some ++ List.replicate (n - ds.length) none) st with
  | nx env st' =>
    simp only [q] at p
    cases qf : fin st (.val .non) st' with
    | ok w2 st2 =>
      rw [qf] at p
      intro as' H' σ' e s' er'
      obtain ⟨s2, r2⟩ := fin_rel (w := .val .non) (v := .non) s e s' .non qf
      obtain ⟨_, rfl⟩ := fin_ok qf
      exact p _ H' (e.cut s) s2 _ r2
    | exc x st2 => exact (fin_noexc qf).elim
    | stuck => rw [qf] at p; exact p.elim
  | ret w st' =>
    simp only [q] at p
    cases qf : fin st w st' with
    | ok w2 st2 =>
      rw [qf] at p
      intro as' H' v e s' r'
      obtain ⟨s2, r2⟩ := fin_rel s e s' r' qf
      obtain ⟨_, rfl⟩ := fin_ok qf
      exact p _ H' (e.cut s) s2 _ r2
    | exc x st2 => exact (fin_noexc qf).elim
    | stuck => rw [qf] at p; exact p.elim
  | exc x st' =>
    simp only [q] at p
    intro as' H' cv xd e s' rx
    unfold finX at p
    by_cases c : cutOk st st' = true ∧ (match x.row with | none => true | some d => refsLt st.length d) = true
    · rw [if_pos c] at p
      obtain ⟨C, h1, h2, h3⟩ := rx
      refine p (as'.take st.length) H' cv xd (e.cut s) ((s.cut s' c.1).less fun b z => live_cut z) ⟨C, h1, h2, ?_⟩
      cases qr : x.row with
      | none => rw [qr] at h3; exact h3
      | some d =>
        rw [qr] at h3
        obtain ⟨pa, v, g1, g2, g3⟩ := h3
        have c2 := c.2
        rw [qr] at c2
        exact ⟨pa, v, g1, g2, (g3.cut c2).lessL fun b z => live_cut z⟩
    · rw [if_neg c] at p; exact p.elim
  | brk env st' => simp only [q] at p; exact p.elim
  | cnt env st' => simp only [q] at p; exact p.elim
  | stuck => simp only [q] at p; exact p.elim
end
end VI
namespace VI
open PySem PySem.Spec PyProof.Rows L2
/-- no exception -/
def E0 : XK := fun _ _ _ => False
def tvYes : TM := fun _ st => .ok true st
/-- [e for g in m if t]: the new list is a cell at k as long as it is made -/
def noX {α : Type} (r : Res α) : Res α := match r with
  | .exc _ _ => .stuck
  | r => r
def lcGo (iv : IterV) (g : GD) (t : TM) (e : EM) (k : Nat) : List D → List D → DEnv → Store → Res (List D)
  | [], acc, _, st => if srcOk iv st = true ∧ st[k]? = some (some (.lst acc)) then .ok acc st else .stuck
  | d :: r, acc, env, st => if srcOk iv st = true ∧ st[k]? = some (some (.lst acc)) then (match g d env with
    | none => .stuck
    | some env1 => (noX (t env1 st)).bind fun b st1 => if b = true then
        (noX (e env1 st1)).bind fun w st2 => if st2[k]? = some (some (.lst acc)) ∧ acc.length < 100000 then lcGo iv g t e k r (acc ++ [w.d]) env (st2.set k (some (.lst (acc ++ [w.d])))) else .stuck
      else lcGo iv g t e k r acc env st1) else .stuck
def evLc (own : List Nat) (m : IM) (g : GD) (t : TM) (e : EM) : EM := fun env st => (m env st).bind fun iv st1 =>
  (lcGo iv g t e st1.length iv.items [] (wipeD env own) (st1 ++ [some (.lst [])])).bind fun acc st2 =>
    if cutOk st1 st2 = true ∧ refsLts st1.length acc = true then .ok (.new (.lst acc)) (st2.take st1.length) else .stuck
section
variable {G : Gx} {E : XK} {X : Cx} {as as' as1 : List Addr} {st st' st1 : Store} {H H' H1 : Hp} {σ : L2.St}
theorem Post.noX {α : Type} {r : Res α} {R : α → List Addr → Store → Hp → Prop} (h : Post G E as st H (noX r) R) : Post G E0 as st H r R := by
  cases r with
  | ok a st' => exact h
  | exc x st' => exact False.elim h
  | stuck => exact h
theorem Post.at {α : Type} {r : Res α} {R : α → List Addr → Store → Hp → Prop} (e : Ext as st H as1 st1 H1) (hl : as.length = st.length) (h : Post G E as st H r R) : Post G E as1 st1 H1 r R := by
  cases r with
  | ok a st' => exact fun as' H' e' s => h as' H' (e.trans e' hl) s
  | exc x st' => exact fun as' H' cv xd e' s r => h as' H' cv xd (e.trans e' hl) s r
  | stuck => exact h
theorem RelDs.append {L : Addr → Prop} : ∀ {xs ys : List D} {us ws : List V}, RelDs G as L H xs us → RelDs G as L H ys ws → RelDs G as L H (xs ++ ys) (us ++ ws)
  | _, _, _, _, .nil, s => s
  | _, _, _, _, .cons r t, s => .cons r (RelDs.append t s)
theorem wipe_twice (σ : L2.St) (vs : List Nat) : wipe (wipe σ vs) vs = wipe σ vs := by
  apply List.ext_getElem?
  intro j
  rw [wipe_get]
  by_cases hj : j ∈ vs
  · rw [if_pos hj, wipe_get, if_pos hj, wipe_length]
  · rw [if_neg hj]
theorem tI_lc {own : List Nat} {m : IM} {g : GD} {sl : List Nat} {t : TM} {e : EM} {Q : VK} (hsl : ∀ i ∈ sl, i ∈ own) (h : tI G E (evLc own m g t e) σ H Q) :
    tLc (tIt G E m) (tG G g sl) (tT G E0 t) (tI G E0 e) own σ H Q := by
  obtain ⟨as, st, env, s, er, p⟩ := h
  refine ⟨as, st, env, s, er, (p.bind s.len).mono fun iv as1 st1 H1 e1 s1 p1 J SJ Dl hD => ?_⟩
  have er1 := er.ext e1 s.len
  have eD : Ext as1 st1 H1 as1 st1 (upd H1 Dl (.lst [])) := Ext.lay hD
  have sD := s1.lay (o := .lst []) hD
  have cD : CellR G as1 (fun b => Live as1 st1 b ∨ b = Dl) (upd H1 Dl (.lst [])) Dl (.lst []) := ⟨[], upd_same, .nil⟩
  have sR := sD.reg (notLive s1 hD) cD
  have eR : Ext as1 st1 H1 (as1 ++ [Dl]) (st1 ++ [some (.lst [])]) (upd H1 Dl (.lst [])) := eD.regAt s1.len s1.len hD
  have hk : (as1 ++ [Dl])[st1.length]? = some Dl := by
    rw [List.getElem?_append_right (by have := s1.len; omega), show st1.length - as1.length = 0 by have := s1.len; omega]; rfl
  let Rf : List D → Store → Prop := fun acc st3 => Post G E as1 st1 H1 (if cutOk st1 st3 = true ∧ refsLts st1.length acc = true then Res.ok (Wv.new (.lst acc)) (st3.take st1.length) else .stuck) fun w as4 st4 H4 => ∀ v, RelW G H as4 st4 H4 w v → Q v H4
  refine ⟨fun i m' H' => i ≤ iv.items.length ∧ m' = iv.items.length - i ∧ ∃ as2 st2 acc, Ext as1 st1 H1 as2 st2 H' ∧ StR G as2 st2 H' ∧ as2[st1.length]? = some Dl ∧
      Post G E as2 st2 H' (lcGo iv g t e st1.length (iv.items.drop i) acc (wipeD env own) st2) fun acc as3 st3 H3 => Rf acc st3, ?_, ?_⟩
  · refine ⟨iv.items.length, by omega, by omega, _, _, [], eR, sR, hk, ?_⟩
    rw [List.drop_zero]
    cases qr : lcGo iv g t e st1.length iv.items [] (wipeD env own) (st1 ++ [some (.lst [])]) with
    | ok acc st2 =>
      rw [qr] at p1
      intro as3 H3 e3 s3
      exact p1
    | exc x st2 =>
      rw [qr] at p1
      intro as3 H3 cv xd e3 s3 r3
      exact p1 as3 H3 cv xd (eR.trans e3 s1.len) s3 r3
    | stuck => rw [qr] at p1; exact p1
  · rintro i m' H' ⟨hi, rfl, as2, st2, acc, e2, s2, hk2, p2⟩
    have erw : ∀ {as3 st3 H3}, Ext as1 st1 H1 as3 st3 H3 → EnvR G as3 (Live as3 st3) H3 (wipeD env own) (wipe σ own) := fun e3 => (er1.ext e3 s1.len).wipe own
    by_cases hlt : i < iv.items.length
    · rw [List.drop_eq_getElem_cons hlt] at p2
      unfold lcGo at p2
      by_cases ok : srcOk iv st2 = true ∧ st2[st1.length]? = some (some (.lst acc))
      · rw [if_pos ok] at p2
        obtain ⟨hgo, hy⟩ := SJ.go as2 st2 H' e2 s2 ok.1 i iv.items[i] (List.getElem?_eq_getElem hlt)
        refine .inr ⟨hgo, fun H3 => ∃ as3 st3 acc3, Ext as1 st1 H1 as3 st3 H3 ∧ StR G as3 st3 H3 ∧ as3[st1.length]? = some Dl ∧
          Post G E as3 st3 H3 (lcGo iv g t e st1.length (iv.items.drop (i + 1)) acc3 (wipeD env own) st3) fun acc as3 st3 H3 => Rf acc st3,
          fun H3 ⟨as3, st3, acc3, q⟩ => ⟨iv.items.length - (i + 1), by omega, by omega, rfl, as3, st3, acc3, q⟩, fun x H2 hx => ?_⟩
        obtain ⟨e3, s3, r3⟩ := hy x H2 hx
        cases q : g iv.items[i] (wipeD env own) with
        | none => simp only [q] at p2; exact p2.elim
        | some env3 =>
          simp only [q] at p2
          have e12 := e2.trans e3 s1.len
          refine ⟨as2, st2, wipeD env own, iv.items[i], env3, s3, erw e12, r3, q, fun σ3 er3 sb => ⟨(sb own hsl).trans (wipe_twice σ own), as2, st2, env3, s3, er3, ?_⟩⟩
          have p3 := (Post.at e3 s2.len p2)
          refine (Post.noX (p3.bind s3.len)).mono fun b as4 st4 H4 e4 s4 p4 => ?_
          have hk4 : as4[st1.length]? = some Dl := pre_get e4.pre hk2
          cases b with
          | false =>
            rw [if_neg Bool.false_ne_true] at p4
            exact ⟨as4, st4, acc, e12.trans e4 s1.len, s4, hk4, p4⟩
          | true =>
            rw [if_pos rfl] at p4
            show tI G E0 e σ3 H4 _
            refine ⟨as4, st4, env3, s4, er3.ext e4 s3.len, (Post.noX (p4.bind s4.len)).mono fun w as5 st5 H5 e5 s5 p5 v5 r5 => ?_⟩
            have hk5 : as5[st1.length]? = some Dl := pre_get e5.pre hk4
            by_cases c : st5[st1.length]? = some (some (.lst acc)) ∧ acc.length < 100000
            · rw [if_pos c] at p5
              obtain ⟨a, ha, vs, hv, rv⟩ := s5.cells _ _ c.1
              rw [hk5] at ha; cases ha
              refine ⟨vs, hv, ?_, ?_⟩
              · rw [← rv.length]; exact Nat.lt_of_lt_of_le c.2 (by decide)
              · have live : Live as5 st5 Dl := ⟨_, _, hk5, c.1⟩
                have kp : ∀ b o, H5 b = some o → (¬ Live as5 st5 b ∨ notMut o = true) → upd H5 Dl (.lst (vs ++ [v5])) b = some o := fun b o eb k => by
                  have ne : b ≠ Dl := fun z => by
                    subst z
                    rcases k with k | k
                    · exact k live
                    · rw [hv] at eb; cases eb; cases k
                  rw [upd_ne ne]; exact eb
                have r5' : RelD G as5 (Live as5 st5) (upd H5 Dl (.lst (vs ++ [v5]))) w.d v5 := r5.d.mono (List.prefix_refl _) (fun _ _ n => n) kp
                have rv' : RelDs G as5 (Live as5 st5) (upd H5 Dl (.lst (vs ++ [v5]))) acc vs := rv.mono (List.prefix_refl _) (fun _ _ n => n) kp
                obtain ⟨a1, a2⟩ := s5.write (d := .lst (acc ++ [w.d])) (o := .lst (vs ++ [v5])) c.1 hk5 ⟨_, upd_same, rv'.append (.cons r5' .nil)⟩
                exact ⟨as5, _, _, ((e12.trans e4 s1.len).trans e5 s1.len).trans a2 s1.len, a1, hk5, Post.at a2 s5.len p5⟩
            · rw [if_neg c] at p5; exact p5.elim
      · rw [if_neg ok] at p2; exact p2.elim
    · rw [List.drop_of_length_le (by omega)] at p2
      unfold lcGo at p2
      by_cases ok : srcOk iv st2 = true ∧ st2[st1.length]? = some (some (.lst acc))
      · rw [if_pos ok] at p2
        refine .inl ⟨SJ.stop as2 st2 H' e2 s2 ok.1 i (by omega), ?_⟩
        have p3 : Rf acc st2 := p2.now s2
        by_cases c : cutOk st1 st2 = true ∧ refsLts st1.length acc = true
        · simp only [Rf, if_pos c] at p3
          obtain ⟨a, ha, cr⟩ := s2.cells _ _ ok.2
          rw [hk2] at ha; cases ha
          have q : refsLt st1.length (.lst acc) = true := by simp only [refsLt]; exact c.2
          have sc := s1.cut s2 c.1
          have la : Live as2 st2 Dl := ⟨_, _, hk2, ok.2⟩
          refine p3 (as2.take st1.length) H' (e2.cut s1) (sc.less fun b z => live_cut z) (.ref Dl) ⟨Dl, rfl, e1.fresh hD, fun i hi => ?_, (cr.cut q).lessL fun b z => z.elim live_cut fun z => z ▸ la, sc.less fun b z => z.elim live_cut fun z => z ▸ la⟩
          by_cases hk : i < st1.length
          · rw [List.getElem?_take_of_lt hk] at hi
            obtain ⟨h1, e1'⟩ := List.getElem?_eq_some_iff.mp hk2
            obtain ⟨h2, e2'⟩ := List.getElem?_eq_some_iff.mp hi
            have := (List.getElem_inj s2.nd).mp (e1'.trans e2'.symm)
            omega
          · rw [List.getElem?_take_eq_none (by omega)] at hi; cases hi
        · simp only [Rf, if_neg c] at p3; exact p3.elim
      · rw [if_neg ok] at p2; exact p2.elim
theorem pI_lc {elt tg iter : Expr} {ifs : List Expr} {scope : Scope} {own : List (Str × Nat)} {pos : Pos} {m : IM} {g : GD} {sl : List Nat} {t : TM} {e : EM} (hc : X.calm = true) (hN : X.N.Nodup) (hi : PI X tg iter (tIt G E m)) (ok : BlkOk X.N X.env.scope scope own)
    (hg : ∀ (s : Shared) (H : Hp) (C : Addr) (cl : List (Str × Addr)) (fp : List Addr), PG (X.blk s H scope (compEnvC scope cl C X.env) fp) tg (tG G g sl)) (ht : ∀ (s : Shared) (H : Hp) (C : Addr) (cl : List (Str × Addr)) (fp : List Addr), PTs (X.blk s H scope (compEnvC scope cl C X.env) fp) ifs (tT G E0 t))
    (he : ∀ (s : Shared) (H : Hp) (C : Addr) (cl : List (Str × Addr)) (fp : List Addr), PE (X.blk s H scope (compEnvC scope cl C X.env) fp) elt (tI G E0 e)) (hsl : ∀ i ∈ sl, i ∈ own.map (·.2)) (hs : ∀ x, foldedSetIterable iter X.env x = pure x := by intro _; rfl) :
    PE X (.ListComp elt [⟨tg, iter, ifs, 0⟩] scope pos) (tI G E (evLc (own.map (·.2)) m g t e)) := (pe_lc hc hN hi ok hg ht he hs).vi fun _ _ _ => tI_lc hsl
theorem pTs_nil : PTs X [] (tT G E tvYes) := ⟨fun pins s σ H Q I h => pts_nil.run pins s σ H Q I (by
  obtain ⟨as, st, env, sr, er, p⟩ := h
  exact p.now sr)⟩
theorem pTs_one {c : Expr} {t : TM} (h : PT X c (tT G E t)) : PTs X [c] (tT G E t) := pts_one h
end
end VI
namespace VI
open PySem PySem.Spec PyProof.Rows L2
/-! ### machine-level rules that the layer lacks -/
section
variable {X : Cx}
def rCatL (K : PySem.W.Frag) : R2 := fun x y H Q => ∃ l b xs zs, x = .ref l ∧ y = .ref b ∧ SqL K H l xs ∧ SqL K H b zs ∧ xs.length + zs.length ≤ sizeLine ∧ ∀ p, H p = none → Q (.ref p) (upd H p (.lst (xs ++ zs)))
theorem op_catL : OpR X (binaryOp .Add) (rCatL X.K) := by
  intro pins s σ H x y v u Q I rx ry h
  obtain ⟨l, b, xs, zs, rfl, rfl, hH, hB, hz, q⟩ := h
  cases rx
  cases ry
  obtain ⟨its, r, ⟨⟨c1, d1, t1, s1⟩, n1, e1, ec1, ed1, et1⟩, z1⟩ := I.list hH
  obtain ⟨its2, r2, ⟨⟨c2, d2, t2, s2⟩, n2, e2, ec2, ed2, et2⟩, z2⟩ := I.list hB
  simp only at ec1 ed1 et1 ec2 ed2 et2
  subst ec1 ed1 et1 ec2 ed2 et2
  have ea : its.toArray ++ its2.toArray = (its ++ its2).toArray := by simp
  refine concat_meets ⟨_, e1, rfl⟩ ⟨_, e2, rfl⟩ noFill_list_add seq_list_add PySem.F.slot_list_add PySem.F.entry_list_add (PySem.F.args_list_add_2 _ _) (list_addW l b its.toArray its2.toArray n1 n2 none none s1 s2 (by rw [List.size_toArray, List.size_toArray, ← r.length, ← r2.length]; exact hz)) ⟨e1, e2, ?_⟩
  rw [ea]
  exact ⟨.ref _, _, I.lnew (t' := s.toks) (r.append r2) (by rw [List.length_append]; omega), rfl, q _ I.fresh⟩
end

/-! ### pure data, compared -/
mutual
def toPy : D → PyData
  | .non => .none
  | .bl b => .bool b
  | .int i => .int i
  | .str x => .str x
  | .tup ds => .tuple (toPys ds)
  | .lst ds => .list (toPys ds)
  | _ => .none
def toPys : List D → List PyData
  | [] => []
  | d :: ds => toPy d :: toPys ds
end
mutual
/-- none, truths, numbers, texts, tuples and lists of such -/
def isPy : D → Bool
  | .non => true
  | .bl _ => true
  | .int _ => true
  | .str _ => true
  | .tup ds => isPys ds
  | .lst ds => isPys ds
  | _ => false
def isPys : List D → Bool
  | [] => true
  | d :: ds => isPy d && isPys ds
end
def eqD (a b : D) : Bool := PyData.eqv (toPy a) (toPy b)
section
variable {G : Gx} {E : XK} {as as' : List Addr} {st st' : Store} {H : Hp} {L : Addr → Prop}
mutual
theorem RelD.dp : ∀ {d : D} {v : V}, RelD G as L H d v → isPy d = true → Dp G.K H v (toPy d)
  | _, _, .non, _ => by simp only [toPy]; exact .non
  | _, _, .bl b, _ => by simp only [toPy]; exact .bl b
  | _, _, .int i, _ => by simp only [toPy]; exact .int i
  | _, _, .str x, _ => by simp only [toPy]; exact .str x
  | _, _, .ty n, q => by simp [isPy] at q
  | _, _, .cl h, q => by simp [isPy] at q
  | _, _, .ref h, q => by simp [isPy] at q
  | _, _, .tup h r, q => by simp only [toPy]; exact .tup h (RelDs.dp r (by simpa only [isPy] using q))
  | _, _, .lst h n r, q => by simp only [toPy]; exact .lst (.inl h) (RelDs.dp r (by simpa only [isPy] using q))
  | _, _, .lstK h r, q => by simp only [toPy]; exact .lst (.inr h) (RelDs.dp r (by simpa only [isPy] using q))
  | _, _, .dic0 h n, q => by simp [isPy] at q
  | _, _, .obj c h1 h2 n r, q => by simp [isPy] at q
theorem RelDs.dp : ∀ {d : List D} {v : List V}, RelDs G as L H d v → isPys d = true → DpAll G.K H v (toPys d)
  | _, _, .nil, _ => by simp only [toPys]; exact .nil
  | _, _, .cons r t, q => by
    simp only [isPys, Bool.and_eq_true] at q
    simp only [toPys]; exact .cons (RelD.dp r q.1) (RelDs.dp t q.2)
end
mutual
theorem toPy_plain : ∀ d : D, (toPy d).plain = true
  | .non => by simp [toPy, PyData.plain]
  | .bl _ => by simp [toPy, PyData.plain]
  | .int _ => by simp [toPy, PyData.plain]
  | .str _ => by simp [toPy, PyData.plain]
  | .ty _ => by simp [toPy, PyData.plain]
  | .cl _ => by simp [toPy, PyData.plain]
  | .ref _ => by simp [toPy, PyData.plain]
  | .tup ds => by simp only [toPy, PyData.plain]; exact toPys_plain ds
  | .lst ds => by simp only [toPy, PyData.plain]; exact toPys_plain ds
  | .dic _ => by simp [toPy, PyData.plain]
  | .obj _ _ => by simp [toPy, PyData.plain]
theorem toPys_plain : ∀ ds : List D, PyData.plainAll (toPys ds) = true
  | [] => by simp [toPys, PyData.plainAll]
  | d :: ds => by simp only [toPys, PyData.plainAll, toPy_plain d, toPys_plain ds, Bool.and_self]
end
/-- a value, a cell's list as the list -/
def unref (d : D) (st : Store) : D := match d with
  | .ref n => match st[n]? with
    | some (some (.lst ds)) => .lst ds
    | _ => .ref n
  | d => d
theorem unref_dp (s : StR G as st H) {d : D} {v : V} (r : RelD G as (Live as st) H d v) (q : isPy (unref d st) = true) : Dp G.K H v (toPy (unref d st)) := by
  cases d with
  | ref n =>
    cases e : st[n]? with
    | none => simp [unref, e, isPy] at q
    | some o =>
      cases o with
      | none => simp [unref, e, isPy] at q
      | some d =>
        cases d with
        | lst ds =>
          simp only [unref, e] at q ⊢
          cases r with
          | @ref _ a ha =>
            obtain ⟨a', ha', vs, hv, rr⟩ := s.cells n _ e
            rw [ha] at ha'; cases ha'
            simp only [toPy]
            exact .lst (.inl (.inl hv)) (rr.dp (by simpa only [isPy] using q))
        | _ => simp [unref, e, isPy] at q
  | _ => exact r.dp q
end
def shallow (a b : D) : Bool := decide (min (toPy a).depth (toPy b).depth ≤ 60)
def fEq (neg : Bool) (a b : D) (st : Store) : Res Wv :=
  if (isPy (unref a st) && isPy (unref b st) && shallow (unref a st) (unref b st)) = true then .ok (.val (.bl (if neg then !eqD (unref a st) (unref b st) else eqD (unref a st) (unref b st)))) st else .stuck
def rEqP (K : PySem.W.Frag) (neg : Bool) : R2 := fun x y H Q => ∃ d e, Dp K H x d ∧ Dp K H y e ∧ d.plain = true ∧ e.plain = true ∧ min d.depth e.depth ≤ 60 ∧ Q (.bl (if neg then !PyData.eqv d e else PyData.eqv d e)) H
section
variable {X : Cx} {G : Gx} {E : XK}
theorem op_eqP (hu : X.A.units + 64 < cLine) : OpR X (compareOp .Eq) (rEqP X.K false) := by
  intro pins s σ H x y v u Q I rx ry h
  obtain ⟨d, e, hd, he, sd, se, hm, q⟩ := h
  obtain ⟨as, r1⟩ := Dp.reads I d x v hd rx
  obtain ⟨bs, r2⟩ := Dp.reads I e y u he ry
  exact SeqAt.eq_plain r1 r2 sd se (by omega) ⟨.bl _, H, I, rfl, q⟩
theorem op_neP (hu : X.A.units + 64 < cLine) : OpR X (compareOp .NotEq) (rEqP X.K true) := by
  intro pins s σ H x y v u Q I rx ry h
  obtain ⟨d, e, hd, he, sd, se, hm, q⟩ := h
  obtain ⟨as, r1⟩ := Dp.reads I d x v hd rx
  obtain ⟨bs, r2⟩ := Dp.reads I e y u he ry
  exact SeqAt.ne_plain r1 r2 sd se (by omega) ⟨.bl _, H, I, rfl, q⟩
theorem opS_eq {neg : Bool} : OpS G E (fEq neg) (rEqP G.K neg) := by
  intro as st H d1 d2 x y Q s r1 r2 p
  unfold fEq at p
  split at p
  · rename_i c
    simp only [Bool.and_eq_true, shallow, decide_eq_true_eq] at c
    exact ⟨_, _, unref_dp s r1 c.1.1, unref_dp s r2 c.1.2, toPy_plain _, toPy_plain _, c.2, p.now s _ (.bl _)⟩
  · exact p.elim

/-! ### + -/
def catOk {α : Type} (a b : List α) : Bool := decide (a.length + b.length ≤ 100000)
def fAdd (a b : D) (st : Store) : Res Wv := match a, b with
  | .int i, .int j => .ok (.val (.int (i + j))) st
  | .str x, .str y => if x.length + y.length ≤ 100000 then .ok (.val (.str (x ++ y))) st else .stuck
  | .tup x, .tup y => if catOk x y = true then .ok (.val (.tup (x ++ y))) st else .stuck
  | a, b => match lstOf a st, lstOf b st with
    | some (x, _), some (y, _) => if catOk x y = true then .ok (.new (.lst (x ++ y))) st else .stuck
    | _, _ => .stuck
def rAddA (K : PySem.W.Frag) : R2 := fun x y H Q => (∃ i j, x = .int i ∧ y = .int j ∧ Q (.int (i + j)) H) ∨ (∃ i j, x = .str i ∧ y = .str j ∧ i.length + j.length ≤ sizeLine ∧ Q (.str (i ++ j)) H) ∨ rCatA K x y H Q ∨ rCatL K x y H Q
theorem op_addA : OpR X (binaryOp .Add) (rAddA X.K) := OpR.or op_add (OpR.or op_add_str (OpR.or op_catA op_catL))
theorem catOk_len {α : Type} {a b : List α} (h : catOk a b = true) : a.length + b.length ≤ sizeLine := szl (by simpa [catOk] using h)
theorem opS_add : OpS G E fAdd (rAddA G.K) := by
  intro as st H d1 d2 x y Q s r1 r2 p
  unfold fAdd at p
  split at p
  · cases r1; cases r2
    exact .inl ⟨_, _, rfl, rfl, p.now s _ (.int _)⟩
  · cases r1; cases r2
    split at p
    · rename_i h
      exact .inr (.inl ⟨_, _, rfl, rfl, szl h, p.now s _ (.str _)⟩)
    · exact p.elim
  · split at p
    · rename_i h
      cases r1 with
      | @tup a p1 vs h1 hr1 =>
      cases r2 with
      | @tup b p2 ws h2 hr2 =>
      have hl := catOk_len h
      rw [hr1.length, hr2.length] at hl
      refine .inr (.inr (.inl ⟨p1, p2, vs, ws, rfl, rfl, h1, h2, hl, fun e => ?_, fun e1 e => ?_, fun e1 e2 t ht => ?_⟩))
      · subst e
        cases hr1
        exact p.now s _ (.tup h2 hr2)
      · subst e
        cases hr2
        rw [List.append_nil] at p
        exact p.now s _ (.tup h1 hr1)
      · exact p as _ (Ext.lay ht) (s.laid ht) _ (RelD.newTup s (hr1.append hr2) ht)
    · exact p.elim
  · cases q1 : lstOf d1 st with
    | none => simp only [q1] at p; exact p.elim
    | some o1 =>
      obtain ⟨a, sa⟩ := o1
      cases q2 : lstOf d2 st with
      | none => simp only [q1, q2] at p; exact p.elim
      | some o2 =>
        obtain ⟨b, sb⟩ := o2
        simp only [q1, q2] at p
        split at p
        · rename_i h
          obtain ⟨p1, vs, rfl, h1, hr1⟩ := lstOf_sq s r1 q1
          obtain ⟨p2, ws, rfl, h2, hr2⟩ := lstOf_sq s r2 q2
          have hl := catOk_len h
          rw [hr1.length, hr2.length] at hl
          exact .inr (.inr (.inr ⟨p1, p2, vs, ws, rfl, rfl, h1, h2, hl, fun t ht => p as _ (Ext.lay ht) (s.laid ht) _ (RelW.newLst s (hr1.append hr2) ht)⟩))
        · exact p.elim

/-! ### ints -/
def fSub (a b : D) (st : Store) : Res Wv := match a, b with
  | .int i, .int j => .ok (.val (.int (i - j))) st
  | _, _ => .stuck
def smallF (i : Int) : Bool := decide (-(2 ^ 64) < i) && decide (i < 2 ^ 64)
def fMod (a b : D) (st : Store) : Res Wv := match a, b with
  | .int i, .int j => if 0 < j then .ok (.val (.int (i % j))) st else .stuck
  | _, _ => .stuck
def fDiv (a b : D) (st : Store) : Res Wv := match a, b with
  | .int i, .int j => if 0 < j ∧ j < 1073741824 then .ok (.val (.int (i / j))) st else .stuck
  | _, _ => .stuck
def fPow (a b : D) (st : Store) : Res Wv := match a, b with
  | .int i, .int j => if 0 ≤ j ∧ j ≤ 1000000 ∧ i.natAbs < 2 ^ 64 then .ok (.val (.int (i ^ j.toNat))) st else .stuck
  | _, _ => .stuck
def fNeg (a : D) (st : Store) : Res Wv := match a with
  | .int i => .ok (.val (.int (-i))) st
  | _ => .stuck
theorem opS_sub : OpS G E fSub (rI0 fun i j => .int (i - j)) := by
  intro as st H d1 d2 x y Q s r1 r2 p
  unfold fSub at p
  split at p
  · cases r1; cases r2
    exact ⟨_, _, rfl, rfl, p.now s _ (.int _)⟩
  · exact p.elim
theorem opS_mod : OpS G E fMod (rI (fun _ j => 0 < j) fun i j => .int (i % j)) := by
  intro as st H d1 d2 x y Q s r1 r2 p
  unfold fMod at p
  split at p
  · cases r1; cases r2
    split at p
    · rename_i h
      exact ⟨_, _, rfl, rfl, h, p.now s _ (.int _)⟩
    · exact p.elim
  · exact p.elim
theorem opS_div : OpS G E fDiv (rI CDiv fun i j => .int (i / j)) := by
  intro as st H d1 d2 x y Q s r1 r2 p
  unfold fDiv at p
  split at p
  · cases r1; cases r2
    split at p
    · rename_i h
      exact ⟨_, _, rfl, rfl, h, p.now s _ (.int _)⟩
    · exact p.elim
  · exact p.elim
theorem opS_pow : OpS G E fPow (rI CPow fun i j => .int (i ^ j.toNat)) := by
  intro as st H d1 d2 x y Q s r1 r2 p
  unfold fPow at p
  split at p
  · cases r1; cases r2
    split at p
    · rename_i h
      exact ⟨_, _, rfl, rfl, h, p.now s _ (.int _)⟩
    · exact p.elim
  · exact p.elim
theorem unS_neg : UnS G E fNeg (rU fun i => .int (-i)) := by
  intro as st H d x Q s r p
  unfold fNeg at p
  split at p
  · cases r
    exact ⟨_, rfl, p.now s _ (.int _)⟩
  · exact p.elim
/-! ### * : ints (one small), a list or a tuple or a text times an int -/
def fMul (a b : D) (st : Store) : Res Wv := match a, b with
  | .int i, .int j => if (smallF i || smallF j) = true then .ok (.val (.int (i * j))) st else .stuck
  | _, _ => .stuck
theorem opS_mul : OpS G E fMul (rI CMul fun i j => .int (i * j)) := by
  intro as st H d1 d2 x y Q s r1 r2 p
  unfold fMul at p
  split at p
  · cases r1; cases r2
    split at p
    · rename_i h
      simp only [smallF, Bool.or_eq_true, Bool.and_eq_true, decide_eq_true_eq] at h
      exact ⟨_, _, rfl, rfl, h, p.now s _ (.int _)⟩
    · exact p.elim
  · exact p.elim
/-! ### order of ints -/
def fCmp (f : Int → Int → Bool) (a b : D) (st : Store) : Res Wv := match a, b with
  | .int i, .int j => .ok (.val (.bl (f i j))) st
  | _, _ => .stuck
abbrev fLt := fCmp fun i j => decide (i < j)
abbrev fLe := fCmp fun i j => decide (i ≤ j)
abbrev fGt := fCmp fun i j => decide (j < i)
abbrev fGe := fCmp fun i j => decide (j ≤ i)
theorem opS_cmp {f : Int → Int → Bool} : OpS G E (fCmp f) (rI0 fun i j => .bl (f i j)) := by
  intro as st H d1 d2 x y Q s r1 r2 p
  unfold fCmp at p
  split at p
  · cases r1; cases r2
    exact ⟨_, _, rfl, rfl, p.now s _ (.bl _)⟩
  · exact p.elim
/-! ### is -/
def fIsB (a b : D) (st : Store) : Res Wv := match a, b with
  | .bl i, .bl j => .ok (.val (.bl (decide (i = j)))) st
  | _, _ => .stuck
theorem opS_isB : OpS G E fIsB (fun x y H Q => ∃ a b, x = .bl a ∧ y = .bl b ∧ Q (.bl (decide (a = b))) H) := by
  intro as st H d1 d2 x y Q s r1 r2 p
  unfold fIsB at p
  split at p
  · cases r1; cases r2
    exact ⟨_, _, rfl, rfl, p.now s _ (.bl _)⟩
  · exact p.elim
def noneD : D → Bool
  | .non => true
  | _ => false
def fIsN (neg : Bool) (a b : D) (st : Store) : Res Wv := match b with
  | .non => .ok (.val (.bl (if neg then !noneD a else noneD a))) st
  | _ => .stuck
theorem RelD.isNon_eq {as : List Addr} {L : Addr → Prop} {H : Hp} {d : D} {v : V} (r : RelD G as L H d v) : decide (v = .non) = noneD d := by
  cases r <;> simp [noneD]
theorem opS_isN : OpS G E (fIsN false) (fun x y H Q => y = .non ∧ Q (.bl (decide (x = .non))) H) := by
  intro as st H d1 d2 x y Q s r1 r2 p
  unfold fIsN at p
  split at p
  · cases r2
    refine ⟨rfl, ?_⟩
    rw [r1.isNon_eq]
    exact p.now s _ (.bl _)
  · exact p.elim
theorem opS_isNn : OpS G E (fIsN true) (fun x y H Q => y = .non ∧ Q (.bl (!decide (x = .non))) H) := by
  intro as st H d1 d2 x y Q s r1 r2 p
  unfold fIsN at p
  split at p
  · cases r2
    refine ⟨rfl, ?_⟩
    rw [r1.isNon_eq]
    exact p.now s _ (.bl _)
  · exact p.elim
end
end VI
namespace VI
open PySem PySem.Spec PyProof.Rows L2
/-! ### in -/
section
variable {X : Cx} {G : Gx} {E : XK}
def rInP (K : PySem.W.Frag) (neg : Bool) : R2 := fun x y H Q => ∃ d ds, Dp K H x d ∧ (Dp K H y (.list ds) ∨ Dp K H y (.tuple ds)) ∧ d.plain = true ∧ PyData.plainAll ds = true ∧ min (PyData.depthAll ds) d.depth ≤ 60 ∧ Q (.bl (if neg then !(ds.any fun z => PyData.eqv z d) else ds.any fun z => PyData.eqv z d)) H
theorem op_inP (hu : X.A.units + 64 < cLine) : OpR X (compareOp .In) (rInP X.K false) := by
  intro pins s σ H x y v u Q I rx ry h
  obtain ⟨d, ds, hd, he, sd, se, hm, q⟩ := h
  obtain ⟨as, r1⟩ := Dp.reads I d x v hd rx
  rcases he with he | he
  · obtain ⟨bs, r2⟩ := Dp.reads I _ y u he ry
    exact SeqAt.in_list_data r2 r1 se sd (by omega) ⟨.bl _, H, I, rfl, q⟩
  · obtain ⟨bs, r2⟩ := Dp.reads I _ y u he ry
    exact SeqAt.in_tuple_data r2 r1 se sd (by omega) ⟨.bl _, H, I, rfl, q⟩
theorem op_ninP (hu : X.A.units + 64 < cLine) : OpR X (compareOp .NotIn) (rInP X.K true) := by
  intro pins s σ H x y v u Q I rx ry h
  obtain ⟨d, ds, hd, he, sd, se, hm, q⟩ := h
  obtain ⟨as, r1⟩ := Dp.reads I d x v hd rx
  rcases he with he | he
  · obtain ⟨bs, r2⟩ := Dp.reads I _ y u he ry
    exact SeqAt.notIn_list_data r2 r1 se sd (by omega) ⟨.bl _, H, I, rfl, q⟩
  · obtain ⟨bs, r2⟩ := Dp.reads I _ y u he ry
    exact SeqAt.notIn_tuple_data r2 r1 se sd (by omega) ⟨.bl _, H, I, rfl, q⟩
def strIn (i j : Str) : Bool := !(Builtin.Str.occurrences j i 0 j.length 1).isEmpty
def inDs (d : D) (ds : List D) : Bool := ds.any fun z => eqD z d
def shallowIn (d : D) (ds : List D) : Bool := decide (min (PyData.depthAll (toPys ds)) (toPy d).depth ≤ 60)
theorem toPys_map : ∀ ds : List D, toPys ds = ds.map toPy
  | [] => by simp [toPys]
  | d :: ds => by simp only [toPys, List.map_cons, toPys_map ds]
theorem inDs_py (d : D) (ds : List D) : ((toPys ds).any fun z => PyData.eqv z (toPy d)) = inDs d ds := by
  rw [toPys_map, List.any_map]; rfl
def fIn (neg : Bool) (a b : D) (st : Store) : Res Wv := match a, b with
  | .str i, .str j => .ok (.val (.bl (if neg then !strIn i j else strIn i j))) st
  | a, b => match unref b st with
    | .lst ds => if (isPy a && isPys ds && shallowIn a ds) = true then .ok (.val (.bl (if neg then !inDs a ds else inDs a ds))) st else .stuck
    | .tup ds => if (isPy a && isPys ds && shallowIn a ds) = true then .ok (.val (.bl (if neg then !inDs a ds else inDs a ds))) st else .stuck
    | _ => .stuck
def rInA (K : PySem.W.Frag) (neg : Bool) : R2 := fun x y H Q => (∃ i j, x = .str i ∧ y = .str j ∧ Q (.bl (if neg then !strIn i j else strIn i j)) H) ∨ rInP K neg x y H Q
theorem op_inA (hu : X.A.units + 64 < cLine) : OpR X (compareOp .In) (rInA X.K false) := OpR.or op_in_str (op_inP hu)
theorem op_ninA (hu : X.A.units + 64 < cLine) : OpR X (compareOp .NotIn) (rInA X.K true) := OpR.or op_notin_str (op_ninP hu)
theorem opS_in {neg : Bool} : OpS G E (fIn neg) (rInA G.K neg) := by
  intro as st H d1 d2 x y Q s r1 r2 p
  unfold fIn at p
  split at p
  · cases r1; cases r2
    exact .inl ⟨_, _, rfl, rfl, p.now s _ (.bl _)⟩
  · refine .inr ?_
    split at p
    · rename_i ds e
      split at p
      · rename_i c
        simp only [Bool.and_eq_true, shallowIn, decide_eq_true_eq] at c
        have h := unref_dp s r2 (by rw [e]; simp only [isPy]; exact c.1.2)
        rw [e] at h
        simp only [toPy] at h
        refine ⟨toPy d1, toPys ds, r1.dp c.1.1, .inl h, toPy_plain _, toPys_plain _, c.2, ?_⟩
        rw [inDs_py]
        exact p.now s _ (.bl _)
      · exact p.elim
    · rename_i ds e
      split at p
      · rename_i c
        simp only [Bool.and_eq_true, shallowIn, decide_eq_true_eq] at c
        have h := unref_dp s r2 (by rw [e]; simp only [isPy]; exact c.1.2)
        rw [e] at h
        simp only [toPy] at h
        refine ⟨toPy d1, toPys ds, r1.dp c.1.1, .inr h, toPy_plain _, toPys_plain _, c.2, ?_⟩
        rw [inDs_py]
        exact p.now s _ (.bl _)
      · exact p.elim
    · exact p.elim
end
/-! ### x[i], x[a:b] -/
def cutD {α : Type} (xs : List α) (lo hi : Option Int) : List α := (xs.drop (HT.sIx xs.length 0 lo)).take (HT.sIx xs.length xs.length hi - HT.sIx xs.length 0 lo)
def fIx (a b : D) (st : Store) : Res Wv := match a, b with
  | .str z, .int i => if z.length ≤ 100000 then (match atI z.cps.toList i with
    | some c => .ok (.val (.str ⟨#[c]⟩)) st
    | none => .stuck) else .stuck
  | .tup ds, .int i => match atI ds i with
    | some d => .ok (.val d) st
    | none => .stuck
  | a, .int i => match lstOf a st with
    | some (ds, _) => match atI ds i with
      | some d => .ok (.val d) st
      | none => .stuck
    | none => .stuck
  | _, _ => .stuck
def fSl (a : D) (lo hi : Option Int) (st : Store) : Res Wv := match a with
  | .str z => if z.length ≤ 100000 then .ok (.val (.str (cutS z lo hi))) st else .stuck
  | .tup ds => .ok (.val (.tup (cutD ds lo hi))) st
  | a => match lstOf a st with
    | some (ds, _) => .ok (.new (.lst (cutD ds lo hi))) st
    | none => .stuck
abbrev BM := DEnv → Store → Res (Option Int)
def bNone : BM := fun _ st => .ok none st
def bSome (m : EM) : BM := fun env st => (m env st).bind fun w st1 => match w.d with
  | .int i => .ok (some i) st1
  | _ => .stuck
def evSl (e : EM) (lo hi : BM) : EM := fun env st => (e env st).bind fun w st1 => (lo env st1).bind fun l st2 => (hi env st2).bind fun h st3 => fSl w.d l h st3
def tOI (G : Gx) (E : XK) (m : BM) : TO := fun σ H Q => ∃ as st env, StR G as st H ∧ EnvR G as (Live as st) H env σ ∧ Post G E as st H (m env st) fun o as' st' H' => Q o H'
theorem _root_.L2.PO.vi {X : Cx} {e : Option Expr} {t t' : TO} (h : PO X e t) (k : ∀ σ H Q, t' σ H Q → t σ H Q) : PO X e t' := ⟨fun pins s σ H Q I q => h.run pins s σ H Q I (k σ H Q q)⟩
section
variable {X : Cx} {G : Gx} {E : XK} {as as' : List Addr} {st st' : Store} {H : Hp} {L : Addr → Prop}
theorem RelDs.take : ∀ {ds : List D} {vs : List V} (n : Nat), RelDs G as L H ds vs → RelDs G as L H (ds.take n) (vs.take n)
  | _, _, 0, _ => .nil
  | _, _, _ + 1, .nil => .nil
  | _, _, n + 1, .cons r t => .cons r (RelDs.take n t)
theorem RelDs.drop : ∀ {ds : List D} {vs : List V} (n : Nat), RelDs G as L H ds vs → RelDs G as L H (ds.drop n) (vs.drop n)
  | _, _, 0, r => r
  | _, _, _ + 1, .nil => .nil
  | _, _, n + 1, .cons _ t => RelDs.drop n t
theorem RelDs.cutV {ds : List D} {vs : List V} {lo hi : Option Int} (r : RelDs G as L H ds vs) : RelDs G as L H (cutD ds lo hi) (cutV vs lo hi) := by
  unfold cutD L2.cutV
  rw [r.length]
  exact (r.drop _).take _
theorem RelDs.atI {ds : List D} {vs : List V} {i : Int} {d : D} (r : RelDs G as L H ds vs) (h : L2.atI ds i = some d) : ∃ v, L2.atI vs i = some v ∧ RelD G as L H d v := by
  unfold L2.atI at h ⊢
  rw [r.length] at h
  cases q : ixN vs.length i with
  | none => rw [q] at h; cases h
  | some j =>
    rw [q] at h
    exact r.get h
theorem opS_ix : OpS G E fIx (rIx G.K) := by
  intro as st H d1 d2 x y Q s r1 r2 p
  unfold fIx at p
  split at p
  · cases r1; cases r2
    split at p
    · rename_i hl
      split at p
      · rename_i c hc
        exact .inr (.inr ⟨_, _, _, rfl, rfl, szl hl, hc, p.now s _ (.str _)⟩)
      · exact p.elim
    · exact p.elim
  · cases r2
    cases r1 with
    | @tup ds pa vs h1 hr =>
    split at p
    · rename_i d hd
      obtain ⟨v, hv, rv⟩ := hr.atI hd
      exact .inr (.inl ⟨_, _, _, _, rfl, rfl, h1, hv, p.now s _ rv⟩)
    · exact p.elim
  · cases r2
    split at p
    · rename_i ds src hl
      split at p
      · rename_i d hd
        obtain ⟨pa, vs, rfl, h1, hr⟩ := lstOf_sq s r1 hl
        obtain ⟨v, hv, rv⟩ := hr.atI hd
        exact .inl ⟨_, _, _, _, rfl, rfl, h1, hv, p.now s _ rv⟩
      · exact p.elim
    · exact p.elim
  · exact p.elim
def rSl (K : PySem.W.Frag) : V → Option Int → Option Int → Hp → VK → Prop := fun x lo hi H Q => rSlS x lo hi H Q ∨ rSlA K x lo hi H Q ∨ rSlL K x lo hi H Q
theorem sl_all : SlR X (rSl X.K) := SlR.or sl_str (SlR.or sl_tupA sl_list)
theorem slS {d : D} {x : V} {lo hi : Option Int} {Q : VK} (s : StR G as st H) (r : RelD G as (Live as st) H d x) (p : Post G E as st H (fSl d lo hi st) (fun w as' st' H' => ∀ v, RelW G H as' st' H' w v → Q v H')) : rSl G.K x lo hi H Q := by
  unfold fSl at p
  split at p
  · cases r
    split at p
    · rename_i hl
      exact .inl ⟨_, rfl, szl hl, p.now s _ (.str _)⟩
    · exact p.elim
  · rename_i dd
    cases r with
    | @tup _ pa vs h1 hr =>
    refine .inr (.inl ⟨_, _, rfl, h1, fun ⟨e1, e2⟩ => ?_, fun _ t ht => p as _ (Ext.lay ht) (s.laid ht) _ (RelD.newTup s hr.cutV ht)⟩)
    have e : cutD dd lo hi = dd := by
      unfold cutD
      rw [hr.length, e1, e2]
      simp [← hr.length]
    rw [e] at p
    exact p.now s _ (.tup h1 hr)
  · split at p
    · rename_i ds src hl
      obtain ⟨pa, vs, rfl, h1, hr⟩ := lstOf_sq s r hl
      exact .inr (.inr ⟨_, _, rfl, h1, fun t ht => p as _ (Ext.lay ht) (s.laid ht) _ (RelW.newLst s hr.cutV ht)⟩)
    · exact p.elim
theorem pO_none : PO X none (tOI G E bNone) := po_none.vi fun σ H Q ⟨as, st, env, s, er, p⟩ => p.now s
theorem pO_some {e : Expr} {m : EM} (h : PE X e (tI G E m)) : PO X (some e) (tOI G E (bSome m)) := (po_some h).vi fun σ H Q ⟨as, st, env, s, er, p⟩ =>
  ⟨as, st, env, s, er, (p.bind s.len).mono fun w as1 st1 H1 e1 s1 p1 v1 r1 => by
    have r := r1.d
    cases q : w.d with
    | int b =>
      simp only [q] at p1
      rw [q] at r
      exact ⟨b, r.isInt, p1.now s1⟩
    | _ => simp only [q] at p1; exact p1.elim⟩
theorem pI_slice {e : Expr} {lo hi : Option Expr} {pos p2 : Pos} {m : EM} {bl bh : BM} (he : PE X e (tI G E m)) (hl : PO X lo (tOI G E bl)) (hh : PO X hi (tOI G E bh)) (hK : G.K = X.K) : PE X (.Subscript e (.Slice lo hi none p2) pos) (tI G E (evSl m bl bh)) := by
  refine (pe_slice sl_all he hl hh).vi fun σ H Q h => ?_
  obtain ⟨as, st, env, s, er, p⟩ := h
  refine ⟨as, st, env, s, er, (p.bind s.len).mono fun w as1 st1 H1 e1 s1 p1 v r => ?_⟩
  refine ⟨as1, st1, env, s1, er.ext e1 s.len, (p1.bind s1.len).mono fun o as2 st2 H2 e2 s2 p2 => ?_⟩
  refine ⟨as2, st2, env, s2, (er.ext e1 s.len).ext e2 s1.len, (p2.bind s2.len).mono fun o2 as3 st3 H3 e3 s3 p3 => ?_⟩
  rw [← hK]
  exact slS s3 ((r.d.ext e2 s1.len).ext e3 s2.len) (p3.mono fun w as4 st4 H4 e4 s4 q v rv => q v (rv.from fun x hx => e1.fresh (e2.fresh (e3.fresh hx))))
end
/-! ### built-in functions -/
def fLen (ds : List D) (st : Store) : Res Wv := match ds with
  | [.str z] => if z.length ≤ 100000 then .ok (.val (.int z.length)) st else .stuck
  | [.tup ds] => .ok (.val (.int ds.length)) st
  | [d] => match lstOf d st with
    | some (ds, _) => .ok (.val (.int ds.length)) st
    | none => .stuck
  | _ => .stuck
def fAbs (ds : List D) (st : Store) : Res Wv := match ds with
  | [.int i] => .ok (.val (.int (if i < 0 then -i else i))) st
  | _ => .stuck
def blsOf : List D → Option (List Bool)
  | [] => some []
  | .bl b :: ds => (blsOf ds).map fun bs => b :: bs
  | _ => none
def fAll (ds : List D) (st : Store) : Res Wv := match ds with
  | [d] => match lstOf d st with
    | some (ds, _) => match blsOf ds with
      | some bs => .ok (.val (.bl (bs.all id))) st
      | none => .stuck
    | none => .stuck
  | _ => .stuck
def fAny (ds : List D) (st : Store) : Res Wv := match ds with
  | [d] => match lstOf d st with
    | some (ds, _) => match blsOf ds with
      | some bs => .ok (.val (.bl (bs.any id))) st
      | none => .stuck
    | none => .stuck
  | _ => .stuck
def fList (ds : List D) (st : Store) : Res Wv := match ds with
  | [.tup ds] => .ok (.new (.lst ds)) st
  | [d] => match lstOf d st with
    | some (ds, _) => .ok (.new (.lst ds)) st
    | none => .stuck
  | _ => .stuck
def fTuple (ds : List D) (st : Store) : Res Wv := match ds with
  | [.tup ds] => .ok (.val (.tup ds)) st
  | [d] => match lstOf d st with
    | some (ds, _) => .ok (.val (.tup ds)) st
    | none => .stuck
  | _ => .stuck
section
variable {X : Cx} {G : Gx} {E : XK} {as as' : List Addr} {st st' : Store} {H : Hp} {L : Addr → Prop}
theorem callS_len : CallS G E fLen (fun xs H Q => ∃ x n, xs = [x] ∧ LenV G.K x H n ∧ Q (.int n) H) := by
  intro as st H ds xs Q s r p
  unfold fLen at p
  split at p
  · cases r with
    | cons r t =>
    cases t; cases r
    split at p
    · rename_i h
      exact ⟨_, _, rfl, ⟨szl h, rfl⟩, p.now s _ (.int _)⟩
    · exact p.elim
  · cases r with
    | cons r t =>
    cases t
    cases r with
    | @tup ds pa vs h1 hr =>
    refine ⟨_, vs.length, rfl, .inr ⟨vs, h1, rfl⟩, ?_⟩
    rw [← hr.length]
    exact p.now s _ (.int _)
  · cases r with
    | cons r t =>
    cases t
    split at p
    · rename_i ds src hl
      obtain ⟨pa, vs, rfl, h1, hr⟩ := lstOf_sq s r hl
      refine ⟨_, vs.length, rfl, .inl ⟨vs, h1, rfl⟩, ?_⟩
      rw [← hr.length]
      exact p.now s _ (.int _)
    · exact p.elim
  · exact p.elim
theorem callS_abs : CallS G E fAbs (fun xs H Q => ∃ i, xs = [.int i] ∧ Q (.int (if i < 0 then -i else i)) H) := by
  intro as st H ds xs Q s r p
  unfold fAbs at p
  split at p
  · cases r with
    | cons r t =>
    cases t; cases r
    exact ⟨_, rfl, p.now s _ (.int _)⟩
  · exact p.elim
theorem blsOf_rel : ∀ {ds : List D} {vs : List V} {bs : List Bool}, RelDs G as L H ds vs → blsOf ds = some bs → vs = bs.map V.bl
  | _, _, _, .nil, h => by cases h; rfl
  | _, _, bs, .cons (ds := ds) r t, h => by
    cases r with
    | bl b =>
      simp only [blsOf] at h
      cases q : blsOf ds with
      | none => rw [q] at h; cases h
      | some bs' =>
        rw [q] at h
        cases h
        rw [blsOf_rel t q]; rfl
    | _ => simp only [blsOf] at h; cases h
theorem callS_all : CallS G E fAll (rAll G.K) := by
  intro as st H ds xs Q s r p
  unfold fAll at p
  split at p
  · cases r with
    | cons r t =>
    cases t
    split at p
    · rename_i ds src hl
      split at p
      · rename_i bs hb
        obtain ⟨pa, vs, rfl, h1, hr⟩ := lstOf_sq s r hl
        rw [blsOf_rel hr hb] at h1
        exact ⟨pa, bs, rfl, h1, p.now s _ (.bl _)⟩
      · exact p.elim
    · exact p.elim
  · exact p.elim
theorem callS_any : CallS G E fAny (rAny G.K) := by
  intro as st H ds xs Q s r p
  unfold fAny at p
  split at p
  · cases r with
    | cons r t =>
    cases t
    split at p
    · rename_i ds src hl
      split at p
      · rename_i bs hb
        obtain ⟨pa, vs, rfl, h1, hr⟩ := lstOf_sq s r hl
        rw [blsOf_rel hr hb] at h1
        exact ⟨pa, bs, rfl, h1, p.now s _ (.bl _)⟩
      · exact p.elim
    · exact p.elim
  · exact p.elim
theorem callS_list : CallS G E fList (fun xs H Q => ∃ p ys, xs = [.ref p] ∧ (SqL G.K H p ys ∨ SqT G.K H p ys) ∧ ∀ l, H l = none → Q (.ref l) (upd H l (.lst ys))) := by
  intro as st H ds xs Q s r p
  unfold fList at p
  split at p
  · cases r with
    | cons r t =>
    cases t
    cases r with
    | @tup ds pa vs h1 hr =>
    exact ⟨_, vs, rfl, .inr h1, fun t ht => p as _ (Ext.lay ht) (s.laid ht) _ (RelW.newLst s hr ht)⟩
  · cases r with
    | cons r t =>
    cases t
    split at p
    · rename_i ds src hl
      obtain ⟨pa, vs, rfl, h1, hr⟩ := lstOf_sq s r hl
      exact ⟨_, vs, rfl, .inl h1, fun t ht => p as _ (Ext.lay ht) (s.laid ht) _ (RelW.newLst s hr ht)⟩
    · exact p.elim
  · exact p.elim
theorem callS_tuple : CallS G E fTuple (fun xs H Q => ∃ p ys, xs = [.ref p] ∧ ((SqL G.K H p ys ∧ ∀ l, H l = none → Q (.ref l) (upd H l (.tup ys))) ∨ (SqT G.K H p ys ∧ Q (.ref p) H))) := by
  intro as st H ds xs Q s r p
  unfold fTuple at p
  split at p
  · cases r with
    | cons r t =>
    cases t
    cases r with
    | @tup ds pa vs h1 hr => exact ⟨_, vs, rfl, .inr ⟨h1, p.now s _ (.tup h1 hr)⟩⟩
  · cases r with
    | cons r t =>
    cases t
    split at p
    · rename_i ds src hl
      obtain ⟨pa, vs, rfl, h1, hr⟩ := lstOf_sq s r hl
      exact ⟨_, vs, rfl, .inl ⟨h1, fun t ht => p as _ (Ext.lay ht) (s.laid ht) _ (RelD.newTup s hr ht)⟩⟩
    · exact p.elim
  · exact p.elim
end
/-! ### isinstance of built-in classes -/
def tyD (d : D) (st : Store) : Option String := match d with
  | .non => some "NoneType"
  | .bl _ => some "bool"
  | .int _ => some "int"
  | .str _ => some "str"
  | .tup _ => some "tuple"
  | .lst _ => some "list"
  | .dic _ => some "dict"
  | .ref n => match st[n]? with
    | some (some (.lst _)) => some "list"
    | some (some (.dic _)) => some "dict"
    | _ => none
  | _ => none
def isiTab (a T : String) : Bool := a == T || (a == "bool" && T == "int")
def knownTy : List String := ["NoneType", "bool", "int", "str", "tuple", "list", "dict"]
theorem isiTab_kit : (knownTy.all fun a => ["bool", "int", "str", "tuple", "list", "dict"].all fun T => decide (kitB a T = some (isiTab a T))) = true := by decide +kernel
def okTy (T : String) : Bool := ["bool", "int", "str", "tuple", "list", "dict"].contains T
theorem tyD_known {d : D} {st : Store} {a : String} (h : tyD d st = some a) : a ∈ knownTy := by
  cases d with
  | ref n =>
    simp only [tyD] at h
    split at h <;> first | cases h | skip
    all_goals simp [knownTy]
  | _ => simp only [tyD] at h <;> cases h <;> simp [knownTy]
theorem kit_known {a T : String} (ha : a ∈ knownTy) (hT : okTy T = true) : kitB a T = some (isiTab a T) := by
  have h := isiTab_kit
  rw [List.all_eq_true] at h
  have h2 := h a ha
  rw [List.all_eq_true] at h2
  exact of_decide_eq_true (h2 T (by simpa [okTy] using hT))
def tysOf : List D → Option (List String)
  | [] => some []
  | .ty T :: ds => if okTy T = true then (tysOf ds).map fun ts => T :: ts else none
  | _ => none
def fIsi (ds : List D) (st : Store) : Res Wv := match ds with
  | [d, .ty T] => match tyD d st with
    | some a => if okTy T = true then .ok (.val (.bl (isiTab a T))) st else .stuck
    | none => .stuck
  | [d, .tup cs] => match tyD d st, tysOf cs with
    | some a, some ts => .ok (.val (.bl (ts.any fun T => isiTab a T))) st
    | _, _ => .stuck
  | _ => .stuck
def rIsiS (K : PySem.W.Frag) : List V → Hp → VK → Prop := fun xs H Q => ∃ (x : V) (tp : Addr) (cs : List V) (t : Value) (us : List Value) (b : Bool), xs = [x, .ref tp] ∧ SqT K H tp cs ∧ Paired ClsV cs us ∧ TyX K H x t ∧ PySem.W.kitAny K t us = some b ∧ Q (.bl b) H
theorem call_isiS {X : Cx} : CallR X (.builtin "isinstance") (rIsiS X.K) := by
  intro pins s σ H xs us Q I r h
  obtain ⟨x, tp, cs, t, ws, b, rfl, hT, k, ty, e, q⟩ := h
  obtain ⟨u1, u2, rfl, r1, r2⟩ : ∃ u1 u2, us = [u1, u2] ∧ RelV x u1 ∧ RelV (V.ref tp) u2 := by
    cases r with
    | cons r1 r =>
    cases r with
    | cons r2 r =>
    cases r
    exact ⟨_, _, rfl, r1, r2⟩
  cases (show u2 = Value.ref tp from r2)
  obtain ⟨P, Z, p, hx⟩ := kit_of I r1 ty
  obtain ⟨its, rv, ⟨o, h1, h2, n, h3⟩, _⟩ := I.tuple hT
  have e3 := ClsV.all k rv
  subst e3
  obtain ⟨oc, od, dt, sl⟩ := o
  simp only at h2 h3
  subst h2 h3
  exact PySem.W.kia_tup Z I.kIn p h1 e hx fun tk => ⟨.bl b, H, I.tok tk, rfl, q⟩
def rIsi2 (K : PySem.W.Frag) : List V → Hp → VK → Prop := fun xs H Q => rIsi K xs H Q ∨ rIsiS K xs H Q
section
variable {X : Cx} {G : Gx} {E : XK} {as as' : List Addr} {st st' : Store} {H : Hp} {L : Addr → Prop}
theorem call_isi2 : CallR X (.builtin "isinstance") (rIsi2 X.K) := CallR.or call_isi call_isiS
theorem tyD_x (s : StR G as st H) {d : D} {v : V} {a : String} (r : RelD G as (Live as st) H d v) (h : tyD d st = some a) : TyX G.K H v (.type a) := by
  cases r with
  | non => cases h; exact .base .non
  | bl b => cases h; exact .base (.bl b)
  | int b => cases h; exact .base (.int b)
  | str b => cases h; exact .base (.str b)
  | ty n => cases h
  | cl _ => cases h
  | @ref n ad ha =>
    simp only [tyD] at h
    split at h
    · rename_i ds e
      cases h
      obtain ⟨a', ha', vs, hv, _⟩ := s.cells _ _ e
      rw [ha] at ha'; cases ha'
      exact .base (.lst hv)
    · rename_i kvs e
      cases h
      obtain ⟨a', ha', c⟩ := s.cells _ _ e
      rw [ha] at ha'; cases ha'
      cases kvs with
      | nil => exact .base (.dK c)
      | cons _ _ => exact False.elim c
    · cases h
  | tup h1 _ =>
    cases h
    rcases h1 with (h1 | ⟨o, h1⟩) | ⟨o, its, n, hk, hc, _⟩
    · exact .base (.tup h1)
    · exact .fTuple h1
    · exact .kTuple hk hc
  | lst h1 _ _ =>
    cases h
    rcases h1 with h1 | ⟨o, h1⟩
    · exact .base (.lst h1)
    · exact .base (.frz h1)
  | lstK h1 _ =>
    cases h
    obtain ⟨o, its, n, hk, hc, _⟩ := h1
    exact .kList hk hc
  | dic0 h1 _ => cases h; exact .base (.dK h1)
  | obj _ _ _ _ _ => cases h
theorem tysOf_rel : ∀ {ds : List D} {vs : List V} {ts : List String}, RelDs G as L H ds vs → tysOf ds = some ts → vs = ts.map V.ty ∧ ∀ T ∈ ts, okTy T = true
  | _, _, _, .nil, h => by cases h; exact ⟨rfl, by simp⟩
  | _, _, ts, .cons (ds := ds) r t, h => by
    cases r with
    | ty T =>
      simp only [tysOf] at h
      split at h
      · rename_i ok
        cases q : tysOf ds with
        | none => rw [q] at h; cases h
        | some ts' =>
          rw [q] at h
          cases h
          obtain ⟨e, a⟩ := tysOf_rel t q
          refine ⟨by rw [e]; rfl, fun U hU => ?_⟩
          rcases List.mem_cons.mp hU with rfl | hU
          · exact ok
          · exact a U hU
      · cases h
    | _ => simp only [tysOf] at h; cases h
theorem paired_ty : ∀ ts : List String, Paired ClsV (ts.map V.ty) (ts.map Value.type)
  | [] => .nil
  | T :: ts => .cons (.ty T) (paired_ty ts)
theorem kitAny_ty {K : PySem.W.Frag} {a : String} (ha : a ∈ knownTy) : ∀ ts : List String, (∀ T ∈ ts, okTy T = true) → PySem.W.kitAny K (.type a) (ts.map Value.type) = some (ts.any fun T => isiTab a T)
  | [], _ => rfl
  | T :: ts, h => by
    have h1 : PySem.W.kitOne K (.type a) (.type T) = some (isiTab a T) := kit_ty (kit_known ha (h T List.mem_cons_self))
    have h2 := kitAny_ty (K := K) ha ts fun U hU => h U (List.mem_cons_of_mem _ hU)
    show PySem.W.kitAny K (.type a) (Value.type T :: ts.map Value.type) = _
    unfold PySem.W.kitAny
    rw [h1]
    cases q : isiTab a T with
    | true => simp [q]
    | false => simp only [List.any_cons, q, Bool.false_or]; exact h2
theorem callS_isi : CallS G E fIsi (rIsi2 G.K) := by
  intro as st H ds xs Q s r p
  unfold fIsi at p
  split at p
  · cases r with
    | cons r t =>
    cases t with
    | cons r2 t =>
    cases t; cases r2
    split at p
    · rename_i a ha
      split at p
      · rename_i ok
        exact .inl ⟨_, _, _, _, _, rfl, .ty _, tyD_x s r ha, kit_ty (kit_known (tyD_known ha) ok), p.now s _ (.bl _)⟩
      · exact p.elim
    · exact p.elim
  · cases r with
    | cons r t =>
    cases t with
    | cons r2 t =>
    cases t
    split at p
    · rename_i a ts ha hts
      cases r2 with
      | @tup cs pa vs h1 hr =>
      obtain ⟨e, ok⟩ := tysOf_rel hr hts
      subst e
      exact .inr ⟨_, pa, _, _, _, _, rfl, h1, paired_ty ts, tyD_x s r ha, kitAny_ty (tyD_known ha) ts ok, p.now s _ (.bl _)⟩
    · exact p.elim
  · exact p.elim
end
end VI
namespace VI
open PySem PySem.Spec PyProof.Rows L2
/-! ### methods of built-in types -/
def evMt (T : String) (f : D → List D → Store → Res Wv) (o : EM) (a : AM) : EM := fun env st => (o env st).bind fun w st1 => if tyD w.d st1 = some T ∧ (T = "str" ∨ T = "list" ∨ T = "dict") then (a env st1).bind fun ds st2 => f w.d ds st2 else .stuck
def fAppend (o : D) (ds : List D) (st : Store) : Res Wv := match o, ds with
  | .ref n, [d] => match st[n]? with
    | some (some (.lst xs)) => if xs.length < 100000 then .ok (.val .non) (st.set n (some (.lst (xs ++ [d])))) else .stuck
    | _ => .stuck
  | _, _ => .stuck
def strsOf : List D → Option (List Str)
  | [] => some []
  | .str x :: ds => (strsOf ds).map fun xs => x :: xs
  | _ => none
def fJoin (o : D) (ds : List D) (st : Store) : Res Wv := match o, ds with
  | .str a, [.tup ds] => match strsOf ds with
    | some ys => if (ys.map (·.length)).sum + ys.length * a.length ≤ 100000 then .ok (.val (.str (Txt.join a ys))) st else .stuck
    | none => .stuck
  | .str a, [d] => match lstOf d st with
    | some (ds, _) => match strsOf ds with
      | some ys => if (ys.map (·.length)).sum + ys.length * a.length ≤ 100000 then .ok (.val (.str (Txt.join a ys))) st else .stuck
      | none => .stuck
    | none => .stuck
  | _, _ => .stuck
section
variable {X : Cx} {G : Gx} {E : XK} {as as' : List Addr} {st st' : Store} {H : Hp} {L : Addr → Prop}
theorem tyD_v (s : StR G as st H) {d : D} {v : V} {T : String} (r : RelD G as (Live as st) H d v) (h : tyD d st = some T) (hT : T = "str" ∨ T = "list" ∨ T = "dict") : tyV G.K T v H := by
  cases r with
  | non => cases h; simp at hT
  | bl b => cases h; simp at hT
  | int b => cases h; simp at hT
  | str b => cases h; exact rfl
  | ty n => cases h
  | cl _ => cases h
  | @ref n ad ha =>
    simp only [tyD] at h
    split at h
    · rename_i ds e
      cases h
      obtain ⟨a', ha', vs, hv, _⟩ := s.cells _ _ e
      rw [ha] at ha'; cases ha'
      exact .inl ⟨rfl, vs, .inl (.inl hv)⟩
    · rename_i kvs e
      cases h
      obtain ⟨a', ha', c⟩ := s.cells _ _ e
      rw [ha] at ha'; cases ha'
      cases kvs with
      | nil => exact .inr (.inr (.inl ⟨rfl, .inl ⟨[], c⟩⟩))
      | cons _ _ => exact False.elim c
    · cases h
  | tup h1 _ => cases h; simp at hT
  | @lst ds p vs h1 _ _ => cases h; exact .inl ⟨rfl, vs, .inl h1⟩
  | @lstK ds p vs h1 _ => cases h; exact .inl ⟨rfl, vs, .inr h1⟩
  | dic0 h1 _ => cases h; exact .inr (.inr (.inl ⟨rfl, .inl ⟨[], h1⟩⟩))
  | obj _ _ _ _ _ => cases h
theorem tI_evMt {T : String} {f : D → List D → Store → Res Wv} {r : V → List V → Hp → VK → Prop} {mo : EM} {ma : AM} {σ : L2.St} {Q : VK} (hs : MtS' G E f r) (h : tI G E (evMt T f mo ma) σ H Q) : tBM G.K T r (tI G E mo) (tAr G E ma) σ H Q := by
  obtain ⟨as, st, env, s, er, p⟩ := h
  refine ⟨as, st, env, s, er, (p.bind s.len).mono fun w as1 st1 H1 e1 s1 p1 v1 r1 => ?_⟩
  split at p1
  · rename_i c
    refine ⟨tyD_v s1 r1.d c.1 c.2, as1, st1, env, s1, er.ext e1 s.len, (p1.bind s1.len).mono fun ds as2 st2 H2 e2 s2 p2 vs r2 => ?_⟩
    exact hs as2 st2 H2 _ _ _ _ _ s2 (r1.d.ext e2 s1.len) r2 (p2.mono fun w as3 st3 H3 e3 s3 q v rv => q v (rv.from fun x hx => e1.fresh (e2.fresh hx)))
  · exact p1.elim
theorem pI_bm {T id : String} {o e : Expr} {es : List Expr} {name : Str} {apos cpos : Pos} {f : D → List D → Store → Res Wv} {r : V → List V → Hp → VK → Prop} {mo : EM} {ma : AM} (hK : G.K = X.K) (pa : PlainAttrs T) (slot : Slot T name id) (hty : typeOf (.builtin id) = pure (.type "method_descriptor")) (hm : MtR X id r) (hs : MtS' G E f r) (ho : PE X o (tI G E mo)) (ha : PA X (e :: es) (tAr G E ma))
    (hbase : attributeBase o name X.env (eval o X.env) = eval o X.env := by rfl)
    (hfew : ((backTo cpos (starEach (e :: es) X.env)).all (fun x => !x.1) && (backToKw cpos (keywordEach [] X.env)).all (fun x => x.1.isSome)
      && decide ((e :: es).length + ([] : List Keyword).length + (if ([] : List Keyword).isEmpty then 0 else 1) < 30)) = true := by rfl)
    (hline : (apos.endLine == cpos.line) = true := by rfl) (hst : starEach (e :: es) X.env = (false, eval e X.env) :: starEach es X.env := by rfl) (hplain : (backTo cpos (starEach es X.env)).any (·.1) = false := by rfl) :
    PE X (.Call (.Attribute o name apos) (e :: es) [] cpos) (tI G E (evMt T f mo ma)) :=
  (pe_bm pa slot hty hm ho ha hbase hfew hline hst hplain).vi fun σ H Q h => by rw [← hK]; exact tI_evMt hs h
theorem mtS_append : MtS' G E fAppend rAppend := by
  intro as st H d ds x xs Q s r rs p
  unfold fAppend at p
  split at p
  · cases rs with
    | cons r2 t =>
    cases t
    split at p
    · rename_i zs e
      split at p
      · rename_i hl
        cases r with
        | @ref _ a ha =>
        obtain ⟨a', ha', vs, hv, rr⟩ := s.cells _ _ e
        rw [ha] at ha'; cases ha'
        have live : Live as st a := ⟨_, _, ha, e⟩
        refine ⟨a, vs, _, rfl, rfl, hv, Nat.lt_of_lt_of_le (by rw [← rr.length]; exact hl) (by decide : 100000 ≤ sizeLine), ?_⟩
        have kp : ∀ b o, H b = some o → (¬ Live as st b ∨ notMut o = true) → ∀ u, upd H a u b = some o := fun b o eb k u => by
          have ne : b ≠ a := fun z => by
            subst z
            rcases k with k | k
            · exact k live
            · rw [hv] at eb; cases eb; cases k
          rw [upd_ne ne]; exact eb
        obtain ⟨a1, a2⟩ := s.write (d := .lst (zs ++ [_])) (o := .lst (vs ++ [_])) e ha ⟨_, upd_same, (rr.mono (List.prefix_refl _) (fun _ _ n => n) fun b o eb k => kp b o eb k _).append (.cons (r2.mono (List.prefix_refl _) (fun _ _ n => n) fun b o eb k => kp b o eb k _) .nil)⟩
        exact p _ _ a2 a1 _ .non
      · exact p.elim
    · exact p.elim
  · exact p.elim
theorem strsOf_rel : ∀ {ds : List D} {vs : List V} {ys : List Str}, RelDs G as L H ds vs → strsOf ds = some ys → vs = ys.map V.str
  | _, _, _, .nil, h => by cases h; rfl
  | _, _, bs, .cons (ds := ds) r t, h => by
    cases r with
    | str b =>
      simp only [strsOf] at h
      cases q : strsOf ds with
      | none => rw [q] at h; cases h
      | some bs' =>
        rw [q] at h
        cases h
        rw [strsOf_rel t q]; rfl
    | _ => simp only [strsOf] at h; cases h
theorem mtS_join : MtS' G E fJoin (fun x xs H Q => ∃ a p, ∃ ys : List Str, x = .str a ∧ xs = [.ref p] ∧ (SqL G.K H p (ys.map V.str) ∨ SqT G.K H p (ys.map V.str)) ∧ (ys.map (·.length)).sum + ys.length * a.length ≤ 16777216 ∧ Q (.str (Txt.join a ys)) H) := by
  intro as st H d ds x xs Q s r rs p
  unfold fJoin at p
  split at p
  · cases r
    cases rs with
    | cons r2 t =>
    cases t
    split at p
    · rename_i ys e
      split at p
      · rename_i hl
        cases r2 with
        | @tup _ pa vs h1 hr =>
        rw [strsOf_rel hr e] at h1
        exact ⟨_, pa, ys, rfl, rfl, .inr h1, by omega, p.now s _ (.str _)⟩
      · exact p.elim
    · exact p.elim
  · cases r
    cases rs with
    | cons r2 t =>
    cases t
    split at p
    · rename_i zs src hz
      split at p
      · rename_i ys e
        split at p
        · rename_i hl
          obtain ⟨pa, vs, rfl, h1, hr⟩ := lstOf_sq s r2 hz
          rw [strsOf_rel hr e] at h1
          exact ⟨_, pa, ys, rfl, rfl, .inl h1, by omega, p.now s _ (.str _)⟩
        · exact p.elim
      · exact p.elim
    · exact p.elim
  · exact p.elim
end
/-! ### x[i] = e -/
def fSetL (o i v : D) (st : Store) : Option Store := match o, i with
  | .ref n, .int k => match st[n]? with
    | some (some (.lst xs)) => (ixN xs.length k).map fun j => st.set n (some (.lst (xs.set j v)))
    | _ => none
  | _, _ => none
def sSetIx (f : D → D → D → Store → Option Store) (e o i : EM) : SM := fun env st => SRes.of (e env st) fun w1 st1 => SRes.of (o env st1) fun w2 st2 => SRes.of (i env st2) fun w3 st3 => match f w2.d w3.d w1.d st3 with
  | some st4 => .nx env st4
  | none => .stuck
def SetS (G : Gx) (f : D → D → D → Store → Option Store) (t : TSet) : Prop := ∀ as st H d1 d2 d3 x y z Q st4, StR G as st H → RelD G as (Live as st) H d1 x → RelD G as (Live as st) H d2 y → RelD G as (Live as st) H d3 z → f d1 d2 d3 st = some st4 →
  (∀ as' H', Ext as st H as' st4 H' → StR G as' st4 H' → Q H') → t x y z H Q
section
variable {X : Cx} {G : Gx} {E : XK} {De : Ends} {as as' : List Addr} {st st' : Store} {H : Hp} {L : Addr → Prop} {σ : L2.St} {pos : Pos}
theorem RelDs.set : ∀ {ds : List D} {vs : List V} {d : D} {v : V} (i : Nat), RelDs G as L H ds vs → RelD G as L H d v → RelDs G as L H (ds.set i d) (vs.set i v)
  | _, _, _, _, _, .nil, _ => .nil
  | _, _, _, _, 0, .cons _ t, r => .cons r t
  | _, _, _, _, i + 1, .cons q t, r => .cons q (RelDs.set i t r)
theorem setS_list : SetS G fSetL rSetL := by
  intro as st H d1 d2 d3 x y z Q st4 s r1 r2 r3 h k
  unfold fSetL at h
  split at h
  · cases r2
    cases r1 with
    | @ref _ a ha =>
    split at h
    · rename_i xs e
      cases q : ixN xs.length _ with
      | none => rw [q] at h; cases h
      | some j =>
        rw [q] at h
        cases h
        obtain ⟨a', ha', vs, hv, rr⟩ := s.cells _ _ e
        rw [ha] at ha'; cases ha'
        have live : Live as st a := ⟨_, _, ha, e⟩
        rw [rr.length] at q
        have kp : ∀ b o, H b = some o → (¬ Live as st b ∨ notMut o = true) → ∀ u, upd H a u b = some o := fun b o eb k u => by
          have ne : b ≠ a := fun z => by
            subst z
            rcases k with k | k
            · exact k live
            · rw [hv] at eb; cases eb; cases k
          rw [upd_ne ne]; exact eb
        obtain ⟨a1, a2⟩ := s.write (d := .lst (xs.set j d3)) (o := .lst (vs.set j z)) e ha ⟨_, upd_same, (rr.mono (List.prefix_refl _) (fun _ _ n => n) fun b o eb k => kp b o eb k _).set j (r3.mono (List.prefix_refl _) (fun _ _ n => n) fun b o eb k => kp b o eb k _)⟩
        exact ⟨a, vs, _, j, rfl, rfl, hv, q, k _ _ a2 a1⟩
    · cases h
  · cases h
theorem tS_setIx {f : D → D → D → Store → Option Store} {t : TSet} {e o i : EM} (hs : SetS G f t) (h : tS G E (sSetIx f e o i) De σ H) : tAsg (tI G E e) (gSub (tI G E o) (tI G E i) t) De σ H := by
  obtain ⟨as, st, env, s, er, p⟩ := h
  refine ⟨as, st, env, s, er, (SPost.of s.len p).mono fun w as1 st1 H1 e1 s1 p1 v1 r1 => ?_⟩
  have p1 := p1.from s.len e1
  refine ⟨as1, st1, env, s1, er.ext e1 s.len, (SPost.of s1.len p1).mono fun w2 as2 st2 H2 e2 s2 p2 v2 r2 => ?_⟩
  have p2 := p2.from s1.len e2
  refine ⟨as2, st2, env, s2, (er.ext e1 s.len).ext e2 s1.len, (SPost.of s2.len p2).mono fun w3 as3 st3 H3 e3 s3 p3 v3 r3 => ?_⟩
  have p3 := p3.from s2.len e3
  cases q : f w2.d w3.d w.d st3 with
  | none => simp only [q] at p3; exact p3.elim
  | some st4 =>
    simp only [q] at p3
    exact hs as3 st3 H3 _ _ _ _ _ _ _ st4 s3 (r2.d.ext e3 s2.len) r3.d ((r1.d.ext e2 s1.len).ext e3 s2.len) q fun as4 H4 e4 s4 => p3 as4 H4 σ e4 s4 ((((er.ext e1 s.len).ext e2 s1.len).ext e3 s2.len).ext e4 s3.len)
/-! ### statements -/
theorem pSs_nil : PSs X [] (tS G E sNext) := pss_nil.vi fun _ _ _ => tS_next
theorem pSs_cons {st : Stmt} {rest : List Stmt} {a b : SM} (h1 : PS X st (tS G E a)) (h2 : PSs X rest (tS G E b)) : PSs X (st :: rest) (tS G E (sSeq a b)) := (pss_cons h1 h2).vi fun _ _ _ => tS_seq
theorem pSs_one {st : Stmt} {a : SM} (h1 : PS X st (tS G E a)) : PSs X [st] (tS G E a) := pss_one h1
theorem pS_pass : PS X (.Pass pos) (tS G E sNext) := ps_pass.vi fun _ _ _ => tS_next
theorem pS_break : PS X (.Break pos) (tS G E sBreak) := ps_break.vi fun _ _ _ => tS_brk
theorem pS_cont : PS X (.Continue pos) (tS G E sCont) := ps_continue.vi fun _ _ _ => tS_cnt
theorem pS_expr {e : Expr} {m : EM} (he : PE X e (tI G E m)) (hs : swapsWith e none pos.line X.env = pure false := by rfl) : PS X (.Expr e pos) (tS G E (sDrop m)) := (ps_expr he hs).vi fun _ _ _ => tS_drop
theorem pS_ret {e : Expr} {m : EM} (he : PE X e (tI G E m)) : PS X (.Return (some e) pos) (tS G E (sRet m)) := (ps_ret he).vi fun _ _ _ => tS_ret
theorem pS_retN : PS X (.Return none pos) (tS G E sRetN) := ps_retN.vi fun _ _ _ => tS_retN
theorem pS_if {c : Expr} {a b : List Stmt} {t : TM} {ma mb : SM} (hc : PT X c (tT G E t)) (ha : PSs X a (tS G E ma)) (hb : PSs X b (tS G E mb)) : PS X (.If c a b pos) (tS G E (sIf t ma mb)) := (ps_if hc ha hb).vi fun _ _ _ => tS_if
theorem pS_set {i : Nat} {x : Str} {e : Expr} {m : EM} {pos' : Pos} (hN : X.N.Nodup) (hi : X.N[i]? = some x) (hx : Loc X.env.scope x) (he : PE X e (tI G E m)) (hs : swapsWith e (some (.Name x pos')) pos.line X.env = pure false := by rfl) (hf : X.fn x = true ∨ X.env.scope.names.lookup x = some .local := by first | exact .inl rfl | exact .inr rfl | assumption) :
    PS X (.Assign [.Name x pos'] e pos) (tS G E (sSet i m)) := (ps_set hN hi hx he hs hf).vi fun _ _ _ => tS_set
theorem pS_reg {i : Nat} {x : Str} {e : Expr} {m : EM} {pos' : Pos} (hN : X.N.Nodup) (hi : X.N[i]? = some x) (hx : Loc X.env.scope x) (he : PE X e (tI G E m)) (hs : swapsWith e (some (.Name x pos')) pos.line X.env = pure false := by rfl) (hf : X.fn x = true ∨ X.env.scope.names.lookup x = some .local := by first | exact .inl rfl | exact .inr rfl | assumption) :
    PS X (.Assign [.Name x pos'] e pos) (tS G E (sReg i m)) := (ps_set hN hi hx he hs hf).vi fun _ _ _ => tS_reg
theorem pS_asg {tg e : Expr} {m : EM} {g : GD} {sl : List Nat} (he : PE X e (tI G E m)) (hg : PG X tg (tG G g sl)) (hs : swapsWithSole [tg] e pos.line X.env = pure false := by rfl) (hw : swappedStores [tg] e X.env = pure none := by rfl)
    (h1 : (assignEach [tg] X.env).map (·.2) = [assign tg X.env] := by rfl) : PS X (.Assign [tg] e pos) (tS G E (sAsg g m)) := (ps_asg he hg hs hw h1).vi fun _ _ _ => tS_asg
theorem pS_setIx {o i e : Expr} {f : D → D → D → Store → Option Store} {t : TSet} {me mo mi : EM} {pos' : Pos} (hset : PSet X t) (hf : SetS G f t) (he : PE X e (tI G E me)) (ho : PE X o (tI G E mo)) (hi : PE X i (tI G E mi))
    (ha : ∀ v, assign (.Subscript o i pos') X.env v = (do
      let ov ← holding [v] (eval o X.env)
      let iv ← holding [v, ov] (eval i X.env)
      standAt pos'
      holding [v, ov, iv] (setItem ov iv v)
      release [v, ov, iv] []) := by intro _; rfl)
    (hs : swapsWithSole [.Subscript o i pos'] e pos.line X.env = pure false := by rfl) (hw : swappedStores [.Subscript o i pos'] e X.env = pure none := by rfl)
    (h1 : (assignEach [.Subscript o i pos'] X.env).map (·.2) = [assign (.Subscript o i pos') X.env] := by rfl) : PS X (.Assign [.Subscript o i pos'] e pos) (tS G E (sSetIx f me mo mi)) :=
  (ps_asg he (pg_sub ho hi hset ha) hs hw h1).vi fun _ _ _ => tS_setIx hf
theorem pS_par {i j : Nat} {x y : Str} {a b : Expr} {m : AM} {px py pt : Pos} {kt k2 pt2} (hc : X.calm = true) (hN : X.N.Nodup) (hi : X.N[i]? = some x) (hj : X.N[j]? = some y) (hij : i ≠ j)
    (hx : X.env.scope.names.lookup x = some .local) (hy : X.env.scope.names.lookup y = some .local) (ha : PA X [a, b] (tAr G E m))
    (hw : swappedStores [.Tuple [.Name x px, .Name y py] kt pt] (.Tuple [a, b] k2 pt2) X.env = pure (some [x, y]))
    (hs : swapsWithSole [.Tuple [.Name x px, .Name y py] kt pt] (.Tuple [a, b] k2 pt2) pos.line X.env = pure false := by rfl) :
    PS X (.Assign [.Tuple [.Name x px, .Name y py] kt pt] (.Tuple [a, b] k2 pt2) pos) (tS G E (sPar i j m)) := (ps_par hc hN hi hj hij hx hy ha hw hs).vi fun _ _ _ => tS_par
def sAug (i : Nat) (f : D → D → Store → Res Wv) (e : EM) : SM := fun env st => match env[i]? with
  | some (some d) => SRes.of (e env st) fun w st1 => SRes.of (f d w.d st1) fun w2 st2 => .nx (env.set i (some w2.d)) st2
  | _ => .stuck
theorem tS_aug {i : Nat} {f : D → D → Store → Res Wv} {r : R2} {e : EM} (hs : OpS G E f r) (h : tS G E (sAug i f e) De σ H) : tAug i (tI G E e) r De σ H := by
  obtain ⟨as, st, env, s, er, p⟩ := h
  unfold sAug at p
  cases q : env[i]? with
  | none => simp only [q] at p; exact p.elim
  | some o =>
    cases o with
    | none => simp only [q] at p; exact p.elim
    | some d =>
      simp only [q] at p
      obtain ⟨v, hv, rv⟩ := er.2 i d q
      refine ⟨v, hv, as, st, env, s, er, (SPost.of s.len p).mono fun w as1 st1 H1 e1 s1 p1 v1 r1 => ?_⟩
      have p1 := p1.from s.len e1
      refine hs as1 st1 H1 _ _ _ _ _ s1 (rv.ext e1 s.len) r1.d ((SPost.of s1.len p1).mono fun w2 as2 st2 H2 e2 s2 p2 v2 r2 => ?_)
      exact p2 as2 H2 _ e2 s2 (((er.ext e1 s.len).ext e2 s1.len).set r2.d i)
theorem pS_aug {i : Nat} {x : Str} {e : Expr} {m : EM} {op : Operator} {f : D → D → Store → Res Wv} {r : R2} {pos' : Pos} (hN : X.N.Nodup) (hi : X.N[i]? = some x) (hx : Loc X.env.scope x) (he : PE X e (tI G E m)) (ho : OpR X (inplaceOp op) r) (hs : OpS G E f r) (hf : X.fn x = true ∨ X.env.scope.names.lookup x = some .local := by first | exact .inl rfl | exact .inr rfl | assumption) :
    PS X (.AugAssign (.Name x pos') op e pos) (tS G E (sAug i f m)) := (ps_aug (ti := r) hN hi hx he ho hf).vi fun _ _ _ => tS_aug hs
theorem pS_for {iter tg : Expr} {body : List Stmt} {m : IM} {g : GD} {sl : List Nat} {b : SM} (hp : PassesOwn (model X.prog X.w) X.A X.env X.xe) (hc : X.calm = true) (hi : PI X tg iter (tIt G E m)) (hg : PG X tg (tG G g sl)) (hb : PSs X body (tS G E b))
    (hs : ∀ x, foldedSetIterable iter X.env x = pure x := by intro _; rfl) : PS X (.For tg iter body [] pos) (tS G E (sFor m g b)) := (ps_for hp hc hi hg hb hs).vi fun _ _ _ => tS_for
theorem pS_setLc {i : Nat} {y : Str} {py : Pos} {elt tg iter : Expr} {ifs : List Expr} {scope : Scope} {own : List (Str × Nat)} {pos spos : Pos} {m : IM} {g : GD} {sl : List Nat} {t : TM} {e : EM} (hc : X.calm = true) (hN : X.N.Nodup) (hy : X.N[i]? = some y) (hyl : X.env.scope.names.lookup y = some .local)
    (hsw : swapsWith (.ListComp elt [⟨tg, iter, ifs, 0⟩] scope pos) (some (.Name y py)) spos.line X.env = pure true) (hi : PI X tg iter (tIt G E m)) (ok : BlkOk X.N X.env.scope scope own)
    (hg : ∀ (s : Shared) (H : Hp) (C : Addr) (cl : List (Str × Addr)) (fp : List Addr), PG (X.blk s H scope (compEnvC scope cl C X.env) fp) tg (tG G g sl)) (ht : ∀ (s : Shared) (H : Hp) (C : Addr) (cl : List (Str × Addr)) (fp : List Addr), PTs (X.blk s H scope (compEnvC scope cl C X.env) fp) ifs (tT G E0 t))
    (he : ∀ (s : Shared) (H : Hp) (C : Addr) (cl : List (Str × Addr)) (fp : List Addr), PE (X.blk s H scope (compEnvC scope cl C X.env) fp) elt (tI G E0 e)) (hsl : ∀ i ∈ sl, i ∈ own.map (·.2)) (hs : ∀ x, foldedSetIterable iter X.env x = pure x := by intro _; rfl) :
    PS X (.Assign [.Name y py] (.ListComp elt [⟨tg, iter, ifs, 0⟩] scope pos) spos) (tS G E (sSet i (evLc (own.map (·.2)) m g t e))) :=
  (ps_setLc hc hN hy hyl hsw hi ok hg ht he hs).vi fun De σ H h => tI_lc hsl (tS_set h)
theorem pS_regLc {i : Nat} {y : Str} {py : Pos} {elt tg iter : Expr} {ifs : List Expr} {scope : Scope} {own : List (Str × Nat)} {pos spos : Pos} {m : IM} {g : GD} {sl : List Nat} {t : TM} {e : EM} (hc : X.calm = true) (hN : X.N.Nodup) (hy : X.N[i]? = some y) (hyl : X.env.scope.names.lookup y = some .local)
    (hsw : swapsWith (.ListComp elt [⟨tg, iter, ifs, 0⟩] scope pos) (some (.Name y py)) spos.line X.env = pure true) (hi : PI X tg iter (tIt G E m)) (ok : BlkOk X.N X.env.scope scope own)
    (hg : ∀ (s : Shared) (H : Hp) (C : Addr) (cl : List (Str × Addr)) (fp : List Addr), PG (X.blk s H scope (compEnvC scope cl C X.env) fp) tg (tG G g sl)) (ht : ∀ (s : Shared) (H : Hp) (C : Addr) (cl : List (Str × Addr)) (fp : List Addr), PTs (X.blk s H scope (compEnvC scope cl C X.env) fp) ifs (tT G E0 t))
    (he : ∀ (s : Shared) (H : Hp) (C : Addr) (cl : List (Str × Addr)) (fp : List Addr), PE (X.blk s H scope (compEnvC scope cl C X.env) fp) elt (tI G E0 e)) (hsl : ∀ i ∈ sl, i ∈ own.map (·.2)) (hs : ∀ x, foldedSetIterable iter X.env x = pure x := by intro _; rfl) :
    PS X (.Assign [.Name y py] (.ListComp elt [⟨tg, iter, ifs, 0⟩] scope pos) spos) (tS G E (sReg i (evLc (own.map (·.2)) m g t e))) :=
  (ps_setLc hc hN hy hyl hsw hi ok hg ht he hs).vi fun De σ H h => tI_lc hsl (tS_reg h)
/-! ### what a for walks -/
theorem pIt_seq {tg e : Expr} {m : EM} (hK : G.K = X.K) (h : PE X e (tI G E m)) : PI X tg e (tIt G E (itSeq m)) := by
  refine (L2.PI.viOr (pi_list (tg := tg) h) (L2.PI.viOr (pi_tup (tg := tg) h) (pi_str (tg := tg) h))).vi fun σ H R q => ?_
  obtain ⟨as, st, env, s, er, p⟩ := q
  unfold itSeq at p
  cases q : m env st with
  | stuck => rw [q] at p; exact p.elim
  | exc x st1 =>
    rw [q] at p
    refine .inl ⟨as, st, env, s, er, ?_⟩
    rw [q]; exact p
  | ok w st1 =>
    rw [q] at p
    have p : Post G E as st H (match seqOf w.d st1 with | some (ds, src) => Res.ok (IterV.mk ds src) st1 | none => .stuck) _ := p
    cases qd : w.d with
    | tup ds =>
      rw [qd] at p
      refine .inr (.inl ⟨as, st, env, s, er, ?_⟩)
      rw [q]
      intro as1 H1 e1 s1 v r
      have rd := r.d
      rw [qd] at rd
      cases rd with
      | @tup _ pa vs h1 hr => exact ⟨pa, rfl, ⟨vs, by rw [← hK]; exact h1⟩, by rw [← hK]; exact p as1 H1 e1 s1 _ (src_tup s1 h1 hr)⟩
    | str x =>
      rw [qd] at p
      refine .inr (.inr ⟨as, st, env, s, er, ?_⟩)
      rw [q]
      intro as1 H1 e1 s1 v r
      have rd := r.d
      rw [qd] at rd
      cases rd
      exact ⟨x, rfl, p as1 H1 e1 s1 _ src_str⟩
    | _ =>
      refine .inl ⟨as, st, env, s, er, ?_⟩
      rw [q]
      intro as1 H1 e1 s1 v r
      have rd := r.d
      rw [qd] at rd p
      simp only [seqOf] at p
      split at p
      · rename_i ds src hl
        obtain ⟨pa, vs, rfl, h1, hr⟩ := lstOf_sq s1 rd hl
        exact ⟨pa, rfl, ⟨vs, by rw [← hK]; exact h1⟩, by rw [← hK]; exact p as1 H1 e1 s1 _ (src_lst s1 rd hl)⟩
      · exact p.elim
theorem okR_b {i : Int} (h : okR i = true) : -(2 ^ 62) ≤ i ∧ i < 2 ^ 62 := by simpa [okR] using h
theorem pIt_r1 {tg a : Expr} {m : AM} {p pos : Pos} (hg : Gl X "range") (hm : X.mg "range" = none) (ha : PA X [a] (tAr G E m)) (hs : starEach [a] X.env = [(false, eval a X.env)] := by rfl) : PI X tg (.Call (.Name "range" p) [a] [] pos) (tIt G E (itR1 m)) :=
  (pi_range1 hg hm ha hs).vi fun σ H R ⟨as, st, env, s, er, p⟩ => ⟨as, st, env, s, er, (p.bind s.len).mono fun ds as1 st1 H1 e1 s1 p1 vs r1 => by
    split at p1
    · rename_i j
      cases r1 with
      | cons r t =>
      cases t
      cases r
      split at p1
      · rename_i ok
        obtain ⟨b1, b2⟩ := okR_b ok
        exact ⟨j, rfl, b1, b2, p1.now s1 _ src_rng⟩
      · exact p1.elim
    · exact p1.elim⟩
theorem pIt_r2 {tg a b : Expr} {m : AM} {p pos : Pos} (hg : Gl X "range") (hm : X.mg "range" = none) (ha : PA X [a, b] (tAr G E m)) (hs : starEach [a, b] X.env = [(false, eval a X.env), (false, eval b X.env)] := by rfl) (hs2 : starEach [b] X.env = [(false, eval b X.env)] := by rfl) : PI X tg (.Call (.Name "range" p) [a, b] [] pos) (tIt G E (itR2 m)) :=
  (pi_range2 hg hm ha hs hs2).vi fun σ H R ⟨as, st, env, s, er, p⟩ => ⟨as, st, env, s, er, (p.bind s.len).mono fun ds as1 st1 H1 e1 s1 p1 vs r1 => by
    split at p1
    · rename_i i j
      cases r1 with
      | cons r t =>
      cases t with
      | cons r2 t =>
      cases t
      cases r
      cases r2
      split at p1
      · rename_i ok
        rw [Bool.and_eq_true] at ok
        obtain ⟨b1, b2⟩ := okR_b ok.1
        obtain ⟨b3, b4⟩ := okR_b ok.2
        exact ⟨i, j, rfl, ⟨b1, b2, b3, b4⟩, p1.now s1 _ src_rng⟩
      · exact p1.elim
    · exact p1.elim⟩
theorem pIt_enum {e : Expr} {m : AM} {p pos tpos : Pos} {elts : List Expr} {kk : Nat} (hK : G.K = X.K) (hg : Gl X "enumerate") (hm : X.mg "enumerate" = none) (ha : PA X [e] (tAr G E m)) (hs : starEach [e] X.env = [(false, eval e X.env)] := by rfl) :
    PI X (.Tuple elts kk tpos) (.Call (.Name "enumerate" p) [e] [] pos) (tIt G E (itEnum m)) :=
  (pi_enum hg hm ha hs).vi fun σ H R ⟨as, st, env, s, er, p⟩ => ⟨as, st, env, s, er, (p.bind s.len).mono fun ds as1 st1 H1 e1 s1 p1 vs r1 => by
    split at p1
    · cases r1 with
      | cons r t =>
      cases t
      split at p1
      · rename_i xs hl
        obtain ⟨pa, ws, rfl, h1, hr⟩ := lstOf_sq s1 r hl
        exact ⟨pa, ws, rfl, by rw [← hK]; exact h1, by rw [← hK]; exact p1.now s1 _ (src_enum s1 r hl)⟩
      · exact p1.elim
    · exact p1.elim⟩
theorem pIt_zip {e e2 : Expr} {m : AM} {p pos tpos : Pos} {elts : List Expr} {kk : Nat} (hK : G.K = X.K) (hg : Gl X "zip") (hm : X.mg "zip" = none) (ha : PA X [e, e2] (tAr G E m))
    (hs : starEach [e, e2] X.env = (false, eval e X.env) :: starEach [e2] X.env := by rfl) (hpl : (backTo pos (starEach [e2] X.env)).any (·.1) = false := by rfl) :
    PI X (.Tuple elts kk tpos) (.Call (.Name "zip" p) [e, e2] [] pos) (tIt G E (itZip m)) :=
  (RZ.pi_zipA hg hm ha hs hpl).vi fun σ H R ⟨as, st, env, s, er, p⟩ => ⟨as, st, env, s, er, (p.bind s.len).mono fun ds as1 st1 H1 e1 s1 p1 vs r1 => by
    split at p1
    · cases r1 with
      | cons r t =>
      cases t with
      | cons r2 t =>
      cases t
      cases r with
      | @tup _ pa ws h1 hr =>
      cases r2 with
      | @tup _ pb zs h2 hr2 =>
      exact ⟨pa, pb, ws, zs, rfl, .inr ⟨by rw [← hK]; exact h1, by rw [← hK]; exact h2, by rw [← hK]; exact p1.now s1 _ (src_zipT s1 h1 h2 hr hr2)⟩⟩
    · cases r1 with
      | cons r t =>
      cases t with
      | cons r2 t =>
      cases t
      obtain ⟨pa, ws, rfl, h1, hr⟩ := lstOf_sq s1 r (src := none) rfl
      obtain ⟨pb, zs, rfl, h2, hr2⟩ := lstOf_sq s1 r2 (src := none) rfl
      exact ⟨pa, pb, ws, zs, rfl, .inl ⟨by rw [← hK]; exact h1, by rw [← hK]; exact h2, by rw [← hK]; exact p1.now s1 _ (src_zipL s1 r r2)⟩⟩
    · exact p1.elim⟩
theorem pIt_rev {tg e : Expr} {m : EM} {p pos : Pos} (hK : G.K = X.K) (hg : Gl X "reversed") (hm : X.mg "reversed" = none) (he : PE X e (tI G E m)) (hs : starEach [e] X.env = (false, eval e X.env) :: starEach [] X.env := by rfl) : PI X tg (.Call (.Name "reversed" p) [e] [] pos) (tIt G E (itRev m)) :=
  (RT.pi_revA hg hm he hs).vi fun σ H R ⟨as, st, env, s, er, p⟩ => ⟨as, st, env, s, er, (p.bind s.len).mono fun w as1 st1 H1 e1 s1 p1 v r1 => by
    have r := r1.d
    cases q : w.d with
    | tup ds =>
      simp only [q] at p1
      rw [q] at r
      cases r with
      | @tup _ pa ws h1 hr => exact ⟨pa, ws, rfl, .inr ⟨by rw [← hK]; exact h1, by rw [← hK]; exact p1.now s1 _ (src_revT s1 h1 hr)⟩⟩
    | lst ds =>
      simp only [q] at p1
      rw [q] at r
      obtain ⟨pa, ws, rfl, h1, hr⟩ := lstOf_sq s1 r (src := none) rfl
      exact ⟨pa, ws, rfl, .inl ⟨by rw [← hK]; exact h1, by rw [← hK]; exact p1.now s1 _ (src_revL s1 r h1 hr)⟩⟩
    | _ => simp only [q] at p1; exact p1.elim⟩
end
/-! ### defs -/
/-- a def that raises nothing -/
def spN (G : Gx) (n : Nat) (f : FnSem) : Sp := fun vs H Q _ => spI G n f vs H Q E0
section
variable {P : Program} {w : World} {K : PySem.W.Frag} {mg : Str → Option Value} {base : Heap} {G : Gx} {E : XK} {X : Cx}
theorem fn_ok {x qual : Str} {st : Stmt} {f : Addr} {fd : FuncData} {N ps : List Str} {k n : Nat} {m : SM} (F : Fun K x qual st f fd) (S : FnScope N ps (defScope st)) (hn : N.length = n)
    (hb : ∀ (cdv : Value) (A : Around) (outer : List Env) (s : Shared) (H : Hp) (Ex : XK), Room k (A.deeper (envOfC qual (defScope st) s.heap.objs.size f cdv)) →
      PSs (cxOf CX0 P w K mg base N qual (defScope st) f cdv A outer s H Ex).nox (defBody st) (tS G E0 m)) : FnOk P w K mg base CX0 (k + 1) f fd ps (spN G ps.length (runP n m)) := by
  refine F.ok S (fun vs H Q E h => h.1) (fun cdv A outer s H vs Q Ex hr h => ⟨_, hb cdv A outer s H Ex hr, ?_⟩)
  exact run_body hn h.2
variable {CX : CXT} {k : Nat} {f : Addr} {fd : FuncData} {ps : List Str} {x : Str} {p pos : Pos} {e : Expr} {es : List Expr} {m : AM} {fs : FnSem} {n : Nat}
theorem RelDs.len_of {as : List Addr} {L : Addr → Prop} {H : Hp} {ds : List D} {vs : List V} (r : RelDs G as L H ds vs) (h : ds.length = n) : vs.length = n := by rw [← r.length]; exact h
/-- a call of such a def -/
def evCall (n : Nat) (f : FnSem) (a : AM) : EM := fun env st => (a env st).bind fun ds st1 => if ds.length = n then noX (f ds st1) else .stuck
theorem pI_call (F : FnOk X.prog X.w X.K X.mg X.base CX0 k f fd ps (spN G n fs)) (hr : Room k X.A) (hg : Gl X x) (hm : X.mg x = some (.ref f)) (hk : PySem.W.keepIn X.K (.ref f) = true) (hb : Binds X.K fd ps []) (ha : PA X (e :: es) (tAr G E m))
    (hdb : (x == ("__debug__" : Str)) = false := by decide) (he : starEach (e :: es) X.env = (false, eval e X.env) :: starEach es X.env := by rfl) (hpl : (backTo pos (starEach es X.env)).any (·.1) = false := by rfl) : PE X (.Call (.Name x p) (e :: es) [] pos) (tI G E (evCall n fs m)) := by
  refine (pe_call (E := fun _ _ _ => False) F hr hg hm hk hb .nil (fun _ _ _ _ _ _ _ h => h.elim) ha hdb he hpl).vi fun σ H Q h => ?_
  obtain ⟨as, st, env, s, er, p⟩ := h
  refine ⟨as, st, env, s, er, (p.bind s.len).mono fun ds as1 st1 H1 e1 s1 p1 vs r1 => ?_⟩
  split at p1
  · rename_i hn
    refine ⟨by rw [List.append_nil]; exact r1.len_of hn, as1, st1, ds, s1, by rw [List.append_nil]; exact r1, ?_⟩
    exact Post.noX (p1.mono fun w as3 st3 H3 e3 s3 q v rv => q v (rv.from (fresh_of e1)))
  · exact p1.elim
theorem pI_call0 (F : FnOk X.prog X.w X.K X.mg X.base CX0 k f fd ps (spN G 0 fs)) (hr : Room k X.A) (hg : Gl X x) (hm : X.mg x = some (.ref f)) (hk : PySem.W.keepIn X.K (.ref f) = true) (hb : Binds X.K fd ps [])
    (hdb : (x == ("__debug__" : Str)) = false := by decide) : PE X (.Call (.Name x p) [] [] pos) (tI G E (evCall 0 fs anil)) := by
  refine (pe_call0 (E := fun _ _ _ => False) F hr hg hm hk hb .nil (fun _ _ _ _ _ _ _ h => h.elim) hdb).vi fun σ H Q h => ?_
  obtain ⟨as, st, env, s, er, p⟩ := h
  have p : Post G E as st H (noX (fs [] st)) _ := p
  exact ⟨rfl, as, st, [], s, .nil, Post.noX p⟩
end
end VI
namespace VI
open PySem PySem.Spec PyProof.Rows L2
/-- where a def of the text stands -/
def At (K : PySem.W.Frag) (mg : Str → Option Value) (x qual : Str) (st : Stmt) (ps : List Str) : Prop := ∃ a fd, Fun K x qual st a fd ∧ Binds K fd ps [] ∧ mg x = some (.ref a)
def Ok (P : Program) (w : World) (K : PySem.W.Frag) (mg : Str → Option Value) (base : Heap) (G : Gx) (k : Nat) (x : Str) (n : Nat) (fs : FnSem) : Prop :=
  ∃ a fd ps, FnOk P w K mg base CX0 k a fd ps (spN G n fs) ∧ PySem.W.keepIn K (.ref a) = true ∧ Binds K fd ps [] ∧ mg x = some (.ref a)
section
variable {P : Program} {w : World} {K : PySem.W.Frag} {mg : Str → Option Value} {base : Heap} {G : Gx} {E : XK} {X : Cx}
theorem ok_of {x qual : Str} {st : Stmt} {N ps : List Str} {k n nn : Nat} {m : SM} (D : At K mg x qual st ps) (S : FnScope N ps (defScope st)) (hn : N.length = nn) (hp : ps.length = n)
    (hb : ∀ (f : Addr) (cdv : Value) (A : Around) (outer : List Env) (s : Shared) (H : Hp) (Ex : XK), Room k (A.deeper (envOfC qual (defScope st) s.heap.objs.size f cdv)) →
      PSs (cxOf CX0 P w K mg base N qual (defScope st) f cdv A outer s H Ex).nox (defBody st) (tS G E0 m)) : Ok P w K mg base G (k + 1) x n (runP nn m) := by
  obtain ⟨a, fd, F, b, g⟩ := D
  subst hp
  exact ⟨a, fd, ps, fn_ok F S hn (hb a), F.kp, b, g⟩
theorem pI_callO {k n : Nat} {x : Str} {p pos : Pos} {e : Expr} {es : List Expr} {m : AM} {fs : FnSem} (O : Ok X.prog X.w X.K X.mg X.base G k x n fs) (hr : Room k X.A) (hg : Gl X x) (ha : PA X (e :: es) (tAr G E m))
    (hdb : (x == ("__debug__" : Str)) = false := by decide) (he : starEach (e :: es) X.env = (false, eval e X.env) :: starEach es X.env := by rfl) (hpl : (backTo pos (starEach es X.env)).any (·.1) = false := by rfl) : PE X (.Call (.Name x p) (e :: es) [] pos) (tI G E (evCall n fs m)) := by
  obtain ⟨a, fd, ps, F, kp, b, g⟩ := O
  exact pI_call F hr hg g kp b ha hdb he hpl
theorem pI_callO0 {k : Nat} {x : Str} {p pos : Pos} {fs : FnSem} (O : Ok X.prog X.w X.K X.mg X.base G k x 0 fs) (hr : Room k X.A) (hg : Gl X x)
    (hdb : (x == ("__debug__" : Str)) = false := by decide) : PE X (.Call (.Name x p) [] [] pos) (tI G E (evCall 0 fs anil)) := by
  obtain ⟨a, fd, ps, F, kp, b, g⟩ := O
  exact pI_call0 F hr hg g kp b hdb
theorem _root_.L2.PG.viOr {e : Expr} {t t' : TG} (h : PG X e t) (h' : PG X e t') : PG X e (fun v σ H Q => t v σ H Q ∨ t' v σ H Q) := ⟨fun pins s σ H v u Q I r q => q.elim (h.run pins s σ H v u Q I r) (h'.run pins s σ H v u Q I r)⟩
/-- a tuple or a list, unpacked -/
def gdUn (gs : List GD) : GD := fun d env => match d with
  | .tup ds => gdSeq gs ds env
  | .lst ds => gdSeq gs ds env
  | _ => none
theorem pG_un {es : List Expr} {k : Nat} {gs : List GD} {sl : List Nat} {n : Nat} {pos : Pos} (hK : G.K = X.K) (hc : X.calm = true) (h : PGs X es (tGs G gs sl)) (hgs : gs.length = n)
    (hn : (assignEach es X.env).length = n := by rfl) (hst : (assignEach es X.env).findIdx? (·.1) = none := by rfl) : PG X (.Tuple es k pos) (tG G (gdUn gs) sl) :=
  (L2.PG.viOr (pG_tup (k := k) (pos := pos) hK hc h hgs hn hst) (pG_lst (k := k) (pos := pos) hK hc h hgs hn hst)).vi fun v σ H Q ⟨as, st, env, d, env', s, er, r, q, kk⟩ => by
    cases d with
    | tup ds => exact .inl ⟨as, st, env, _, env', s, er, r, q, kk⟩
    | lst ds => exact .inr ⟨as, st, env, _, env', s, er, r, q, kk⟩
    | _ => cases q
def fIAdd (a b : D) (st : Store) : Res Wv := match a, b with
  | .int i, .int j => .ok (.val (.int (i + j))) st
  | .str x, .str y => if x.length + y.length ≤ 100000 then .ok (.val (.str (x ++ y))) st else .stuck
  | _, _ => .stuck
def rIAdd : R2 := fun x y H Q => (∃ i j, x = .int i ∧ y = .int j ∧ Q (.int (i + j)) H) ∨ (∃ i j, x = .str i ∧ y = .str j ∧ i.length + j.length ≤ sizeLine ∧ Q (.str (i ++ j)) H)
theorem iop_addA : OpR X (inplaceOp .Add) rIAdd := OpR.or iop_add iop_add_str
theorem opS_iadd : OpS G E fIAdd rIAdd := by
  intro as st H d1 d2 x y Q s r1 r2 p
  unfold fIAdd at p
  split at p
  · cases r1; cases r2
    exact .inl ⟨_, _, rfl, rfl, p.now s _ (.int _)⟩
  · cases r1; cases r2
    split at p
    · rename_i h
      exact .inr ⟨_, _, rfl, rfl, szl h, p.now s _ (.str _)⟩
    · exact p.elim
  · exact p.elim
/-! ### the law -/
def spLaw (K : PySem.W.Frag) : Sp := fun vs H Q _ => ∃ (a : Addr) (ns : List Int), vs = [.ref a] ∧ SqL K H a (ns.map V.int) ∧ ns.length ≤ 63 ∧ ∀ H', Q (.bl true) H'
theorem rel_ints {as : List Addr} {L : Addr → Prop} {H : Hp} : ∀ ns : List Int, RelDs G as L H (ns.map D.int) (ns.map V.int)
  | [] => .nil
  | n :: ns => .cons (.int n) (rel_ints ns)
theorem law_imp {fs : FnSem} (hG : G.K = K) (h : ∀ ns : List Int, ns.length ≤ 63 → fs [.lst (ns.map D.int)] [] = .ok (.val (.bl true)) []) : ∀ vs H Q E, spLaw K vs H Q E → spN G 1 fs vs H Q E := by
  rintro vs H Q E ⟨a, ns, rfl, hs, hl, q⟩
  refine ⟨rfl, [], [], [.lst (ns.map D.int)], ⟨rfl, List.nodup_nil, fun i d h => by simp at h, fun i a h => by simp at h⟩, .cons ?_ .nil, ?_⟩
  · subst hG
    rcases hs with hs | hs
    · exact .lst hs (fun ⟨i, d, h, _⟩ => by simp at h) (rel_ints ns)
    · exact .lstK hs (rel_ints ns)
  · rw [h ns hl]
    intro as' H' e s v r
    cases (show RelD G as' _ H' (.bl true) v from r)
    exact q H'
end
end VI
namespace VI
open PySem PySem.Spec PyProof.Rows L2
def evDic0 : EM := fun _ st => .ok (.new (.dic [])) st
theorem pI_dic0 {X : Cx} {G : Gx} {E : XK} {pos : Pos} : PE X (.Dict [] [] pos) (tI G E evDic0) := pe_dnewK.vi fun σ H Q ⟨as, st, env, s, er, p⟩ => by
  intro x hx
  exact p as _ (Ext.lay hx) (s.laid hx) _ ⟨x, rfl, hx, notLive s hx, upd_same, s.lay hx⟩
end VI
namespace VI
open PySem PySem.Spec PyProof.Rows L2
/-! ### equations, for simp -/
section
variable {α β : Type} {a : α} {st st1 : Store} {k : α → Store → Res β} {ks : α → Store → SRes} {env env1 : DEnv} {x : EX} {w : Wv} {d d1 d2 : D} {i : Nat}
def onBl {γ : Type} (d : D) (x y : Res γ) : Res γ := match d with
  | .bl true => x
  | .bl false => y
  | _ => .stuck
@[simp] theorem onBl_bl {γ : Type} {b : Bool} {x y : Res γ} : onBl (.bl b) x y = if b = true then x else y := by cases b <;> rfl
@[simp] theorem bind_ok : (Res.ok a st).bind k = k a st := rfl
@[simp] theorem bind_exc : (Res.exc x st : Res α).bind k = .exc x st := rfl
@[simp] theorem bind_stuck : (Res.stuck : Res α).bind k = .stuck := rfl
@[simp] theorem bind_ite {c : Prop} [Decidable c] {p q : Res α} : (if c then p else q).bind k = if c then p.bind k else q.bind k := by split <;> rfl
@[simp] theorem sof_ok : SRes.of (Res.ok a st) ks = ks a st := rfl
@[simp] theorem sof_exc : SRes.of (Res.exc x st : Res α) ks = .exc x st := rfl
@[simp] theorem sof_stuck : SRes.of (Res.stuck : Res α) ks = .stuck := rfl
@[simp] theorem sof_ite {c : Prop} [Decidable c] {p q : Res α} : SRes.of (if c then p else q) ks = if c then SRes.of p ks else SRes.of q ks := by split <;> rfl
@[simp] theorem sbind_nx {b : SM} : (SRes.nx env st).bind b = b env st := rfl
@[simp] theorem sbind_ret {b : SM} : (SRes.ret w st).bind b = .ret w st := rfl
@[simp] theorem sbind_brk {b : SM} : (SRes.brk env st).bind b = .brk env st := rfl
@[simp] theorem sbind_cnt {b : SM} : (SRes.cnt env st).bind b = .cnt env st := rfl
@[simp] theorem sbind_exc {b : SM} : (SRes.exc x st).bind b = .exc x st := rfl
@[simp] theorem sbind_stuck {b : SM} : (SRes.stuck).bind b = .stuck := rfl
@[simp] theorem sbind_ite {c : Prop} [Decidable c] {p q : SRes} {b : SM} : (if c then p else q).bind b = if c then p.bind b else q.bind b := by split <;> rfl
@[simp] theorem val_d : (Wv.val d).d = d := rfl
@[simp] theorem new_d : (Wv.new d).d = d := rfl
theorem evVar_some (h : env[i]? = some (some d)) : evVar i env st = .ok (.val d) st := by unfold evVar; rw [h]
@[simp] theorem evVar_s : evVar i env st = (match env[i]? with | some (some d) => .ok (.val d) st | _ => .stuck) := rfl
@[simp] theorem evC_s : evC d env st = .ok (.val d) st := rfl
variable {m ma mb mc : EM} {am : AM} {t u : TM} {f g : D → D → Store → Res Wv} {f1 : D → Store → Res Wv} {fa : List D → Store → Res Wv} {fm : D → List D → Store → Res Wv}
@[simp] theorem ev1_s : ev1 f1 m env st = (m env st).bind fun w st1 => f1 w.d st1 := rfl
@[simp] theorem ev2_s : ev2 f ma mb env st = (ma env st).bind fun w st1 => (mb env st1).bind fun w2 st2 => f w.d w2.d st2 := rfl
@[simp] theorem evA_s : evA fa am env st = (am env st).bind fun ds st1 => fa ds st1 := rfl
@[simp] theorem anil_s : anil env st = .ok [] st := rfl
@[simp] theorem acons_s : acons m am env st = (m env st).bind fun w st1 => (am env st1).bind fun ds st2 => .ok (w.d :: ds) st2 := rfl
@[simp] theorem tvB_s : tvB m env st = (m env st).bind fun w st1 => match w.d with | .bl b => .ok b st1 | _ => .stuck := rfl
@[simp] theorem tvNot_s : tvNot t env st = (t env st).bind fun b st1 => .ok (!b) st1 := rfl
@[simp] theorem tvAnd_s : tvAnd t u env st = (t env st).bind fun b st1 => if b = true then u env st1 else .ok false st1 := rfl
@[simp] theorem tvOr_s : tvOr t u env st = (t env st).bind fun b st1 => if b = true then .ok true st1 else u env st1 := rfl
@[simp] theorem tvYes_s : tvYes env st = .ok true st := rfl
@[simp] theorem evNot_s : evNot m env st = (m env st).bind fun w st1 => match w.d with | .bl b => .ok (.val (.bl (!b))) st1 | _ => .stuck := rfl
@[simp] theorem evAnd_s : evAnd ma mb env st = (ma env st).bind fun w st1 => onBl w.d (mb env st1) (.ok (.val (.bl false)) st1) := rfl
@[simp] theorem evOr_s : evOr ma mb env st = (ma env st).bind fun w st1 => onBl w.d (.ok (.val (.bl true)) st1) (mb env st1) := rfl
@[simp] theorem evIf_s : evIf t ma mb env st = (t env st).bind fun c st1 => if c = true then ma env st1 else mb env st1 := rfl
@[simp] theorem evCh_s : evCh f g ma mb mc env st = (ma env st).bind fun w1 st1 => (mb env st1).bind fun w2 st2 => (f w1.d w2.d st2).bind fun w3 st3 => onBl w3.d ((mc env st3).bind fun w4 st4 => g w2.d w4.d st4) (.ok (.val (.bl false)) st3) := rfl
@[simp] theorem evTup_s : evTup am env st = (am env st).bind fun ds st1 => if ds.length ≤ 100000 then .ok (.val (.tup ds)) st1 else .stuck := rfl
@[simp] theorem evLst_s : evLst am env st = (am env st).bind fun ds st1 => if ds.length ≤ 100000 then .ok (.new (.lst ds)) st1 else .stuck := rfl
@[simp] theorem evDic0_s : evDic0 env st = .ok (.new (.dic [])) st := rfl
@[simp] theorem sNext_s : sNext env st = .nx env st := rfl
@[simp] theorem sBreak_s : sBreak env st = .brk env st := rfl
@[simp] theorem sCont_s : sCont env st = .cnt env st := rfl
@[simp] theorem sSeq_s {p q : SM} : sSeq p q env st = (p env st).bind q := rfl
@[simp] theorem sDrop_s : sDrop m env st = SRes.of (m env st) fun _ st1 => .nx env st1 := rfl
@[simp] theorem sRet_s : sRet m env st = SRes.of (m env st) fun w st1 => .ret w st1 := rfl
@[simp] theorem sRetN_s : sRetN env st = .ret (.val .non) st := rfl
@[simp] theorem sIf_s {p q : SM} : sIf t p q env st = SRes.of (t env st) fun c st1 => if c = true then p env st1 else q env st1 := rfl
@[simp] theorem sSet_s : sSet i m env st = SRes.of (m env st) fun w st1 => .nx (env.set i (some w.d)) st1 := rfl
@[simp] theorem sReg_s : sReg i m env st = SRes.of (m env st) fun w st1 => match w with | .new d => .nx (env.set i (some (.ref st1.length))) (st1 ++ [some d]) | .val _ => .stuck := rfl
@[simp] theorem sPar_s {j : Nat} : sPar i j am env st = SRes.of (am env st) fun ds st1 => match ds with | [d, e] => .nx ((env.set i (some d)).set j (some e)) st1 | _ => .stuck := rfl
@[simp] theorem sAsg_s {gd : GD} : sAsg gd m env st = SRes.of (m env st) fun w st1 => match gd w.d env with | some env1 => .nx env1 st1 | none => .stuck := rfl
@[simp] theorem gdName_s : gdName i d env = some (env.set i (some d)) := rfl
@[simp] theorem gdUn_tup {gs : List GD} {ds : List D} : gdUn gs (.tup ds) env = gdSeq gs ds env := rfl
@[simp] theorem gdUn_lst {gs : List GD} {ds : List D} : gdUn gs (.lst ds) env = gdSeq gs ds env := rfl
@[simp] theorem gdSeq_nil : gdSeq [] [] env = some env := rfl
@[simp] theorem gdSeq_cons {g : GD} {gs : List GD} {ds : List D} : gdSeq (g :: gs) (d :: ds) env = (g d env).bind fun env1 => gdSeq gs ds env1 := rfl
@[simp] theorem sAug_s : sAug i f m env st = (match env[i]? with | some (some d) => SRes.of (m env st) fun w st1 => SRes.of (f d w.d st1) fun w2 st2 => .nx (env.set i (some w2.d)) st2 | _ => .stuck) := rfl
@[simp] theorem sSetIx_s {fs : D → D → D → Store → Option Store} : sSetIx fs ma mb mc env st = SRes.of (ma env st) fun w1 st1 => SRes.of (mb env st1) fun w2 st2 => SRes.of (mc env st2) fun w3 st3 => match fs w2.d w3.d w1.d st3 with | some st4 => .nx env st4 | none => .stuck := rfl
@[simp] theorem sFor_s {im : IM} {gd : GD} {b : SM} : sFor im gd b env st = SRes.of (im env st) fun iv st1 => forGo iv gd b iv.items env st1 := rfl
@[simp] theorem evSl_s {lo hi : BM} : evSl m lo hi env st = (m env st).bind fun w st1 => (lo env st1).bind fun l st2 => (hi env st2).bind fun h st3 => fSl w.d l h st3 := rfl
@[simp] theorem bNone_s : bNone env st = .ok none st := rfl
@[simp] theorem bSome_s : bSome m env st = (m env st).bind fun w st1 => match w.d with | .int i => .ok (some i) st1 | _ => .stuck := rfl
@[simp] theorem evMt_s {T : String} : evMt T fm m am env st = (m env st).bind fun w st1 => if tyD w.d st1 = some T ∧ (T = "str" ∨ T = "list" ∨ T = "dict") then (am env st1).bind fun ds st2 => fm w.d ds st2 else .stuck := rfl
@[simp] theorem evCall_s {n : Nat} {fs : FnSem} : evCall n fs am env st = (am env st).bind fun ds st1 => if ds.length = n then noX (fs ds st1) else .stuck := rfl
@[simp] theorem noX_ok : noX (Res.ok a st) = .ok a st := rfl
@[simp] theorem itSeq_s : itSeq m env st = (m env st).bind fun w st1 => match seqOf w.d st1 with | some (ds, src) => .ok ⟨ds, src⟩ st1 | none => .stuck := rfl
@[simp] theorem itR1_s : itR1 am env st = (am env st).bind fun ds st1 => match ds with | [.int j] => if okR j = true then .ok ⟨rangeD 0 j.toNat, none⟩ st1 else .stuck | _ => .stuck := rfl
@[simp] theorem itR2_s : itR2 am env st = (am env st).bind fun ds st1 => match ds with | [.int i, .int j] => if (okR i && okR j) = true then .ok ⟨rangeD i (j - i).toNat, none⟩ st1 else .stuck | _ => .stuck := rfl
@[simp] theorem seqOf_tup {ds : List D} : seqOf (.tup ds) st = some (ds, none) := rfl
@[simp] theorem seqOf_lst {ds : List D} : seqOf (.lst ds) st = some (ds, none) := rfl
@[simp] theorem seqOf_str {z : Str} : seqOf (.str z) st = some (z.cps.toList.map (fun c => D.str ⟨#[c]⟩), none) := rfl
@[simp] theorem lstOf_lst {ds : List D} : lstOf (.lst ds) st = some (ds, none) := rfl
@[simp] theorem srcOk_none {ds : List D} : srcOk ⟨ds, none⟩ st = true := rfl
end
/-! ### what functions do -/
section
variable {st : Store}
@[simp] theorem fAdd_int {i j : Int} : fAdd (.int i) (.int j) st = .ok (.val (.int (i + j))) st := rfl
@[simp] theorem fAdd_lst {a b : List D} : fAdd (.lst a) (.lst b) st = if catOk a b = true then .ok (.new (.lst (a ++ b))) st else .stuck := rfl
@[simp] theorem fAdd_tup {a b : List D} : fAdd (.tup a) (.tup b) st = if catOk a b = true then .ok (.val (.tup (a ++ b))) st else .stuck := rfl
@[simp] theorem fAdd_str {a b : Str} : fAdd (.str a) (.str b) st = if a.length + b.length ≤ 100000 then .ok (.val (.str (a ++ b))) st else .stuck := rfl
@[simp] theorem fSub_int {i j : Int} : fSub (.int i) (.int j) st = .ok (.val (.int (i - j))) st := rfl
@[simp] theorem fMod_int {i j : Int} : fMod (.int i) (.int j) st = if 0 < j then .ok (.val (.int (i % j))) st else .stuck := rfl
@[simp] theorem fDiv_int {i j : Int} : fDiv (.int i) (.int j) st = if 0 < j ∧ j < 1073741824 then .ok (.val (.int (i / j))) st else .stuck := rfl
@[simp] theorem fPow_int {i j : Int} : fPow (.int i) (.int j) st = if 0 ≤ j ∧ j ≤ 1000000 ∧ i.natAbs < 2 ^ 64 then .ok (.val (.int (i ^ j.toNat))) st else .stuck := rfl
@[simp] theorem fMul_int {i j : Int} : fMul (.int i) (.int j) st = if (smallF i || smallF j) = true then .ok (.val (.int (i * j))) st else .stuck := rfl
@[simp] theorem fNeg_int {i : Int} : fNeg (.int i) st = .ok (.val (.int (-i))) st := rfl
@[simp] theorem fCmp_int {f : Int → Int → Bool} {i j : Int} : fCmp f (.int i) (.int j) st = .ok (.val (.bl (f i j))) st := rfl
@[simp] theorem fIsB_bl {i j : Bool} : fIsB (.bl i) (.bl j) st = .ok (.val (.bl (decide (i = j)))) st := rfl
@[simp] theorem fAbs_int {i : Int} : fAbs [.int i] st = .ok (.val (.int (if i < 0 then -i else i))) st := rfl
@[simp] theorem fLen_str {z : Str} : fLen [.str z] st = if z.length ≤ 100000 then .ok (.val (.int z.length)) st else .stuck := rfl
@[simp] theorem fLen_tup {ds : List D} : fLen [.tup ds] st = .ok (.val (.int ds.length)) st := rfl
@[simp] theorem fLen_lst {ds : List D} : fLen [.lst ds] st = .ok (.val (.int ds.length)) st := rfl
@[simp] theorem fList_tup {ds : List D} : fList [.tup ds] st = .ok (.new (.lst ds)) st := rfl
@[simp] theorem fList_lst {ds : List D} : fList [.lst ds] st = .ok (.new (.lst ds)) st := rfl
@[simp] theorem fTuple_tup {ds : List D} : fTuple [.tup ds] st = .ok (.val (.tup ds)) st := rfl
@[simp] theorem fTuple_lst {ds : List D} : fTuple [.lst ds] st = .ok (.val (.tup ds)) st := rfl
@[simp] theorem fAll_lst {ds : List D} : fAll [.lst ds] st = (match blsOf ds with | some bs => .ok (.val (.bl (bs.all id))) st | none => .stuck) := rfl
@[simp] theorem fAny_lst {ds : List D} : fAny [.lst ds] st = (match blsOf ds with | some bs => .ok (.val (.bl (bs.any id))) st | none => .stuck) := rfl
@[simp] theorem fIx_tup {ds : List D} {i : Int} : fIx (.tup ds) (.int i) st = (match atI ds i with | some d => .ok (.val d) st | none => .stuck) := rfl
@[simp] theorem fIx_lst {ds : List D} {i : Int} : fIx (.lst ds) (.int i) st = (match atI ds i with | some d => .ok (.val d) st | none => .stuck) := rfl
@[simp] theorem fIx_str {z : Str} {i : Int} : fIx (.str z) (.int i) st = if z.length ≤ 100000 then (match atI z.cps.toList i with | some c => .ok (.val (.str ⟨#[c]⟩)) st | none => .stuck) else .stuck := rfl
@[simp] theorem fSl_str {z : Str} {lo hi : Option Int} : fSl (.str z) lo hi st = if z.length ≤ 100000 then .ok (.val (.str (cutS z lo hi))) st else .stuck := rfl
@[simp] theorem fSl_lst {ds : List D} {lo hi : Option Int} : fSl (.lst ds) lo hi st = .ok (.new (.lst (cutD ds lo hi))) st := rfl
@[simp] theorem fSl_tup {ds : List D} {lo hi : Option Int} : fSl (.tup ds) lo hi st = .ok (.val (.tup (cutD ds lo hi))) st := rfl
@[simp] theorem fIn_str {neg : Bool} {i j : Str} : fIn neg (.str i) (.str j) st = .ok (.val (.bl (if neg then !strIn i j else strIn i j))) st := rfl
@[simp] theorem fEq_bl {neg a b : Bool} : fEq neg (.bl a) (.bl b) st = .ok (.val (.bl (if neg then !(a == b) else a == b))) st := by
  simp only [fEq, unref, isPy, shallow, toPy, PyData.depth, eqD, PyData.eqv]; simp
@[simp] theorem fEq_int {neg : Bool} {a b : Int} : fEq neg (.int a) (.int b) st = .ok (.val (.bl (if neg then !(a == b) else a == b))) st := by
  simp only [fEq, unref, isPy, shallow, toPy, PyData.depth, eqD, PyData.eqv]; simp
@[simp] theorem fEq_str {neg : Bool} {a b : Str} : fEq neg (.str a) (.str b) st = .ok (.val (.bl (if neg then !(a == b) else a == b))) st := by
  simp only [fEq, unref, isPy, shallow, toPy, PyData.depth, eqD, PyData.eqv]; simp
/-- a list against the empty one -/
theorem fEq_nil {neg : Bool} {ds : List D} (h : isPys ds = true) : fEq neg (.lst ds) (.lst []) st = .ok (.val (.bl (if neg then !ds.isEmpty else ds.isEmpty))) st := by
  cases ds with
  | nil => simp [fEq, unref, isPy, isPys, shallow, toPy, toPys, PyData.depth, PyData.depthAll, eqD, PyData.eqv, PyData.eqvAll]
  | cons d ds =>
    have hm : min (PyData.depthAll (toPys (d :: ds)) + 1) (PyData.depthAll [] + 1) ≤ 60 := by simp only [PyData.depthAll]; omega
    have c : (isPy (unref (.lst (d :: ds)) st) && isPy (unref (.lst []) st) && shallow (unref (.lst (d :: ds)) st) (unref (.lst []) st)) = true := by
      simp only [unref, isPy, h, shallow, toPy, PyData.depth, Bool.and_eq_true, decide_eq_true_eq]
      refine ⟨⟨trivial, by simp [isPys]⟩, ?_⟩
      simpa only [toPys] using hm
    unfold fEq
    rw [if_pos c]
    simp only [unref, eqD, toPy, toPys, PyData.eqv, PyData.eqvAll]
    simp
@[simp] theorem blsOf_map (bs : List Bool) : blsOf (bs.map D.bl) = some bs := by
  induction bs with
  | nil => rfl
  | cons b bs ih => simp [blsOf, ih]
@[simp] theorem strsOf_map (bs : List Str) : strsOf (bs.map D.str) = some bs := by
  induction bs with
  | nil => rfl
  | cons b bs ih => simp [strsOf, ih]
@[simp] theorem blsOf_map' {α : Type} (f : α → Bool) (xs : List α) : blsOf (xs.map fun x => D.bl (f x)) = some (xs.map f) := by
  have := blsOf_map (xs.map f)
  rw [List.map_map] at this; exact this
@[simp] theorem strsOf_map' {α : Type} (f : α → Str) (xs : List α) : strsOf (xs.map fun x => D.str (f x)) = some (xs.map f) := by
  have := strsOf_map (xs.map f)
  rw [List.map_map] at this; exact this
end
/-! ### running a def -/
theorem cutOk_self (st more : Store) : cutOk st (st ++ more) = true := by
  unfold cutOk
  simp
/-- it hands back a value, the store as it was -/
theorem fin_val {st more : Store} {d : D} (h : refsLt st.length d = true) (hr : ∀ n, d ≠ .ref n) : fin st (.val d) (st ++ more) = .ok (.val d) st := by
  unfold fin
  rw [if_pos (cutOk_self st more)]
  cases d with
  | ref n => exact absurd rfl (hr n)
  | _ => simp [h]
theorem fin_new {st more : Store} {d : D} (h : refsLt st.length d = true) : fin st (.new d) (st ++ more) = .ok (.new d) st := by
  unfold fin
  rw [if_pos (cutOk_self st more)]
  simp [h]
/-- a local cell -/
theorem fin_ref {st more : Store} {n : Nat} {d : D} (hn : st.length ≤ n) (hc : (st ++ more)[n]? = some (some d)) (h : refsLt st.length d = true) : fin st (.val (.ref n)) (st ++ more) = .ok (.new d) st := by
  unfold fin
  rw [if_pos (cutOk_self st more)]
  simp [show ¬ n < st.length by omega, hc, h]
/-! ### comprehensions whose elements are pure -/
mutual
theorem refsLt_mono {k j : Nat} (h : k ≤ j) : ∀ d : D, refsLt k d = true → refsLt j d = true
  | .non, _ => by simp [refsLt]
  | .bl _, _ => by simp [refsLt]
  | .int _, _ => by simp [refsLt]
  | .str _, _ => by simp [refsLt]
  | .ty _, _ => by simp [refsLt]
  | .cl _, _ => by simp [refsLt]
  | .ref n, q => by
    simp only [refsLt, decide_eq_true_eq] at q ⊢
    omega
  | .tup ds, q => by simp only [refsLt] at q ⊢; exact refsLts_mono h ds q
  | .lst ds, q => by simp only [refsLt] at q ⊢; exact refsLts_mono h ds q
  | .dic ds, q => by simp only [refsLt] at q ⊢; exact refsLtK_mono h ds q
  | .obj c ds, q => by simp only [refsLt] at q ⊢; exact refsLtF_mono h ds q
theorem refsLts_mono {k j : Nat} (h : k ≤ j) : ∀ d : List D, refsLts k d = true → refsLts j d = true
  | [], _ => by simp [refsLts]
  | d :: ds, q => by
    simp only [refsLts, Bool.and_eq_true] at q ⊢
    exact ⟨refsLt_mono h d q.1, refsLts_mono h ds q.2⟩
theorem refsLtK_mono {k j : Nat} (h : k ≤ j) : ∀ d : List (D × D), refsLtK k d = true → refsLtK j d = true
  | [], _ => by simp [refsLtK]
  | (a, b) :: ds, q => by
    simp only [refsLtK, Bool.and_eq_true] at q ⊢
    exact ⟨⟨refsLt_mono h a q.1.1, refsLt_mono h b q.1.2⟩, refsLtK_mono h ds q.2⟩
theorem refsLtF_mono {k j : Nat} (h : k ≤ j) : ∀ d : List (Str × D), refsLtF k d = true → refsLtF j d = true
  | [], _ => by simp [refsLtF]
  | (_, b) :: ds, q => by
    simp only [refsLtF, Bool.and_eq_true] at q ⊢
    exact ⟨refsLt_mono h b q.1, refsLtF_mono h ds q.2⟩
end
theorem refsLts_all {k : Nat} {ds : List D} : refsLts k ds = true ↔ ∀ d ∈ ds, refsLt k d = true := by
  induction ds with
  | nil => simp [refsLts]
  | cons d ds ih => simp [refsLts, ih]
theorem lcGo_map {α : Type} {g : GD} {t : TM} {e : EM} {env : DEnv} {iv : IterV} (hs : iv.src = none) (inj : α → D) (c : α → Bool) (f : α → D) (e1 : α → DEnv) (st : Store) : ∀ (items : List α) (acc : List D), items.length + acc.length ≤ 100000 →
    (∀ d ∈ items, g (inj d) env = some (e1 d) ∧ ∀ more : Store, t (e1 d) (st ++ more) = .ok (c d) (st ++ more) ∧ (c d = true → ∃ w, e (e1 d) (st ++ more) = .ok w (st ++ more) ∧ w.d = f d)) →
    lcGo iv g t e st.length (items.map inj) acc env (st ++ [some (.lst acc)]) = .ok (acc ++ (items.filter c).map f) (st ++ [some (.lst (acc ++ (items.filter c).map f))])
  | [], acc, _, _ => by
    unfold lcGo
    have : srcOk iv (st ++ [some (.lst acc)]) = true := by unfold srcOk; rw [hs]
    simp [this]
  | d :: items, acc, hl, h => by
    have ok : srcOk iv (st ++ [some (.lst acc)]) = true := by unfold srcOk; rw [hs]
    obtain ⟨h1, h2⟩ := h d List.mem_cons_self
    obtain ⟨h3, h4⟩ := h2 [some (D.lst acc)]
    have hc : (st ++ [some (.lst acc)])[st.length]? = some (some (.lst acc)) := by simp
    rw [List.map_cons]
    unfold lcGo
    rw [if_pos ⟨ok, hc⟩]
    simp only [h1, h3, noX_ok, bind_ok]
    simp only [List.length_cons] at hl
    cases q : c d with
    | true =>
      obtain ⟨w, hw, hd⟩ := h4 q
      rw [if_pos rfl, hw]
      simp only [noX_ok, bind_ok]
      rw [if_pos ⟨hc, by omega⟩, hd]
      have e2 : (st ++ [some (D.lst acc)]).set st.length (some (D.lst (acc ++ [f d]))) = st ++ [some (D.lst (acc ++ [f d]))] := by
        rw [List.set_append_right _ _ (Nat.le_refl _)]; simp
      rw [e2, lcGo_map hs inj c f e1 st items (acc ++ [f d]) (by simp; omega) fun x hx => h x (List.mem_cons_of_mem _ hx)]
      simp [List.filter_cons, q]
    | false =>
      rw [if_neg Bool.false_ne_true, lcGo_map hs inj c f e1 st items acc (by omega) fun x hx => h x (List.mem_cons_of_mem _ hx)]
      simp [List.filter_cons, q]
theorem evLc_map {α : Type} {own : List Nat} {m : IM} {g : GD} {t : TM} {e : EM} {env : DEnv} {st : Store} {items : List α} (inj : α → D) (c : α → Bool) (f : α → D) (e1 : α → DEnv) (hm : m env st = .ok ⟨items.map inj, none⟩ st) (hl : items.length ≤ 100000)
    (h : ∀ d ∈ items, g (inj d) (wipeD env own) = some (e1 d) ∧ ∀ more : Store, t (e1 d) (st ++ more) = .ok (c d) (st ++ more) ∧ (c d = true → ∃ w, e (e1 d) (st ++ more) = .ok w (st ++ more) ∧ w.d = f d))
    (hr : ∀ d ∈ items, c d = true → refsLt 0 (f d) = true) :
    evLc own m g t e env st = .ok (.new (.lst ((items.filter c).map f))) st := by
  unfold evLc
  rw [hm]
  simp only [bind_ok]
  rw [lcGo_map rfl inj c f e1 st items [] (by simpa using hl) h]
  simp only [bind_ok, List.nil_append]
  have hr' : refsLts st.length ((items.filter c).map f) = true := by
    rw [refsLts_all]
    intro d hd
    obtain ⟨x, hx, rfl⟩ := List.mem_map.mp hd
    obtain ⟨h1, h2⟩ := List.mem_filter.mp hx
    exact refsLt_mono (Nat.zero_le _) _ (hr x h1 h2)
  have e2 : (st ++ [some (D.lst ((items.filter c).map f))]).take st.length = st := by simp
  rw [if_pos ⟨cutOk_self _ _, hr'⟩, e2]
/-- .. without a test -/
theorem evLc_map1 {α : Type} {own : List Nat} {m : IM} {g : GD} {e : EM} {env : DEnv} {st : Store} {items : List α} (inj : α → D) (f : α → D) (e1 : α → DEnv) (hm : m env st = .ok ⟨items.map inj, none⟩ st) (hl : items.length ≤ 100000)
    (h : ∀ d ∈ items, g (inj d) (wipeD env own) = some (e1 d) ∧ ∀ more : Store, ∃ w, e (e1 d) (st ++ more) = .ok w (st ++ more) ∧ w.d = f d)
    (hr : ∀ d ∈ items, refsLt 0 (f d) = true) :
    evLc own m g tvYes e env st = .ok (.new (.lst (items.map f))) st := by
  have q := evLc_map (own := own) (t := tvYes) (e := e) (c := fun _ => true) inj f e1 hm hl (fun d hd => ⟨(h d hd).1, fun more => ⟨rfl, fun _ => (h d hd).2 more⟩⟩) (fun d hd _ => hr d hd)
  rw [q, List.filter_eq_self.mpr (fun _ _ => rfl)]
theorem cutOk_refl (st : Store) : cutOk st st = true := by
  have := cutOk_self st []
  rwa [List.append_nil] at this
theorem fin_val0 {st : Store} {d : D} (h : refsLt st.length d = true) (hr : ∀ n, d ≠ .ref n) : fin st (.val d) st = .ok (.val d) st := by
  have := fin_val (more := []) h hr
  rwa [List.append_nil] at this
theorem fin_new0 {st : Store} {d : D} (h : refsLt st.length d = true) : fin st (.new d) st = .ok (.new d) st := by
  have := fin_new (more := []) h
  rwa [List.append_nil] at this
@[simp] theorem fin_bl {st more : Store} {b : Bool} : fin st (.val (.bl b)) (st ++ more) = .ok (.val (.bl b)) st := fin_val (by simp [refsLt]) (fun _ => nofun)
@[simp] theorem fin_bl0 {st : Store} {b : Bool} : fin st (.val (.bl b)) st = .ok (.val (.bl b)) st := fin_val0 (by simp [refsLt]) (fun _ => nofun)
@[simp] theorem fin_int {st more : Store} {b : Int} : fin st (.val (.int b)) (st ++ more) = .ok (.val (.int b)) st := fin_val (by simp [refsLt]) (fun _ => nofun)
@[simp] theorem fin_int0 {st : Store} {b : Int} : fin st (.val (.int b)) st = .ok (.val (.int b)) st := fin_val0 (by simp [refsLt]) (fun _ => nofun)
@[simp] theorem fin_str {st more : Store} {b : Str} : fin st (.val (.str b)) (st ++ more) = .ok (.val (.str b)) st := fin_val (by simp [refsLt]) (fun _ => nofun)
@[simp] theorem fin_str0 {st : Store} {b : Str} : fin st (.val (.str b)) st = .ok (.val (.str b)) st := fin_val0 (by simp [refsLt]) (fun _ => nofun)
@[simp] theorem fin_non {st more : Store} : fin st (.val .non) (st ++ more) = .ok (.val .non) st := fin_val (by simp [refsLt]) (fun _ => nofun)
@[simp] theorem fin_non0 {st : Store} : fin st (.val .non) st = .ok (.val .non) st := fin_val0 (by simp [refsLt]) (fun _ => nofun)
theorem fIsi_ty {d : D} {st : Store} {a T : String} (h : tyD d st = some a) (hT : okTy T = true) : fIsi [d, .ty T] st = .ok (.val (.bl (isiTab a T))) st := by
  simp only [fIsi, h, hT, if_true]
@[simp] theorem fIsi_non {st : Store} {T : String} : fIsi [.non, .ty T] st = if okTy T = true then .ok (.val (.bl (isiTab "NoneType" T))) st else .stuck := rfl
@[simp] theorem fIsi_bl {st : Store} {b : Bool} {T : String} : fIsi [.bl b, .ty T] st = if okTy T = true then .ok (.val (.bl (isiTab "bool" T))) st else .stuck := rfl
@[simp] theorem fIsi_int {st : Store} {b : Int} {T : String} : fIsi [.int b, .ty T] st = if okTy T = true then .ok (.val (.bl (isiTab "int" T))) st else .stuck := rfl
@[simp] theorem fIsi_str {st : Store} {b : Str} {T : String} : fIsi [.str b, .ty T] st = if okTy T = true then .ok (.val (.bl (isiTab "str" T))) st else .stuck := rfl
@[simp] theorem fIsi_tup {st : Store} {b : List D} {T : String} : fIsi [.tup b, .ty T] st = if okTy T = true then .ok (.val (.bl (isiTab "tuple" T))) st else .stuck := rfl
@[simp] theorem fIsi_lst {st : Store} {b : List D} {T : String} : fIsi [.lst b, .ty T] st = if okTy T = true then .ok (.val (.bl (isiTab "list" T))) st else .stuck := rfl
@[simp] theorem fIsi_dic {st : Store} {b : List (D × D)} {T : String} : fIsi [.dic b, .ty T] st = if okTy T = true then .ok (.val (.bl (isiTab "dict" T))) st else .stuck := rfl
@[simp] theorem okTy1 : okTy "str" = true := by decide
@[simp] theorem okTy2 : okTy "int" = true := by decide
@[simp] theorem okTy3 : okTy "bool" = true := by decide
@[simp] theorem okTy4 : okTy "tuple" = true := by decide
@[simp] theorem okTy5 : okTy "list" = true := by decide
@[simp] theorem okTy6 : okTy "dict" = true := by decide
/-! ### loops -/
/-- each turn goes on: what holds behind so many items -/
theorem forGo_inv {iv : IterV} {g : GD} {body : SM} (hs : iv.src = none) (I : Nat → DEnv → Store → Prop) : ∀ (items : List D) (k : Nat) (env : DEnv) (st : Store), I k env st →
    (∀ i d env st, items[i]? = some d → I (k + i) env st → ∃ env1 env2 st2, g d env = some env1 ∧ (body env1 st = .nx env2 st2 ∨ body env1 st = .cnt env2 st2) ∧ I (k + i + 1) env2 st2) →
    ∃ env2 st2, forGo iv g body items env st = .nx env2 st2 ∧ I (k + items.length) env2 st2
  | [], k, env, st, h0, _ => by
    refine ⟨env, st, ?_, by simpa using h0⟩
    unfold forGo
    rw [if_pos (by unfold srcOk; rw [hs])]
  | d :: items, k, env, st, h0, h => by
    obtain ⟨env1, env2, st2, h1, h2, h3⟩ := h 0 d env st rfl (by simpa using h0)
    obtain ⟨env3, st3, h4, h5⟩ := forGo_inv hs I items (k + 1) env2 st2 (by simpa using h3) fun i d' env st hi hI => by
      have e : k + 1 + i = k + (i + 1) := by omega
      rw [e] at hI ⊢
      exact h (i + 1) d' env st (by simpa using hi) hI
    refine ⟨env3, st3, ?_, by simp only [List.length_cons]; rw [show k + (items.length + 1) = k + 1 + items.length by omega]; exact h5⟩
    unfold forGo
    rw [if_pos (by unfold srcOk; rw [hs])]
    simp only [h1]
    rcases h2 with h2 | h2 <;> simp only [h2] <;> exact h4
end VI
namespace VI
open PySem PySem.Spec PyProof.Rows L2
section
variable {st : Store}
@[simp] theorem tyD_ref {n : Nat} : tyD (.ref n) st = (match st[n]? with | some (some (.lst _)) => some "list" | some (some (.dic _)) => some "dict" | _ => none) := rfl
@[simp] theorem tyD_str {z : Str} : tyD (.str z) st = some "str" := rfl
@[simp] theorem tyD_lst {z : List D} : tyD (.lst z) st = some "list" := rfl
@[simp] theorem fAppend_ref {n : Nat} {d : D} : fAppend (.ref n) [d] st = (match st[n]? with | some (some (.lst xs)) => if xs.length < 100000 then .ok (.val .non) (st.set n (some (.lst (xs ++ [d])))) else .stuck | _ => .stuck) := rfl
@[simp] theorem set_last {α : Type} (l : List α) (a b : α) : (l ++ [a]).set l.length b = l ++ [b] := by
  rw [List.set_append_right _ _ (Nat.le_refl _)]; simp
@[simp] theorem fSetL_ref {n : Nat} {k : Int} {d : D} : fSetL (.ref n) (.int k) d st = (match st[n]? with | some (some (.lst xs)) => (ixN xs.length k).map fun j => st.set n (some (.lst (xs.set j d))) | _ => none) := rfl
@[simp] theorem fJoin_lst {a : Str} {ds : List D} : fJoin (.str a) [.lst ds] st = (match strsOf ds with | some ys => if (ys.map (·.length)).sum + ys.length * a.length ≤ 100000 then .ok (.val (.str (Txt.join a ys))) st else .stuck | none => .stuck) := rfl
@[simp] theorem lstOf_ref {n : Nat} : lstOf (.ref n) st = (match st[n]? with | some (some (.lst ds)) => some (ds, some n) | _ => none) := rfl
theorem fTuple_ref {n : Nat} {ds : List D} (h : st[n]? = some (some (.lst ds))) : fTuple [.ref n] st = .ok (.val (.tup ds)) st := by simp [fTuple, lstOf, h]
theorem fLen_ref {n : Nat} {ds : List D} (h : st[n]? = some (some (.lst ds))) : fLen [.ref n] st = .ok (.val (.int ds.length)) st := by simp [fLen, lstOf, h]
theorem fIx_ref {n : Nat} {ds : List D} {i : Int} (h : st[n]? = some (some (.lst ds))) : fIx (.ref n) (.int i) st = (match atI ds i with | some d => .ok (.val d) st | none => .stuck) := by simp only [fIx, lstOf, h] <;> cases atI ds i <;> rfl
end
theorem isPys_all {ds : List D} : isPys ds = true ↔ ∀ d ∈ ds, isPy d = true := by
  induction ds with
  | nil => simp [isPys]
  | cons d ds ih => simp [isPys, ih]
/-- an index that lies within -/
theorem atI_in {α : Type} {xs : List α} {i : Int} (h0 : 0 ≤ i) (h1 : i < xs.length) : ∃ v, atI xs i = some v ∧ v ∈ xs := by
  have hj : i.toNat < xs.length := by omega
  refine ⟨xs[i.toNat], ?_, List.getElem_mem hj⟩
  have := atI_nat (List.getElem?_eq_getElem hj)
  rwa [Int.toNat_of_nonneg h0] at this
theorem ixN_in {n : Nat} {i : Int} (h0 : 0 ≤ i) (h1 : i < n) : ixN n i = some i.toNat := by
  unfold ixN
  rw [if_pos h0, if_pos h1]
theorem okR_small {i : Int} (h0 : -1000000 ≤ i) (h1 : i ≤ 1000000000) : okR i = true := by
  simp only [okR, Bool.and_eq_true, decide_eq_true_eq]; omega
theorem rangeD_map (n : Nat) : rangeD 0 n = (List.range n).map fun (i : Nat) => D.int (i : Int) := by
  unfold rangeD; simp
theorem cutD_len {α : Type} (xs : List α) (lo hi : Option Int) : (cutD xs lo hi).length ≤ xs.length := by
  unfold cutD; simp; omega
theorem cutD_mem {α : Type} {xs : List α} {lo hi : Option Int} {x : α} (h : x ∈ cutD xs lo hi) : x ∈ xs := by
  unfold cutD at h
  exact List.mem_of_mem_drop (List.mem_of_mem_take h)
theorem cutS_len (z : Str) (lo hi : Option Int) : (cutS z lo hi).length ≤ z.length := by
  unfold cutS Str.length
  simp
  omega
/-- fin of a local cell that stands alone behind the store -/
theorem fin_cell {st : Store} {d : D} (h : refsLt 0 d = true) : fin st (.val (.ref st.length)) (st ++ [some d]) = .ok (.new d) st :=
  fin_ref (Nat.le_refl _) (by simp) (refsLt_mono (Nat.zero_le _) _ h)
theorem refs_ints (ns : List Int) (k : Nat) : refsLts k (ns.map D.int) = true := by
  rw [refsLts_all]; intro d hd; obtain ⟨n, _, rfl⟩ := List.mem_map.mp hd; simp [refsLt]
theorem refs_strs (ns : List Str) (k : Nat) : refsLts k (ns.map D.str) = true := by
  rw [refsLts_all]; intro d hd; obtain ⟨n, _, rfl⟩ := List.mem_map.mp hd; simp [refsLt]
end VI
/-! printed by gen.py from the text of the law -/
namespace Lw
open PySem PySem.Spec PyProof.Rows L2 VI
def topS (i : Nat) : Stmt := PySem.Challenge.pw_paperreader_k12_names_and_rows.main.body.getD i (.Pass ⟨0, 0, 0, 0⟩)
abbrev s_is_name : Stmt := topS 4
abbrev N_is_name : List Str := ["thing", "letter"]
theorem sc_is_name : FnScope N_is_name ["thing"] (defScope s_is_name) := ⟨rfl, rfl, rfl, by decide +kernel, rfl, by decide +kernel, by decide +kernel⟩
abbrev s_is_row : Stmt := topS 5
abbrev N_is_row : List Str := ["thing", "name"]
theorem sc_is_row : FnScope N_is_row ["thing"] (defScope s_is_row) := ⟨rfl, rfl, rfl, by decide +kernel, rfl, by decide +kernel, by decide +kernel⟩
abbrev s_f_law_draws : Stmt := topS 7
abbrev N_f_law_draws : List Str := ["_law_number", "_law_sizes", "_law_found", "_law_size"]
theorem sc_f_law_draws : FnScope N_f_law_draws ["_law_number", "_law_sizes"] (defScope s_f_law_draws) := ⟨rfl, rfl, rfl, by decide +kernel, rfl, by decide +kernel, by decide +kernel⟩
abbrev s_f_law_mix : Stmt := topS 8
abbrev N_f_law_mix : List Str := ["_law_number", "_law_k", "_law_mixed"]
theorem sc_f_law_mix : FnScope N_f_law_mix ["_law_number", "_law_k"] (defScope s_f_law_mix) := ⟨rfl, rfl, rfl, by decide +kernel, rfl, by decide +kernel, by decide +kernel⟩
abbrev s_f_law_digits : Stmt := topS 9
abbrev N_f_law_digits : List Str := ["_law_cell", "_law_some", "_law_most", "_law_number", "_law_many", "_law_found", "_law_k"]
theorem sc_f_law_digits : FnScope N_f_law_digits ["_law_cell", "_law_some", "_law_most"] (defScope s_f_law_digits) := ⟨rfl, rfl, rfl, by decide +kernel, rfl, by decide +kernel, by decide +kernel⟩
abbrev s_f_law_text : Stmt := topS 10
abbrev N_f_law_text : List Str := ["_law_cell", "_law_size", "_law_way", "_law_at", "_law_sign", "_law_text_here", "_law_odd", "_law_k"]
theorem sc_f_law_text : FnScope N_f_law_text ["_law_cell"] (defScope s_f_law_text) := ⟨rfl, rfl, rfl, by decide +kernel, rfl, by decide +kernel, by decide +kernel⟩
abbrev s_f_law_thing : Stmt := topS 11
abbrev N_f_law_thing : List Str := ["_law_cell"]
theorem sc_f_law_thing : FnScope N_f_law_thing ["_law_cell"] (defScope s_f_law_thing) := ⟨rfl, rfl, rfl, by decide +kernel, rfl, by decide +kernel, by decide +kernel⟩
abbrev s_f_law_is_name : Stmt := topS 12
abbrev N_f_law_is_name : List Str := ["_law_thing_here", "_law_sign"]
theorem sc_f_law_is_name : FnScope N_f_law_is_name ["_law_thing_here"] (defScope s_f_law_is_name) := ⟨rfl, rfl, rfl, by decide +kernel, rfl, by decide +kernel, by decide +kernel⟩
abbrev s_f_law_row : Stmt := topS 13
abbrev N_f_law_row : List Str := ["_law_cell", "_law_size", "_law_at", "_law_way", "_law_row_here", "_law_k"]
theorem sc_f_law_row : FnScope N_f_law_row ["_law_cell"] (defScope s_f_law_row) := ⟨rfl, rfl, rfl, by decide +kernel, rfl, by decide +kernel, by decide +kernel⟩
abbrev s_f_law_right : Stmt := topS 14
abbrev N_f_law_right : List Str := ["_law_cell", "_law_things", "_law_thing_here", "_law_found", "_law_due", "_law_answer_of", "_law_one"]
theorem sc_f_law_right : FnScope N_f_law_right ["_law_cell"] (defScope s_f_law_right) := ⟨rfl, rfl, rfl, by decide +kernel, rfl, by decide +kernel, by decide +kernel⟩
abbrev s_law : Stmt := topS 15
abbrev N_law : List Str := ["_law_script", "_law_cell"]
theorem sc_law : FnScope N_law ["_law_script"] (defScope s_law) := ⟨rfl, rfl, rfl, by decide +kernel, rfl, by decide +kernel, by decide +kernel⟩
def lc_is_name_1 : EM := evLc [1] (itSeq (evVar 0)) (gdName 1) (tvYes) (ev2 (fIn false) (evVar 1) (evC (.str "abcdefghijklmnopqrstuvwxyz")))
def b_is_name : SM :=
  sSeq (sIf (tvOr (tvNot (tvB (evA fIsi (acons (evVar 0) (acons (evC (.ty "str")) (anil)))))) (tvNot (tvB (evCh fLe fLe (evC (.int 1)) (evA fLen (acons (evVar 0) (anil))) (evC (.int 8)))))) (sRet (evC (.bl false))) (sNext))
  (sRet (evA fAll (acons (lc_is_name_1) (anil))))
def F_is_name : FnSem := runP 2 b_is_name
def lp_f_law_draws_1 : SM :=
  sSeq (sDrop (evMt "list" fAppend (evVar 2) (acons (ev2 fMod (evVar 0) (evVar 3)) (anil))))
  (sSet 0 (ev2 fDiv (evVar 0) (evVar 3)))
def b_f_law_draws : SM :=
  sSeq (sReg 2 (evLst (anil)))
  (sSeq (sFor (itSeq (evVar 1)) (gdName 3) (lp_f_law_draws_1))
  (sRet (evVar 2)))
def F_f_law_draws : FnSem := runP 4 b_f_law_draws
def b_f_law_mix : SM :=
  sSeq (sSet 2 (ev2 fMod (ev2 fAdd (ev2 fAdd (ev2 fMul (evVar 0) (evC (.int 48271))) (ev2 fMul (evVar 1) (evC (.int 104729)))) (evC (.int 11))) (evC (.int 2147483647))))
  (sRet (ev2 fMod (ev2 fAdd (ev2 fAdd (ev2 fMul (evVar 2) (evVar 2)) (ev2 fMul (evC (.int 48271)) (evVar 2))) (evVar 1)) (evC (.int 2147483629))))
def F_f_law_mix : FnSem := runP 3 b_f_law_mix
def lp_f_law_digits_1 : SM :=
  sSeq (sDrop (evMt "list" fAppend (evVar 5) (acons (ev2 fIx (evVar 1) (ev2 fMod (evVar 3) (evA fLen (acons (evVar 1) (anil))))) (anil))))
  (sSet 3 (ev2 fDiv (evVar 3) (evA fLen (acons (evVar 1) (anil)))))
def b_f_law_digits : SM :=
  sSeq (sSet 3 (ev2 fSub (evA fAbs (acons (evVar 0) (anil))) (ev2 fPow (evC (.int 10)) (evC (.int 18)))))
  (sSeq (sPar 4 3 (acons (ev2 fMod (evVar 3) (ev2 fAdd (evVar 2) (evC (.int 1)))) (acons (ev2 fDiv (evVar 3) (ev2 fAdd (evVar 2) (evC (.int 1)))) (anil))))
  (sSeq (sReg 5 (evLst (anil)))
  (sSeq (sFor (itR1 (acons (evVar 4) (anil))) (gdName 6) (lp_f_law_digits_1))
  (sRet (evVar 5)))))
def F_f_law_digits : FnSem := runP 7 b_f_law_digits
def b_f_law_thing : SM :=
  sRet (ev2 fIx (evLst (acons (evC .non) (acons (evC (.int 5)) (acons (evC (.bl true)) (acons (evLst (acons (evC (.str "a")) (anil))) (acons (evTup (acons (evC (.str "a")) (acons (evC (.int 5)) (anil)))) (acons (evDic0) (acons (evTup (acons (evC .non) (anil))) (acons (evC (.int 0)) (acons (evTup (acons (evC (.str "a")) (acons (evTup (acons (evC (.str "a")) (anil))) (anil)))) (acons (evC (.str "a b")) (acons (evTup (acons (evTup (acons (evC (.str "a")) (anil))) (anil))) (acons (evLst (acons (evC (.str "a")) (acons (evC (.str "b")) (anil)))) (anil)))))))))))))) (ev2 fMod (evVar 0) (evC (.int 12))))
def F_f_law_thing : FnSem := runP 1 b_f_law_thing
def lc_f_law_is_name_1 : EM := evLc [1] (itSeq (evVar 0)) (gdName 1) (tvB (ev2 (fIn true) (evVar 1) (evC (.str "abcdefghijklmnopqrstuvwxyz")))) (evVar 1)
def b_f_law_is_name : SM :=
  sSeq (sIf (tvOr (tvNot (tvB (evA fIsi (acons (evVar 0) (acons (evC (.ty "str")) (anil)))))) (tvNot (tvB (evCh fLe fLe (evC (.int 1)) (evA fLen (acons (evVar 0) (anil))) (evC (.int 8)))))) (sRet (evC (.bl false))) (sNext))
  (sRet (ev2 (fEq false) (lc_f_law_is_name_1) (evLst (anil))))
def F_f_law_is_name : FnSem := runP 2 b_f_law_is_name
def lc_is_row_1 : EM := evLc [1] (itSeq (evVar 0)) (gdName 1) (tvYes) (evCall 1 F_is_name (acons (evVar 1) (anil)))
def b_is_row : SM :=
  sSeq (sIf (tvOr (tvNot (tvB (evA fIsi (acons (evVar 0) (acons (evC (.ty "tuple")) (anil)))))) (tvB (ev2 fGt (evA fLen (acons (evVar 0) (anil))) (evC (.int 24))))) (sRet (evC (.bl false))) (sNext))
  (sRet (evA fAll (acons (lc_is_row_1) (anil))))
def F_is_row : FnSem := runP 2 b_is_row
def lc_f_law_text_1 : EM := evLc [7] (itR1 (acons (evVar 1) (anil))) (gdName 7) (tvYes) (ev2 fIx (evC (.str "abcdefghijklmnopqrstuvwxyz")) (ev2 fMod (evCall 2 F_f_law_mix (acons (evVar 0) (acons (ev2 fAdd (evC (.int 20)) (evVar 7)) (anil)))) (evC (.int 26))))
def b_f_law_text : SM :=
  sSeq (sIf (tvB (ev2 fGe (evA fAbs (acons (evVar 0) (anil))) (ev2 fPow (evC (.int 10)) (evC (.int 18))))) (sRet (evMt "str" fJoin (evC (.str "")) (acons (evCall 3 F_f_law_digits (acons (evVar 0) (acons (evLst (acons (evC (.str "a")) (acons (evC (.str "z")) (acons (evC (.str "A")) (acons (evC (.str "0")) (acons (evC (.str " ")) (anil))))))) (acons (evC (.int 9)) (anil))))) (anil)))) (sNext))
  (sSeq (sAsg (gdUn [gdName 1, gdName 2, gdName 3, gdName 4]) (evCall 2 F_f_law_draws (acons (evCall 2 F_f_law_mix (acons (evVar 0) (acons (evC (.int 1)) (anil)))) (acons (evLst (acons (evC (.int 11)) (acons (evC (.int 3)) (acons (evC (.int 10)) (acons (evC (.int 40)) (anil)))))) (anil)))))
  (sSeq (sSet 5 (evMt "str" fJoin (evC (.str "")) (acons (lc_f_law_text_1) (anil))))
  (sSeq (sSet 6 (evC (.str "ABZ019_ -.,:;'/#!?()[]{}<>=+*&^|~\n@Aaz")))
  (sRet (evIf (tvAnd (tvB (ev2 (fEq false) (evVar 2) (evC (.int 1)))) (tvB (ev2 fGt (evVar 1) (evC (.int 0))))) (ev2 fAdd (ev2 fAdd (evSl (evVar 5) (bNone) (bSome (evVar 3))) (ev2 fIx (evVar 6) (ev2 fMod (evVar 4) (evC (.int 38))))) (evSl (evVar 5) (bSome (ev2 fAdd (evVar 3) (evC (.int 1)))) (bNone))) (evVar 5))))))
def F_f_law_text : FnSem := runP 8 b_f_law_text
def lc_f_law_row_1 : EM := evLc [5] (itR1 (acons (evVar 1) (anil))) (gdName 5) (tvYes) (evSl (evC (.str "abcdefgh")) (bNone) (bSome (ev2 fAdd (evC (.int 1)) (ev2 fMod (evCall 2 F_f_law_mix (acons (evVar 0) (acons (ev2 fAdd (evC (.int 60)) (evVar 5)) (anil)))) (evC (.int 8))))))
def b_f_law_row : SM :=
  sSeq (sIf (tvB (ev2 fGe (evA fAbs (acons (evVar 0) (anil))) (ev2 fPow (evC (.int 10)) (evC (.int 18))))) (sRet (evA fTuple (acons (evCall 3 F_f_law_digits (acons (evVar 0) (acons (evLst (acons (evC (.str "a")) (acons (evC (.str "b")) (acons (evC (.str "Ab")) (anil))))) (acons (evC (.int 25)) (anil))))) (anil)))) (sNext))
  (sSeq (sAsg (gdUn [gdName 1, gdName 2, gdName 3]) (evCall 2 F_f_law_draws (acons (evCall 2 F_f_law_mix (acons (evVar 0) (acons (evC (.int 2)) (anil)))) (acons (evLst (acons (evC (.int 27)) (acons (evC (.int 26)) (acons (evC (.int 3)) (anil))))) (anil)))))
  (sSeq (sReg 4 (lc_f_law_row_1))
  (sSeq (sIf (tvAnd (tvB (ev2 (fEq false) (evVar 3) (evC (.int 0)))) (tvB (ev2 fGt (evVar 1) (evC (.int 0))))) (sSetIx fSetL (ev2 fIx (evLst (acons (evC (.str "A")) (acons (evC (.str "")) (acons (evC (.str "abcdefghi")) (acons (evC .non) (acons (evC (.int 5)) (acons (evC (.str "a1")) (anil)))))))) (ev2 fMod (evCall 2 F_f_law_mix (acons (evVar 0) (acons (evC (.int 3)) (anil)))) (evC (.int 6)))) (evVar 4) (ev2 fMod (evVar 2) (evVar 1))) (sNext))
  (sRet (evA fTuple (acons (evVar 4) (anil)))))))
def F_f_law_row : FnSem := runP 6 b_f_law_row
def lc_f_law_right_1 : EM := evLc [6] (itSeq (evVar 2)) (gdName 6) (tvNot (tvB (evCall 1 F_f_law_is_name (acons (evVar 6) (anil))))) (evVar 6)
def lp_f_law_right_1 : SM :=
  sSeq (sSet 3 (evCall 1 F_is_name (acons (evVar 2) (anil))))
  (sSeq (sIf (tvOr (tvNot (tvB (evA fIsi (acons (evVar 3) (acons (evC (.ty "bool")) (anil)))))) (tvB (ev2 (fEq true) (evVar 3) (evCall 1 F_f_law_is_name (acons (evVar 2) (anil)))))) (sRet (evC (.bl false))) (sNext))
  (sSeq (sSet 4 (evAnd (evA fIsi (acons (evVar 2) (acons (evC (.ty "tuple")) (anil)))) (evAnd (ev2 fLt (evA fLen (acons (evVar 2) (anil))) (evC (.int 25))) (ev2 (fEq false) (lc_f_law_right_1) (evLst (anil))))))
  (sSeq (sSet 5 (evCall 1 F_is_row (acons (evVar 2) (anil))))
  (sIf (tvOr (tvNot (tvB (evA fIsi (acons (evVar 5) (acons (evC (.ty "bool")) (anil)))))) (tvB (ev2 (fEq true) (evVar 5) (evVar 4)))) (sRet (evC (.bl false))) (sNext)))))
def b_f_law_right : SM :=
  sSeq (sSet 1 (evLst (acons (evCall 1 F_f_law_text (acons (evVar 0) (anil))) (acons (evCall 1 F_f_law_thing (acons (evCall 2 F_f_law_mix (acons (evVar 0) (acons (evC (.int 4)) (anil)))) (anil))) (acons (evCall 1 F_f_law_row (acons (evVar 0) (anil))) (acons (evA fList (acons (evCall 1 F_f_law_row (acons (evVar 0) (anil))) (anil))) (anil)))))))
  (sSeq (sFor (itSeq (ev2 fAdd (evVar 1) (evSl (evVar 1) (bNone) (bSome (evC (.int 1)))))) (gdName 2) (lp_f_law_right_1))
  (sRet (evC (.bl true))))
def F_f_law_right : FnSem := runP 7 b_f_law_right
def lc_law_1 : EM := evLc [1] (itSeq (ev2 fAdd (evVar 0) (evLst (acons (evC (.int 0)) (acons (evC (.int 1)) (anil)))))) (gdName 1) (tvYes) (evCall 1 F_f_law_right (acons (evVar 1) (anil)))
def b_law : SM :=
  sRet (evAnd (evA fAll (acons (lc_law_1) (anil))) (ev2 fIsB (evCall 1 F_is_row (acons (evTup (anil)) (anil))) (evC (.bl true))))
def F_law : FnSem := runP 2 b_law
/-- what the top has: no other names for the built-ins, the constants -/
structure Tx (mg : Str → Option Value) : Prop where
  n_abs : mg "abs" = none
  n_all : mg "all" = none
  n_bool : mg "bool" = none
  n_isinstance : mg "isinstance" = none
  n_len : mg "len" = none
  n_list : mg "list" = none
  n_range : mg "range" = none
  n_str : mg "str" = none
  n_tuple : mg "tuple" = none
  c_LETTERS : ∃ t, mg "LETTERS" = some (.str "abcdefghijklmnopqrstuvwxyz" t)
  c_MOST_LETTERS : ∃ t, mg "MOST_LETTERS" = some (.int 8 t)
  c_MOST_WORDS : ∃ t, mg "MOST_WORDS" = some (.int 24 t)
section
variable {P : Program} {w : World} {K : PySem.W.Frag} {mg : Str → Option Value} {base : Heap}
abbrev gx (K : PySem.W.Frag) : Gx := ⟨K, fun _ => none⟩
theorem ok_is_name (T : Tx mg) (D_ : At K mg "is_name" "is_name" s_is_name ["thing"])  : Ok P w K mg base (gx K) 1 "is_name" 1 F_is_name :=
  ok_of D_ sc_is_name rfl rfl fun f cdv A outer s H Ex hr =>
   pSs_cons (pS_if ((pW_or (pT_not (pT_val (pI_callB call_isi2 callS_isi (by rfl) T.n_isinstance (by first | rfl | decide +kernel) (pI_cons (pI_var (i := 0) rfl (by first | exact Or.inl rfl | exact Or.inr (Or.inl rfl) | exact Or.inr (Or.inr rfl))) (pI_cons (pI_ty (n := "str") (by rfl) T.n_str (by first | rfl | decide +kernel)) (pI_nil)))))) (pW_or1 (pT_not (pT_chain op_le opS_cmp op_le opS_cmp (pI_int) (pI_callB call_len callS_len (by rfl) T.n_len (by first | rfl | decide +kernel) (pI_cons (pI_var (i := 0) rfl (by first | exact Or.inl rfl | exact Or.inr (Or.inl rfl) | exact Or.inr (Or.inr rfl))) (pI_nil))) (pI_gint (by rfl) T.c_MOST_LETTERS))))).pt) (pSs_one (pS_ret (pI_bl))) (pSs_nil))
    (pSs_one (pS_ret (pI_callB (cr_all rfl) callS_all (by rfl) T.n_all (by first | rfl | decide +kernel) (pI_cons (pI_lc (own := [("letter", 1)]) rfl sc_is_name.nd (pIt_seq rfl (pI_var (i := 0) rfl (by first | exact Or.inl rfl | exact Or.inr (Or.inl rfl) | exact Or.inr (Or.inr rfl)))) (blkOk_by (N := N_is_name) (sc := (defScope s_is_name)) (by decide +kernel)) (fun _ _ _ _ _ => pG_name (i := 1) sc_is_name.nd rfl (by first | exact Or.inl rfl | exact Or.inr rfl)) (fun _ _ _ _ _ => pTs_nil) (fun _ _ _ _ _ => pI_cmp (op_inA hr.units) opS_in (pI_var (i := 1) rfl (by first | exact Or.inl rfl | exact Or.inr (Or.inl rfl) | exact Or.inr (Or.inr rfl))) (pI_gstr (by rfl) T.c_LETTERS) rfl) (by decide)) (pI_nil)))))
theorem ok_f_law_draws (T : Tx mg) (D_ : At K mg "_law_draws" "_law_draws" s_f_law_draws ["_law_number", "_law_sizes"])  : Ok P w K mg base (gx K) 1 "_law_draws" 2 F_f_law_draws :=
  ok_of D_ sc_f_law_draws rfl rfl fun f cdv A outer s H Ex hr =>
   pSs_cons (pS_reg (i := 2) sc_f_law_draws.nd rfl (by first | exact Or.inl rfl | exact Or.inr rfl) (pI_lst (pI_nil)))
    (pSs_cons (pS_for PassesOwn.never rfl (pIt_seq rfl (pI_var (i := 1) rfl (by first | exact Or.inl rfl | exact Or.inr (Or.inl rfl) | exact Or.inr (Or.inr rfl)))) (pG_name (i := 3) sc_f_law_draws.nd rfl (by first | exact Or.inl rfl | exact Or.inr rfl)) (pSs_cons (pS_expr (pI_bm rfl PySem.F.plainAttrs_list PySem.F.slot_list_append PySem.F.type_list_append mt_append mtS_append (pI_var (i := 2) rfl (by first | exact Or.inl rfl | exact Or.inr (Or.inl rfl) | exact Or.inr (Or.inr rfl))) (pI_cons (pI_op op_mod opS_mod (pI_var (i := 0) rfl (by first | exact Or.inl rfl | exact Or.inr (Or.inl rfl) | exact Or.inr (Or.inr rfl))) (pI_var (i := 3) rfl (by first | exact Or.inl rfl | exact Or.inr (Or.inl rfl) | exact Or.inr (Or.inr rfl)))) (pI_nil))))
    (pSs_one (pS_set (i := 0) sc_f_law_draws.nd rfl (by first | exact Or.inl rfl | exact Or.inr rfl) (pI_op op_fdiv opS_div (pI_var (i := 0) rfl (by first | exact Or.inl rfl | exact Or.inr (Or.inl rfl) | exact Or.inr (Or.inr rfl))) (pI_var (i := 3) rfl (by first | exact Or.inl rfl | exact Or.inr (Or.inl rfl) | exact Or.inr (Or.inr rfl))))))))
    (pSs_one (pS_ret (pI_var (i := 2) rfl (by first | exact Or.inl rfl | exact Or.inr (Or.inl rfl) | exact Or.inr (Or.inr rfl))))))
theorem ok_f_law_mix (T : Tx mg) (D_ : At K mg "_law_mix" "_law_mix" s_f_law_mix ["_law_number", "_law_k"])  : Ok P w K mg base (gx K) 1 "_law_mix" 2 F_f_law_mix :=
  ok_of D_ sc_f_law_mix rfl rfl fun f cdv A outer s H Ex hr =>
   pSs_cons (pS_set (i := 2) sc_f_law_mix.nd rfl (by first | exact Or.inl rfl | exact Or.inr rfl) (pI_op op_mod opS_mod (pI_op op_addA opS_add (pI_op op_addA opS_add (pI_op op_mul opS_mul (pI_var (i := 0) rfl (by first | exact Or.inl rfl | exact Or.inr (Or.inl rfl) | exact Or.inr (Or.inr rfl))) (pI_int)) (pI_op op_mul opS_mul (pI_var (i := 1) rfl (by first | exact Or.inl rfl | exact Or.inr (Or.inl rfl) | exact Or.inr (Or.inr rfl))) (pI_int))) (pI_int)) (pI_int)))
    (pSs_one (pS_ret (pI_op op_mod opS_mod (pI_op op_addA opS_add (pI_op op_addA opS_add (pI_op op_mul opS_mul (pI_var (i := 2) rfl (by first | exact Or.inl rfl | exact Or.inr (Or.inl rfl) | exact Or.inr (Or.inr rfl))) (pI_var (i := 2) rfl (by first | exact Or.inl rfl | exact Or.inr (Or.inl rfl) | exact Or.inr (Or.inr rfl)))) (pI_op op_mul opS_mul (pI_int) (pI_var (i := 2) rfl (by first | exact Or.inl rfl | exact Or.inr (Or.inl rfl) | exact Or.inr (Or.inr rfl))))) (pI_var (i := 1) rfl (by first | exact Or.inl rfl | exact Or.inr (Or.inl rfl) | exact Or.inr (Or.inr rfl)))) (pI_int))))
theorem ok_f_law_digits (T : Tx mg) (D_ : At K mg "_law_digits" "_law_digits" s_f_law_digits ["_law_cell", "_law_some", "_law_most"])  : Ok P w K mg base (gx K) 1 "_law_digits" 3 F_f_law_digits :=
  ok_of D_ sc_f_law_digits rfl rfl fun f cdv A outer s H Ex hr =>
   pSs_cons (pS_set (i := 3) sc_f_law_digits.nd rfl (by first | exact Or.inl rfl | exact Or.inr rfl) (pI_op op_sub opS_sub (pI_callB call_abs callS_abs (by rfl) T.n_abs (by first | rfl | decide +kernel) (pI_cons (pI_var (i := 0) rfl (by first | exact Or.inl rfl | exact Or.inr (Or.inl rfl) | exact Or.inr (Or.inr rfl))) (pI_nil))) (pI_op op_pow opS_pow (pI_int) (pI_int))))
    (pSs_cons (pS_par (i := 4) (j := 3) rfl sc_f_law_digits.nd rfl rfl (by decide) rfl rfl (pI_cons (pI_op op_mod opS_mod (pI_var (i := 3) rfl (by first | exact Or.inl rfl | exact Or.inr (Or.inl rfl) | exact Or.inr (Or.inr rfl))) (pI_op op_addA opS_add (pI_var (i := 2) rfl (by first | exact Or.inl rfl | exact Or.inr (Or.inl rfl) | exact Or.inr (Or.inr rfl))) (pI_int))) (pI_cons (pI_op op_fdiv opS_div (pI_var (i := 3) rfl (by first | exact Or.inl rfl | exact Or.inr (Or.inl rfl) | exact Or.inr (Or.inr rfl))) (pI_op op_addA opS_add (pI_var (i := 2) rfl (by first | exact Or.inl rfl | exact Or.inr (Or.inl rfl) | exact Or.inr (Or.inr rfl))) (pI_int))) (pI_nil))) (by rfl))
    (pSs_cons (pS_reg (i := 5) sc_f_law_digits.nd rfl (by first | exact Or.inl rfl | exact Or.inr rfl) (pI_lst (pI_nil)))
    (pSs_cons (pS_for PassesOwn.never rfl (pIt_r1 (by rfl) T.n_range (pI_cons (pI_var (i := 4) rfl (by first | exact Or.inl rfl | exact Or.inr (Or.inl rfl) | exact Or.inr (Or.inr rfl))) (pI_nil))) (pG_name (i := 6) sc_f_law_digits.nd rfl (by first | exact Or.inl rfl | exact Or.inr rfl)) (pSs_cons (pS_expr (pI_bm rfl PySem.F.plainAttrs_list PySem.F.slot_list_append PySem.F.type_list_append mt_append mtS_append (pI_var (i := 5) rfl (by first | exact Or.inl rfl | exact Or.inr (Or.inl rfl) | exact Or.inr (Or.inr rfl))) (pI_cons (pI_ix ix_seq opS_ix (pI_var (i := 1) rfl (by first | exact Or.inl rfl | exact Or.inr (Or.inl rfl) | exact Or.inr (Or.inr rfl))) (pI_op op_mod opS_mod (pI_var (i := 3) rfl (by first | exact Or.inl rfl | exact Or.inr (Or.inl rfl) | exact Or.inr (Or.inr rfl))) (pI_callB call_len callS_len (by rfl) T.n_len (by first | rfl | decide +kernel) (pI_cons (pI_var (i := 1) rfl (by first | exact Or.inl rfl | exact Or.inr (Or.inl rfl) | exact Or.inr (Or.inr rfl))) (pI_nil)))) (fun _ _ => rfl)) (pI_nil))))
    (pSs_one (pS_set (i := 3) sc_f_law_digits.nd rfl (by first | exact Or.inl rfl | exact Or.inr rfl) (pI_op op_fdiv opS_div (pI_var (i := 3) rfl (by first | exact Or.inl rfl | exact Or.inr (Or.inl rfl) | exact Or.inr (Or.inr rfl))) (pI_callB call_len callS_len (by rfl) T.n_len (by first | rfl | decide +kernel) (pI_cons (pI_var (i := 1) rfl (by first | exact Or.inl rfl | exact Or.inr (Or.inl rfl) | exact Or.inr (Or.inr rfl))) (pI_nil))))))))
    (pSs_one (pS_ret (pI_var (i := 5) rfl (by first | exact Or.inl rfl | exact Or.inr (Or.inl rfl) | exact Or.inr (Or.inr rfl))))))))
theorem ok_f_law_thing (T : Tx mg) (D_ : At K mg "_law_thing" "_law_thing" s_f_law_thing ["_law_cell"])  : Ok P w K mg base (gx K) 1 "_law_thing" 1 F_f_law_thing :=
  ok_of D_ sc_f_law_thing rfl rfl fun f cdv A outer s H Ex hr =>
   pSs_one (pS_ret (pI_ix ix_seq opS_ix (pI_lst (pI_cons (pI_non) (pI_cons (pI_int) (pI_cons (pI_bl) (pI_cons (pI_lst (pI_cons (pI_str) (pI_nil))) (pI_cons (pI_tup (pI_cons (pI_str) (pI_cons (pI_int) (pI_nil)))) (pI_cons (pI_dic0) (pI_cons (pI_tup (pI_cons (pI_non) (pI_nil))) (pI_cons (pI_int) (pI_cons (pI_tup (pI_cons (pI_str) (pI_cons (pI_tup (pI_cons (pI_str) (pI_nil))) (pI_nil)))) (pI_cons (pI_str) (pI_cons (pI_tup (pI_cons (pI_tup (pI_cons (pI_str) (pI_nil))) (pI_nil))) (pI_cons (pI_lst (pI_cons (pI_str) (pI_cons (pI_str) (pI_nil)))) (pI_nil)))))))))))))) (pI_op op_mod opS_mod (pI_var (i := 0) rfl (by first | exact Or.inl rfl | exact Or.inr (Or.inl rfl) | exact Or.inr (Or.inr rfl))) (pI_int)) (fun _ _ => rfl)))
theorem ok_f_law_is_name (T : Tx mg) (D_ : At K mg "_law_is_name" "_law_is_name" s_f_law_is_name ["_law_thing_here"])  : Ok P w K mg base (gx K) 1 "_law_is_name" 1 F_f_law_is_name :=
  ok_of D_ sc_f_law_is_name rfl rfl fun f cdv A outer s H Ex hr =>
   pSs_cons (pS_if ((pW_or (pT_not (pT_val (pI_callB call_isi2 callS_isi (by rfl) T.n_isinstance (by first | rfl | decide +kernel) (pI_cons (pI_var (i := 0) rfl (by first | exact Or.inl rfl | exact Or.inr (Or.inl rfl) | exact Or.inr (Or.inr rfl))) (pI_cons (pI_ty (n := "str") (by rfl) T.n_str (by first | rfl | decide +kernel)) (pI_nil)))))) (pW_or1 (pT_not (pT_chain op_le opS_cmp op_le opS_cmp (pI_int) (pI_callB call_len callS_len (by rfl) T.n_len (by first | rfl | decide +kernel) (pI_cons (pI_var (i := 0) rfl (by first | exact Or.inl rfl | exact Or.inr (Or.inl rfl) | exact Or.inr (Or.inr rfl))) (pI_nil))) (pI_int))))).pt) (pSs_one (pS_ret (pI_bl))) (pSs_nil))
    (pSs_one (pS_ret (pI_cmp (op_eqP hr.units) opS_eq (pI_lc (own := [("_law_sign", 1)]) rfl sc_f_law_is_name.nd (pIt_seq rfl (pI_var (i := 0) rfl (by first | exact Or.inl rfl | exact Or.inr (Or.inl rfl) | exact Or.inr (Or.inr rfl)))) (blkOk_by (N := N_f_law_is_name) (sc := (defScope s_f_law_is_name)) (by decide +kernel)) (fun _ _ _ _ _ => pG_name (i := 1) sc_f_law_is_name.nd rfl (by first | exact Or.inl rfl | exact Or.inr rfl)) (fun _ _ _ _ _ => pTs_one (pT_cmp (op_ninA hr.units) opS_in (pI_var (i := 1) rfl (by first | exact Or.inl rfl | exact Or.inr (Or.inl rfl) | exact Or.inr (Or.inr rfl))) (pI_str) rfl)) (fun _ _ _ _ _ => pI_var (i := 1) rfl (by first | exact Or.inl rfl | exact Or.inr (Or.inl rfl) | exact Or.inr (Or.inr rfl))) (by decide)) (pI_lst (pI_nil)) (nomark _))))
theorem ok_is_row (T : Tx mg) (D_ : At K mg "is_row" "is_row" s_is_row ["thing"]) (O_is_name : Ok P w K mg base (gx K) 1 "is_name" 1 F_is_name) : Ok P w K mg base (gx K) 2 "is_row" 1 F_is_row :=
  ok_of D_ sc_is_row rfl rfl fun f cdv A outer s H Ex hr =>
   pSs_cons (pS_if ((pW_or (pT_not (pT_val (pI_callB call_isi2 callS_isi (by rfl) T.n_isinstance (by first | rfl | decide +kernel) (pI_cons (pI_var (i := 0) rfl (by first | exact Or.inl rfl | exact Or.inr (Or.inl rfl) | exact Or.inr (Or.inr rfl))) (pI_cons (pI_ty (n := "tuple") (by rfl) T.n_tuple (by first | rfl | decide +kernel)) (pI_nil)))))) (pW_or1 (pT_cmp op_gt opS_cmp (pI_callB call_len callS_len (by rfl) T.n_len (by first | rfl | decide +kernel) (pI_cons (pI_var (i := 0) rfl (by first | exact Or.inl rfl | exact Or.inr (Or.inl rfl) | exact Or.inr (Or.inr rfl))) (pI_nil))) (pI_gint (by rfl) T.c_MOST_WORDS) (nomark _)))).pt) (pSs_one (pS_ret (pI_bl))) (pSs_nil))
    (pSs_one (pS_ret (pI_callB (cr_all rfl) callS_all (by rfl) T.n_all (by first | rfl | decide +kernel) (pI_cons (pI_lc (own := [("name", 1)]) rfl sc_is_row.nd (pIt_seq rfl (pI_var (i := 0) rfl (by first | exact Or.inl rfl | exact Or.inr (Or.inl rfl) | exact Or.inr (Or.inr rfl)))) (blkOk_by (N := N_is_row) (sc := (defScope s_is_row)) (by decide +kernel)) (fun _ _ _ _ _ => pG_name (i := 1) sc_is_row.nd rfl (by first | exact Or.inl rfl | exact Or.inr rfl)) (fun _ _ _ _ _ => pTs_nil) (fun _ _ _ _ _ => pI_callO O_is_name (hr.mono (by decide)) (by rfl) (pI_cons (pI_var (i := 1) rfl (by first | exact Or.inl rfl | exact Or.inr (Or.inl rfl) | exact Or.inr (Or.inr rfl))) (pI_nil))) (by decide)) (pI_nil)))))
theorem ok_f_law_text (T : Tx mg) (D_ : At K mg "_law_text" "_law_text" s_f_law_text ["_law_cell"]) (O_f_law_digits : Ok P w K mg base (gx K) 1 "_law_digits" 3 F_f_law_digits) (O_f_law_draws : Ok P w K mg base (gx K) 1 "_law_draws" 2 F_f_law_draws) (O_f_law_mix : Ok P w K mg base (gx K) 1 "_law_mix" 2 F_f_law_mix) : Ok P w K mg base (gx K) 2 "_law_text" 1 F_f_law_text :=
  ok_of D_ sc_f_law_text rfl rfl fun f cdv A outer s H Ex hr =>
   pSs_cons (pS_if (pT_cmp op_ge opS_cmp (pI_callB call_abs callS_abs (by rfl) T.n_abs (by first | rfl | decide +kernel) (pI_cons (pI_var (i := 0) rfl (by first | exact Or.inl rfl | exact Or.inr (Or.inl rfl) | exact Or.inr (Or.inr rfl))) (pI_nil))) (pI_op op_pow opS_pow (pI_int) (pI_int)) (nomark _)) (pSs_one (pS_ret (pI_bm rfl PySem.F.plainAttrs_str PySem.F.slot_str_join PySem.F.type_str_join mt_join mtS_join (pI_str) (pI_cons (pI_callO O_f_law_digits (hr.mono (by decide)) (by rfl) (pI_cons (pI_var (i := 0) rfl (by first | exact Or.inl rfl | exact Or.inr (Or.inl rfl) | exact Or.inr (Or.inr rfl))) (pI_cons (pI_lst (pI_cons (pI_str) (pI_cons (pI_str) (pI_cons (pI_str) (pI_cons (pI_str) (pI_cons (pI_str) (pI_nil))))))) (pI_cons (pI_int) (pI_nil))))) (pI_nil))))) (pSs_nil))
    (pSs_cons (pS_asg (pI_callO O_f_law_draws (hr.mono (by decide)) (by rfl) (pI_cons (pI_callO O_f_law_mix (hr.mono (by decide)) (by rfl) (pI_cons (pI_var (i := 0) rfl (by first | exact Or.inl rfl | exact Or.inr (Or.inl rfl) | exact Or.inr (Or.inr rfl))) (pI_cons (pI_int) (pI_nil)))) (pI_cons (pI_lst (pI_cons (pI_int) (pI_cons (pI_int) (pI_cons (pI_int) (pI_cons (pI_int) (pI_nil)))))) (pI_nil)))) (pG_un rfl rfl (pGs_cons (pG_name (i := 1) sc_f_law_text.nd rfl (by first | exact Or.inl rfl | exact Or.inr rfl)) (pGs_cons (pG_name (i := 2) sc_f_law_text.nd rfl (by first | exact Or.inl rfl | exact Or.inr rfl)) (pGs_cons (pG_name (i := 3) sc_f_law_text.nd rfl (by first | exact Or.inl rfl | exact Or.inr rfl)) (pGs_cons (pG_name (i := 4) sc_f_law_text.nd rfl (by first | exact Or.inl rfl | exact Or.inr rfl)) (pGs_nil))))) rfl))
    (pSs_cons (pS_set (i := 5) sc_f_law_text.nd rfl (by first | exact Or.inl rfl | exact Or.inr rfl) (pI_bm rfl PySem.F.plainAttrs_str PySem.F.slot_str_join PySem.F.type_str_join mt_join mtS_join (pI_str) (pI_cons (pI_lc (own := [("_law_k", 7)]) rfl sc_f_law_text.nd (pIt_r1 (by rfl) T.n_range (pI_cons (pI_var (i := 1) rfl (by first | exact Or.inl rfl | exact Or.inr (Or.inl rfl) | exact Or.inr (Or.inr rfl))) (pI_nil))) (blkOk_by (N := N_f_law_text) (sc := (defScope s_f_law_text)) (by decide +kernel)) (fun _ _ _ _ _ => pG_name (i := 7) sc_f_law_text.nd rfl (by first | exact Or.inl rfl | exact Or.inr rfl)) (fun _ _ _ _ _ => pTs_nil) (fun _ _ _ _ _ => pI_ix ix_seq opS_ix (pI_str) (pI_op op_mod opS_mod (pI_callO O_f_law_mix (hr.mono (by decide)) (by rfl) (pI_cons (pI_var (i := 0) rfl (by first | exact Or.inl rfl | exact Or.inr (Or.inl rfl) | exact Or.inr (Or.inr rfl))) (pI_cons (pI_op op_addA opS_add (pI_int) (pI_var (i := 7) rfl (by first | exact Or.inl rfl | exact Or.inr (Or.inl rfl) | exact Or.inr (Or.inr rfl)))) (pI_nil)))) (pI_int)) (fun _ _ => rfl)) (by decide)) (pI_nil))))
    (pSs_cons (pS_set (i := 6) sc_f_law_text.nd rfl (by first | exact Or.inl rfl | exact Or.inr rfl) (pI_str))
    (pSs_one (pS_ret (pI_if ((pW_and (pT_cmp (op_eqP hr.units) opS_eq (pI_var (i := 2) rfl (by first | exact Or.inl rfl | exact Or.inr (Or.inl rfl) | exact Or.inr (Or.inr rfl))) (pI_int) (nomark _)) (pW_and1 (pT_cmp op_gt opS_cmp (pI_var (i := 1) rfl (by first | exact Or.inl rfl | exact Or.inr (Or.inl rfl) | exact Or.inr (Or.inr rfl))) (pI_int) (nomark _)))).pt) (pI_op op_addA opS_add (pI_op op_addA opS_add (pI_slice (pI_var (i := 5) rfl (by first | exact Or.inl rfl | exact Or.inr (Or.inl rfl) | exact Or.inr (Or.inr rfl))) (pO_none) (pO_some (pI_var (i := 3) rfl (by first | exact Or.inl rfl | exact Or.inr (Or.inl rfl) | exact Or.inr (Or.inr rfl)))) rfl) (pI_ix ix_seq opS_ix (pI_var (i := 6) rfl (by first | exact Or.inl rfl | exact Or.inr (Or.inl rfl) | exact Or.inr (Or.inr rfl))) (pI_op op_mod opS_mod (pI_var (i := 4) rfl (by first | exact Or.inl rfl | exact Or.inr (Or.inl rfl) | exact Or.inr (Or.inr rfl))) (pI_int)) (fun _ _ => rfl))) (pI_slice (pI_var (i := 5) rfl (by first | exact Or.inl rfl | exact Or.inr (Or.inl rfl) | exact Or.inr (Or.inr rfl))) (pO_some (pI_op op_addA opS_add (pI_var (i := 3) rfl (by first | exact Or.inl rfl | exact Or.inr (Or.inl rfl) | exact Or.inr (Or.inr rfl))) (pI_int))) (pO_none) rfl)) (pI_var (i := 5) rfl (by first | exact Or.inl rfl | exact Or.inr (Or.inl rfl) | exact Or.inr (Or.inr rfl)))))))))
theorem ok_f_law_row (T : Tx mg) (D_ : At K mg "_law_row" "_law_row" s_f_law_row ["_law_cell"]) (O_f_law_digits : Ok P w K mg base (gx K) 1 "_law_digits" 3 F_f_law_digits) (O_f_law_draws : Ok P w K mg base (gx K) 1 "_law_draws" 2 F_f_law_draws) (O_f_law_mix : Ok P w K mg base (gx K) 1 "_law_mix" 2 F_f_law_mix) : Ok P w K mg base (gx K) 2 "_law_row" 1 F_f_law_row :=
  ok_of D_ sc_f_law_row rfl rfl fun f cdv A outer s H Ex hr =>
   pSs_cons (pS_if (pT_cmp op_ge opS_cmp (pI_callB call_abs callS_abs (by rfl) T.n_abs (by first | rfl | decide +kernel) (pI_cons (pI_var (i := 0) rfl (by first | exact Or.inl rfl | exact Or.inr (Or.inl rfl) | exact Or.inr (Or.inr rfl))) (pI_nil))) (pI_op op_pow opS_pow (pI_int) (pI_int)) (nomark _)) (pSs_one (pS_ret (pI_callTy call_tuple_of callS_tuple (by rfl) T.n_tuple (by first | rfl | decide +kernel) (pI_cons (pI_callO O_f_law_digits (hr.mono (by decide)) (by rfl) (pI_cons (pI_var (i := 0) rfl (by first | exact Or.inl rfl | exact Or.inr (Or.inl rfl) | exact Or.inr (Or.inr rfl))) (pI_cons (pI_lst (pI_cons (pI_str) (pI_cons (pI_str) (pI_cons (pI_str) (pI_nil))))) (pI_cons (pI_int) (pI_nil))))) (pI_nil))))) (pSs_nil))
    (pSs_cons (pS_asg (pI_callO O_f_law_draws (hr.mono (by decide)) (by rfl) (pI_cons (pI_callO O_f_law_mix (hr.mono (by decide)) (by rfl) (pI_cons (pI_var (i := 0) rfl (by first | exact Or.inl rfl | exact Or.inr (Or.inl rfl) | exact Or.inr (Or.inr rfl))) (pI_cons (pI_int) (pI_nil)))) (pI_cons (pI_lst (pI_cons (pI_int) (pI_cons (pI_int) (pI_cons (pI_int) (pI_nil))))) (pI_nil)))) (pG_un rfl rfl (pGs_cons (pG_name (i := 1) sc_f_law_row.nd rfl (by first | exact Or.inl rfl | exact Or.inr rfl)) (pGs_cons (pG_name (i := 2) sc_f_law_row.nd rfl (by first | exact Or.inl rfl | exact Or.inr rfl)) (pGs_cons (pG_name (i := 3) sc_f_law_row.nd rfl (by first | exact Or.inl rfl | exact Or.inr rfl)) (pGs_nil)))) rfl))
    (pSs_cons (pS_regLc (i := 4) (own := [("_law_k", 5)]) rfl sc_f_law_row.nd rfl rfl (sw_true rfl rfl rfl (by decide +kernel)) (pIt_r1 (by rfl) T.n_range (pI_cons (pI_var (i := 1) rfl (by first | exact Or.inl rfl | exact Or.inr (Or.inl rfl) | exact Or.inr (Or.inr rfl))) (pI_nil))) (blkOk_by (N := N_f_law_row) (sc := (defScope s_f_law_row)) (by decide +kernel)) (fun _ _ _ _ _ => pG_name (i := 5) sc_f_law_row.nd rfl (by first | exact Or.inl rfl | exact Or.inr rfl)) (fun _ _ _ _ _ => pTs_nil) (fun _ _ _ _ _ => pI_slice (pI_str) (pO_none) (pO_some (pI_op op_addA opS_add (pI_int) (pI_op op_mod opS_mod (pI_callO O_f_law_mix (hr.mono (by decide)) (by rfl) (pI_cons (pI_var (i := 0) rfl (by first | exact Or.inl rfl | exact Or.inr (Or.inl rfl) | exact Or.inr (Or.inr rfl))) (pI_cons (pI_op op_addA opS_add (pI_int) (pI_var (i := 5) rfl (by first | exact Or.inl rfl | exact Or.inr (Or.inl rfl) | exact Or.inr (Or.inr rfl)))) (pI_nil)))) (pI_int)))) rfl) (by decide))
    (pSs_cons (pS_if ((pW_and (pT_cmp (op_eqP hr.units) opS_eq (pI_var (i := 3) rfl (by first | exact Or.inl rfl | exact Or.inr (Or.inl rfl) | exact Or.inr (Or.inr rfl))) (pI_int) (nomark _)) (pW_and1 (pT_cmp op_gt opS_cmp (pI_var (i := 1) rfl (by first | exact Or.inl rfl | exact Or.inr (Or.inl rfl) | exact Or.inr (Or.inr rfl))) (pI_int) (nomark _)))).pt) (pSs_one (pS_setIx set_list setS_list (pI_ix ix_seq opS_ix (pI_lst (pI_cons (pI_str) (pI_cons (pI_str) (pI_cons (pI_str) (pI_cons (pI_non) (pI_cons (pI_int) (pI_cons (pI_str) (pI_nil)))))))) (pI_op op_mod opS_mod (pI_callO O_f_law_mix (hr.mono (by decide)) (by rfl) (pI_cons (pI_var (i := 0) rfl (by first | exact Or.inl rfl | exact Or.inr (Or.inl rfl) | exact Or.inr (Or.inr rfl))) (pI_cons (pI_int) (pI_nil)))) (pI_int)) (fun _ _ => rfl)) (pI_var (i := 4) rfl (by first | exact Or.inl rfl | exact Or.inr (Or.inl rfl) | exact Or.inr (Or.inr rfl))) (pI_op op_mod opS_mod (pI_var (i := 2) rfl (by first | exact Or.inl rfl | exact Or.inr (Or.inl rfl) | exact Or.inr (Or.inr rfl))) (pI_var (i := 1) rfl (by first | exact Or.inl rfl | exact Or.inr (Or.inl rfl) | exact Or.inr (Or.inr rfl)))))) (pSs_nil))
    (pSs_one (pS_ret (pI_callTy call_tuple_of callS_tuple (by rfl) T.n_tuple (by first | rfl | decide +kernel) (pI_cons (pI_var (i := 4) rfl (by first | exact Or.inl rfl | exact Or.inr (Or.inl rfl) | exact Or.inr (Or.inr rfl))) (pI_nil))))))))
theorem ok_f_law_right (T : Tx mg) (D_ : At K mg "_law_right" "_law_right" s_f_law_right ["_law_cell"]) (O_f_law_row : Ok P w K mg base (gx K) 2 "_law_row" 1 F_f_law_row) (O_f_law_thing : Ok P w K mg base (gx K) 1 "_law_thing" 1 F_f_law_thing) (O_f_law_mix : Ok P w K mg base (gx K) 1 "_law_mix" 2 F_f_law_mix) (O_f_law_text : Ok P w K mg base (gx K) 2 "_law_text" 1 F_f_law_text) (O_is_name : Ok P w K mg base (gx K) 1 "is_name" 1 F_is_name) (O_f_law_is_name : Ok P w K mg base (gx K) 1 "_law_is_name" 1 F_f_law_is_name) (O_is_row : Ok P w K mg base (gx K) 2 "is_row" 1 F_is_row) : Ok P w K mg base (gx K) 3 "_law_right" 1 F_f_law_right :=
  ok_of D_ sc_f_law_right rfl rfl fun f cdv A outer s H Ex hr =>
   pSs_cons (pS_set (i := 1) sc_f_law_right.nd rfl (by first | exact Or.inl rfl | exact Or.inr rfl) (pI_lst (pI_cons (pI_callO O_f_law_text (hr.mono (by decide)) (by rfl) (pI_cons (pI_var (i := 0) rfl (by first | exact Or.inl rfl | exact Or.inr (Or.inl rfl) | exact Or.inr (Or.inr rfl))) (pI_nil))) (pI_cons (pI_callO O_f_law_thing (hr.mono (by decide)) (by rfl) (pI_cons (pI_callO O_f_law_mix (hr.mono (by decide)) (by rfl) (pI_cons (pI_var (i := 0) rfl (by first | exact Or.inl rfl | exact Or.inr (Or.inl rfl) | exact Or.inr (Or.inr rfl))) (pI_cons (pI_int) (pI_nil)))) (pI_nil))) (pI_cons (pI_callO O_f_law_row (hr.mono (by decide)) (by rfl) (pI_cons (pI_var (i := 0) rfl (by first | exact Or.inl rfl | exact Or.inr (Or.inl rfl) | exact Or.inr (Or.inr rfl))) (pI_nil))) (pI_cons (pI_callTy call_list_of callS_list (by rfl) T.n_list (by first | rfl | decide +kernel) (pI_cons (pI_callO O_f_law_row (hr.mono (by decide)) (by rfl) (pI_cons (pI_var (i := 0) rfl (by first | exact Or.inl rfl | exact Or.inr (Or.inl rfl) | exact Or.inr (Or.inr rfl))) (pI_nil))) (pI_nil))) (pI_nil)))))))
    (pSs_cons (pS_for PassesOwn.never rfl (pIt_seq rfl (pI_op op_addA opS_add (pI_var (i := 1) rfl (by first | exact Or.inl rfl | exact Or.inr (Or.inl rfl) | exact Or.inr (Or.inr rfl))) (pI_slice (pI_var (i := 1) rfl (by first | exact Or.inl rfl | exact Or.inr (Or.inl rfl) | exact Or.inr (Or.inr rfl))) (pO_none) (pO_some (pI_int)) rfl))) (pG_name (i := 2) sc_f_law_right.nd rfl (by first | exact Or.inl rfl | exact Or.inr rfl)) (pSs_cons (pS_set (i := 3) sc_f_law_right.nd rfl (by first | exact Or.inl rfl | exact Or.inr rfl) (pI_callO O_is_name (hr.mono (by decide)) (by rfl) (pI_cons (pI_var (i := 2) rfl (by first | exact Or.inl rfl | exact Or.inr (Or.inl rfl) | exact Or.inr (Or.inr rfl))) (pI_nil))))
    (pSs_cons (pS_if ((pW_or (pT_not (pT_val (pI_callB call_isi2 callS_isi (by rfl) T.n_isinstance (by first | rfl | decide +kernel) (pI_cons (pI_var (i := 3) rfl (by first | exact Or.inl rfl | exact Or.inr (Or.inl rfl) | exact Or.inr (Or.inr rfl))) (pI_cons (pI_ty (n := "bool") (by rfl) T.n_bool (by first | rfl | decide +kernel)) (pI_nil)))))) (pW_or1 (pT_cmp (op_neP hr.units) opS_eq (pI_var (i := 3) rfl (by first | exact Or.inl rfl | exact Or.inr (Or.inl rfl) | exact Or.inr (Or.inr rfl))) (pI_callO O_f_law_is_name (hr.mono (by decide)) (by rfl) (pI_cons (pI_var (i := 2) rfl (by first | exact Or.inl rfl | exact Or.inr (Or.inl rfl) | exact Or.inr (Or.inr rfl))) (pI_nil))) (nomark _)))).pt) (pSs_one (pS_ret (pI_bl))) (pSs_nil))
    (pSs_cons (pS_set (i := 4) sc_f_law_right.nd rfl (by first | exact Or.inl rfl | exact Or.inr rfl) (pI_and (pI_callB call_isi2 callS_isi (by rfl) T.n_isinstance (by first | rfl | decide +kernel) (pI_cons (pI_var (i := 2) rfl (by first | exact Or.inl rfl | exact Or.inr (Or.inl rfl) | exact Or.inr (Or.inr rfl))) (pI_cons (pI_ty (n := "tuple") (by rfl) T.n_tuple (by first | rfl | decide +kernel)) (pI_nil)))) (pI_and (pI_cmp op_lt opS_cmp (pI_callB call_len callS_len (by rfl) T.n_len (by first | rfl | decide +kernel) (pI_cons (pI_var (i := 2) rfl (by first | exact Or.inl rfl | exact Or.inr (Or.inl rfl) | exact Or.inr (Or.inr rfl))) (pI_nil))) (pI_int) (nomark _)) (pI_one (pI_cmp (op_eqP hr.units) opS_eq (pI_lc (own := [("_law_one", 6)]) rfl sc_f_law_right.nd (pIt_seq rfl (pI_var (i := 2) rfl (by first | exact Or.inl rfl | exact Or.inr (Or.inl rfl) | exact Or.inr (Or.inr rfl)))) (blkOk_by (N := N_f_law_right) (sc := (defScope s_f_law_right)) (by decide +kernel)) (fun _ _ _ _ _ => pG_name (i := 6) sc_f_law_right.nd rfl (by first | exact Or.inl rfl | exact Or.inr rfl)) (fun _ _ _ _ _ => pTs_one (pT_not (pT_val (pI_callO O_f_law_is_name (hr.mono (by decide)) (by rfl) (pI_cons (pI_var (i := 6) rfl (by first | exact Or.inl rfl | exact Or.inr (Or.inl rfl) | exact Or.inr (Or.inr rfl))) (pI_nil)))))) (fun _ _ _ _ _ => pI_var (i := 6) rfl (by first | exact Or.inl rfl | exact Or.inr (Or.inl rfl) | exact Or.inr (Or.inr rfl))) (by decide)) (pI_lst (pI_nil)) (nomark _))))))
    (pSs_cons (pS_set (i := 5) sc_f_law_right.nd rfl (by first | exact Or.inl rfl | exact Or.inr rfl) (pI_callO O_is_row (hr.mono (by decide)) (by rfl) (pI_cons (pI_var (i := 2) rfl (by first | exact Or.inl rfl | exact Or.inr (Or.inl rfl) | exact Or.inr (Or.inr rfl))) (pI_nil))))
    (pSs_one (pS_if ((pW_or (pT_not (pT_val (pI_callB call_isi2 callS_isi (by rfl) T.n_isinstance (by first | rfl | decide +kernel) (pI_cons (pI_var (i := 5) rfl (by first | exact Or.inl rfl | exact Or.inr (Or.inl rfl) | exact Or.inr (Or.inr rfl))) (pI_cons (pI_ty (n := "bool") (by rfl) T.n_bool (by first | rfl | decide +kernel)) (pI_nil)))))) (pW_or1 (pT_cmp (op_neP hr.units) opS_eq (pI_var (i := 5) rfl (by first | exact Or.inl rfl | exact Or.inr (Or.inl rfl) | exact Or.inr (Or.inr rfl))) (pI_var (i := 4) rfl (by first | exact Or.inl rfl | exact Or.inr (Or.inl rfl) | exact Or.inr (Or.inr rfl))) (nomark _)))).pt) (pSs_one (pS_ret (pI_bl))) (pSs_nil))))))))
    (pSs_one (pS_ret (pI_bl))))
theorem fn_law (T : Tx mg) {f : Addr} {fd : FuncData} (F : Fun K "law" "law" s_law f fd) (O_f_law_right : Ok P w K mg base (gx K) 3 "_law_right" 1 F_f_law_right) (O_is_row : Ok P w K mg base (gx K) 2 "is_row" 1 F_is_row) : FnOk P w K mg base CX0 4 f fd ["_law_script"] (spN (gx K) 1 F_law) :=
  fn_ok F sc_law rfl fun cdv A outer s H Ex hr =>
   pSs_one (pS_ret (pI_and (pI_callB (cr_all rfl) callS_all (by rfl) T.n_all (by first | rfl | decide +kernel) (pI_cons (pI_lc (own := [("_law_cell", 1)]) rfl sc_law.nd (pIt_seq rfl (pI_op op_addA opS_add (pI_var (i := 0) rfl (by first | exact Or.inl rfl | exact Or.inr (Or.inl rfl) | exact Or.inr (Or.inr rfl))) (pI_lst (pI_cons (pI_int) (pI_cons (pI_int) (pI_nil)))))) (blkOk_by (N := N_law) (sc := (defScope s_law)) (by decide +kernel)) (fun _ _ _ _ _ => pG_name (i := 1) sc_law.nd rfl (by first | exact Or.inl rfl | exact Or.inr rfl)) (fun _ _ _ _ _ => pTs_nil) (fun _ _ _ _ _ => pI_callO O_f_law_right (hr.mono (by decide)) (by rfl) (pI_cons (pI_var (i := 1) rfl (by first | exact Or.inl rfl | exact Or.inr (Or.inl rfl) | exact Or.inr (Or.inr rfl))) (pI_nil))) (by decide)) (pI_nil))) (pI_one (pI_cmp op_is_bl opS_isB (pI_callO O_is_row (hr.mono (by decide)) (by rfl) (pI_cons (pI_tup (pI_nil)) (pI_nil))) (pI_bl) (nomark _)))))
end
end Lw
namespace Lw
open PySem PySem.Spec PyProof.Rows L2 VI
mutual
def thing : D → Bool
  | .non => true
  | .bl _ => true
  | .int _ => true
  | .str z => decide (z.length ≤ 1000)
  | .tup ds => decide (ds.length ≤ 1000) && things ds
  | .lst ds => decide (ds.length ≤ 1000) && things ds
  | .dic [] => true
  | _ => false
def things : List D → Bool
  | [] => true
  | d :: ds => thing d && things ds
end
theorem things_mem {ds : List D} : things ds = true ↔ ∀ d ∈ ds, thing d = true := by
  induction ds with
  | nil => simp [things]
  | cons d ds ih => simp [things, ih]
mutual
theorem thing_refs : ∀ d : D, thing d = true → refsLt 0 d = true
  | .non, _ => by simp [refsLt]
  | .bl _, _ => by simp [refsLt]
  | .int _, _ => by simp [refsLt]
  | .str _, _ => by simp [refsLt]
  | .tup ds, h => by
    simp only [thing, Bool.and_eq_true] at h
    simp only [refsLt]; exact things_refs ds h.2
  | .lst ds, h => by
    simp only [thing, Bool.and_eq_true] at h
    simp only [refsLt]; exact things_refs ds h.2
  | .dic [], _ => by simp [refsLt, refsLtK]
  | .dic (_ :: _), h => by simp [thing] at h
  | .ref _, h => by simp [thing] at h
  | .ty _, h => by simp [thing] at h
  | .cl _, h => by simp [thing] at h
  | .obj _ _, h => by simp [thing] at h
theorem things_refs : ∀ ds : List D, things ds = true → refsLts 0 ds = true
  | [], _ => by simp [refsLts]
  | d :: ds, h => by
    simp only [things, Bool.and_eq_true] at h
    simp only [refsLts, Bool.and_eq_true]; exact ⟨thing_refs d h.1, things_refs ds h.2⟩
end
abbrev letters : Str := "abcdefghijklmnopqrstuvwxyz"
def nameB : D → Bool
  | .str z => (decide ((1 : Int) ≤ (z.length : Int)) && decide ((z.length : Int) ≤ 8)) && z.cps.toList.all fun c => strIn ⟨#[c]⟩ letters
  | _ => false
theorem is_name_eq (d : D) (st : Store) (h : thing d = true) : F_is_name [d] st = .ok (.val (.bl (nameB d))) st := by
  unfold F_is_name runP b_is_name
  cases d with
  | str z =>
    simp only [thing, decide_eq_true_eq] at h
    have hz : z.length ≤ 100000 := by omega
    have hlc : lc_is_name_1 [some (D.str z), none] st = _ := evLc_map1 (own := [1]) (m := itSeq (evVar 0)) (g := gdName 1) (e := ev2 (fIn false) (evVar 1) (evC (.str letters))) (env := [some (D.str z), none]) (st := st) (items := z.cps.toList) (fun c => D.str ⟨#[c]⟩)
      (fun c => D.bl (strIn ⟨#[c]⟩ letters)) (fun c => [some (D.str z), some (D.str ⟨#[c]⟩)]) (by simp) (by simpa [Str.length] using hz) (fun c _ => ⟨by simp [wipeD], fun more => ⟨_, by simp; rfl, rfl⟩⟩) (fun c _ => by simp [refsLt])
    by_cases h1 : (1 : Int) ≤ (z.length : Int) <;> by_cases h2 : (z.length : Int) ≤ 8 <;> simp [isiTab, hz, hlc, h1, h2, nameB]
  | _ => simp [isiTab, nameB, thing] at h ⊢
theorem law_is_name_eq (d : D) (st : Store) (h : thing d = true) : F_f_law_is_name [d] st = .ok (.val (.bl (nameB d))) st := by
  unfold F_f_law_is_name runP b_f_law_is_name
  cases d with
  | str z =>
    simp only [thing, decide_eq_true_eq] at h
    have hz : z.length ≤ 100000 := by omega
    have hlc : lc_f_law_is_name_1 [some (D.str z), none] st = _ := evLc_map (own := [1]) (m := itSeq (evVar 0)) (g := gdName 1) (t := tvB (ev2 (fIn true) (evVar 1) (evC (.str letters)))) (e := evVar 1) (env := [some (D.str z), none]) (st := st) (items := z.cps.toList) (fun c => D.str ⟨#[c]⟩)
      (fun c => !strIn ⟨#[c]⟩ letters) (fun c => D.str ⟨#[c]⟩) (fun c => [some (D.str z), some (D.str ⟨#[c]⟩)]) (by simp) (by simpa [Str.length] using hz) (fun c _ => ⟨by simp [wipeD], fun more => ⟨by simp, fun _ => ⟨_, by simp; rfl, rfl⟩⟩⟩) (fun c _ _ => by simp [refsLt])
    have hnil := fEq_nil (st := st) (neg := false) (ds := (z.cps.toList.filter fun c => !strIn ⟨#[c]⟩ letters).map fun c => D.str ⟨#[c]⟩) (by rw [isPys_all]; intro d hd; obtain ⟨n, _, rfl⟩ := List.mem_map.mp hd; simp [isPy])
    have hb : ((z.cps.toList.filter fun c => !strIn ⟨#[c]⟩ letters).map fun c => D.str ⟨#[c]⟩).isEmpty = z.cps.toList.all fun c => strIn ⟨#[c]⟩ letters := by
      rw [List.isEmpty_map]
      generalize z.cps.toList = cs
      induction cs with
      | nil => rfl
      | cons c cs ih =>
        rw [List.filter_cons, List.all_cons]
        cases strIn ⟨#[c]⟩ letters <;> simp [ih]
    by_cases h1 : (1 : Int) ≤ (z.length : Int) <;> by_cases h2 : (z.length : Int) ≤ 8 <;> simp [isiTab, hz, hlc, h1, h2, nameB, hnil, hb]
  | _ => simp [isiTab, nameB, thing] at h ⊢
def rowB : D → Bool
  | .tup ds => decide ((ds.length : Int) ≤ 24) && ds.all nameB
  | _ => false
theorem is_row_eq (d : D) (st : Store) (h : thing d = true) : F_is_row [d] st = .ok (.val (.bl (rowB d))) st := by
  unfold F_is_row runP b_is_row
  cases d with
  | tup ds =>
    simp only [thing, Bool.and_eq_true, decide_eq_true_eq] at h
    obtain ⟨h0, hm⟩ := h
    have hlc : lc_is_row_1 [some (D.tup ds), none] st = _ := evLc_map1 (own := [1]) (m := itSeq (evVar 0)) (g := gdName 1) (e := evCall 1 F_is_name (acons (evVar 1) anil)) (env := [some (D.tup ds), none]) (st := st) (items := ds) id
      (fun d => D.bl (nameB d)) (fun d => [some (D.tup ds), some d]) (by simp) (by omega) (fun d hd => ⟨by simp [wipeD], fun more => ⟨_, by simp [is_name_eq d _ (things_mem.mp hm d hd)]; rfl, rfl⟩⟩) (fun c _ => by simp [refsLt])
    by_cases h1 : (24 : Int) < (ds.length : Int)
    · have h2 : ¬ (ds.length : Int) ≤ 24 := by omega
      simp [isiTab, rowB, h1, h2]
    · have h2 : (ds.length : Int) ≤ 24 := by omega
      simp [isiTab, rowB, hlc, h1, h2]
  | _ => simp [isiTab, rowB, thing] at h ⊢
def mix (n k : Int) : Int := (((n * 48271 + k * 104729 + 11) % 2147483647) * ((n * 48271 + k * 104729 + 11) % 2147483647) + 48271 * ((n * 48271 + k * 104729 + 11) % 2147483647) + k) % 2147483629
theorem mix_eq (n k : Int) (st : Store) : F_f_law_mix [.int n, .int k] st = .ok (.val (.int (mix n k))) st := by
  unfold F_f_law_mix runP b_f_law_mix
  have hb : smallF ((n * 48271 + k * 104729 + 11) % 2147483647) = true := by
    simp only [smallF, Bool.and_eq_true, decide_eq_true_eq]; omega
  have h1 : smallF 48271 = true := by decide
  have h2 : smallF 104729 = true := by decide
  simp [hb, h1, h2, mix]
theorem mix_nn (n k : Int) : 0 ≤ mix n k := by unfold mix; omega
def drawsI (n : Int) : List Int → List Int
  | [] => []
  | s :: r => n % s :: drawsI (n / s) r
theorem draws_go (L : Option D) (st : Store) (iv : IterV) (hs : iv.src = none) : ∀ (sizes : List Int) (n : Int) (acc : List Int) (x : Option D), (∀ s ∈ sizes, 0 < s ∧ s < 1073741824) → sizes.length + acc.length < 1000 →
    ∃ n' x', forGo iv (gdName 3) lp_f_law_draws_1 (sizes.map D.int) [some (.int n), L, some (.ref st.length), x] (st ++ [some (.lst (acc.map D.int))]) =
      .nx [some (.int n'), L, some (.ref st.length), x'] (st ++ [some (.lst ((acc ++ drawsI n sizes).map D.int))])
  | [], n, acc, x, _, _ => ⟨n, x, by unfold forGo; rw [List.map_nil]; simp [srcOk, hs, drawsI]⟩
  | s :: r, n, acc, x, h, hl => by
    obtain ⟨h1, h2⟩ := h s List.mem_cons_self
    simp only [List.length_cons] at hl
    obtain ⟨n', x', e⟩ := draws_go L st iv hs r (n / s) (acc ++ [n % s]) (some (.int s)) (fun t ht => h t (List.mem_cons_of_mem _ ht)) (by simp; omega)
    refine ⟨n', x', ?_⟩
    rw [List.map_cons]
    unfold forGo
    have ok : ∀ st, srcOk iv st = true := fun st => by unfold srcOk; rw [hs]
    have hlen : acc.length < 100000 := by omega
    simp [ok, lp_f_law_draws_1, h1, h2, hlen, drawsI]
    simpa [lp_f_law_draws_1] using e
theorem draws_eq (n : Int) (sizes : List Int) (st : Store) (h : ∀ s ∈ sizes, 0 < s ∧ s < 1073741824) (hl : sizes.length < 1000) : F_f_law_draws [.int n, .lst (sizes.map D.int)] st = .ok (.new (.lst ((drawsI n sizes).map D.int))) st := by
  unfold F_f_law_draws runP b_f_law_draws
  obtain ⟨n', x', e⟩ := draws_go (some (.lst (sizes.map D.int))) st ⟨sizes.map D.int, none⟩ rfl sizes n [] none h (by simpa using hl)
  simp only [List.map_nil, List.nil_append] at e
  have hf := fin_cell (st := st) (d := .lst ((drawsI n sizes).map D.int)) (by simp only [refsLt]; exact refs_ints _ _)
  simp [e, hf]
/-- things of some, by a number's digits -/
theorem digits_go (sm : List Str) (hm : 0 < sm.length) (hm2 : sm.length < 1000) (A C Y : Option D) (st : Store) (iv : IterV) (hs : iv.src = none) : ∀ (ks : List Int) (n : Int) (acc : List Str) (x : Option D), ks.length + acc.length < 1000 → (∀ s ∈ acc, s ∈ sm) →
    ∃ (n' : Int) (x' : Option D) (out : List Str), out.length = acc.length + ks.length ∧ (∀ s ∈ out, s ∈ sm) ∧ forGo iv (gdName 6) lp_f_law_digits_1 (ks.map D.int) [A, some (.lst (sm.map D.str)), C, some (.int n), Y, some (.ref st.length), x] (st ++ [some (.lst (acc.map D.str))]) =
      .nx [A, some (.lst (sm.map D.str)), C, some (.int n'), Y, some (.ref st.length), x'] (st ++ [some (.lst (out.map D.str))])
  | [], n, acc, x, _, ha => ⟨n, x, acc, by simp, ha, by unfold forGo; rw [List.map_nil]; simp [srcOk, hs]⟩
  | k :: ks, n, acc, x, hl, ha => by
    simp only [List.length_cons] at hl
    have hp : (0 : Int) < (sm.length : Int) := by omega
    obtain ⟨v, hv, hvm⟩ := atI_in (xs := sm.map D.str) (i := n % (sm.length : Int)) (Int.emod_nonneg _ (by omega)) (by simpa using Int.emod_lt_of_pos n hp)
    obtain ⟨z, hz, rfl⟩ := List.mem_map.mp hvm
    obtain ⟨n', x', out, h1, h2, e⟩ := digits_go sm hm hm2 A C Y st iv hs ks (n / (sm.length : Int)) (acc ++ [z]) (some (.int k)) (by simp; omega) (by
      intro s hs'
      rcases List.mem_append.mp hs' with h | h
      · exact ha s h
      · simp at h; rw [h]; exact hz)
    refine ⟨n', x', out, by simp at h1 ⊢; omega, h2, ?_⟩
    rw [List.map_cons]
    unfold forGo
    have ok : ∀ st, srcOk iv st = true := fun st => by unfold srcOk; rw [hs]
    have hlen : acc.length < 100000 := by omega
    have hlt : (sm.length : Int) < 1073741824 := by omega
    simp [ok, lp_f_law_digits_1, hlen, hm, hlt, hv]
    simpa [lp_f_law_digits_1] using e
theorem digits_eq (c : Int) (sm : List Str) (most : Int) (st : Store) (hm : 0 < sm.length) (hm2 : sm.length < 1000) (h0 : 0 < most) (h1 : most < 500) :
    ∃ out : List Str, out.length ≤ 500 ∧ (∀ s ∈ out, s ∈ sm) ∧ F_f_law_digits [.int c, .lst (sm.map D.str), .int most] st = .ok (.new (.lst (out.map D.str))) st := by
  generalize hN : (if c < 0 then -c else c) - 10 ^ 18 = N
  have hb1 : 0 ≤ N % (most + 1) := Int.emod_nonneg _ (by omega)
  have hb2 : N % (most + 1) < most + 1 := Int.emod_lt_of_pos _ (by omega)
  obtain ⟨n', x', out, e1, e2, e⟩ := digits_go sm hm hm2 (some (.int c)) (some (.int most)) (some (.int (N % (most + 1)))) st ⟨rangeD 0 (N % (most + 1)).toNat, none⟩ rfl ((List.range (N % (most + 1)).toNat).map fun (i : Nat) => (i : Int)) (N / (most + 1)) [] none (by simp; omega) (by simp)
  refine ⟨out, by simp at e1; omega, e2, ?_⟩
  unfold F_f_law_digits runP b_f_law_digits
  have hr : rangeD 0 (N % (most + 1)).toNat = ((List.range (N % (most + 1)).toNat).map fun (i : Nat) => (i : Int)).map D.int := by rw [rangeD_map, List.map_map]; rfl
  have hf := fin_cell (st := st) (d := .lst (out.map D.str)) (by simp only [refsLt]; exact refs_strs _ _)
  have ok := okR_small (i := N % (most + 1)) (by omega) (by omega)
  have g1 : 0 < most + 1 := by omega
  have g2 : most + 1 < 1073741824 := by omega
  simp only [List.map_nil] at e
  have hN' : (if c < 0 then -c else c) - 1000000000000000000 = N := hN
  simp [hN', g1, g2, ok]
  rw [hr] at e ⊢
  rw [e]
  simp [hf]

theorem strs_things (out : List Str) (hl : out.length ≤ 1000) (h : ∀ s ∈ out, s.length ≤ 1000) : thing (.tup (out.map D.str)) = true ∧ thing (.lst (out.map D.str)) = true := by
  have q : things (out.map D.str) = true := by
    rw [things_mem]; intro d hd; obtain ⟨s, hs, rfl⟩ := List.mem_map.mp hd; simp [thing, h s hs]
  simp [thing, q, hl]
theorem fin_thing {st : Store} {d : D} (h : thing d = true) : fin st (.val d) st = .ok (.val d) st ∧ fin st (.new d) st = .ok (.new d) st :=
  ⟨fin_val0 (refsLt_mono (Nat.zero_le _) _ (thing_refs d h)) fun n e => by rw [e] at h; simp [thing] at h, fin_new0 (refsLt_mono (Nat.zero_le _) _ (thing_refs d h))⟩
theorem law_thing_eq (n : Int) (st : Store) : ∃ v, F_f_law_thing [.int n] st = .ok (.val v) st ∧ thing v = true ∧ ∀ ds, v = .tup ds → isPys ds = true := by
  unfold F_f_law_thing runP b_f_law_thing
  have h0 : 0 ≤ n % 12 := by omega
  have h1 : n % 12 < 12 := by omega
  obtain ⟨v, hv, hm⟩ := atI_in (xs := [D.non, .int 5, .bl true, .lst [.str "a"], .tup [.str "a", .int 5], .dic [], .tup [.non], .int 0, .tup [.str "a", .tup [.str "a"]], .str "a b", .tup [.tup [.str "a"]], .lst [.str "a", .str "b"]]) h0 (by simpa using h1)
  have ht : thing v = true := by
    have q : things [D.non, .int 5, .bl true, .lst [.str "a"], .tup [.str "a", .int 5], .dic [], .tup [.non], .int 0, .tup [.str "a", .tup [.str "a"]], .str "a b", .tup [.tup [.str "a"]], .lst [.str "a", .str "b"]] = true := by decide
    exact things_mem.mp q v hm
  have hp : ∀ ds, v = .tup ds → isPys ds = true := by
    have q : ([D.non, .int 5, .bl true, .lst [.str "a"], .tup [.str "a", .int 5], .dic [], .tup [.non], .int 0, .tup [.str "a", .tup [.str "a"]], .str "a b", .tup [.tup [.str "a"]], .lst [.str "a", .str "b"]].all fun d => match d with | .tup ds => isPys ds | _ => true) = true := by decide
    intro ds e
    have := List.all_eq_true.mp q v hm
    rw [e] at this; exact this
  exact ⟨v, by simp [hv, (fin_thing ht).1], ht, hp⟩
theorem one_sign (c : Nat) : (⟨#[c]⟩ : Str).length = 1 := rfl
theorem join_len {out : List Str} (h : ∀ s ∈ out, s.length = 1) : (Txt.join (Str.ofString "") out).length = out.length := PySem.W.KT.join_ones out h
theorem sum_ones {out : List Str} (h : ∀ s ∈ out, s.length = 1) : (out.map (·.length)).sum = out.length := by
  induction out with
  | nil => rfl
  | cons a r ih =>
    rw [List.map_cons, List.sum_cons, ih fun s hs => h s (List.mem_cons_of_mem _ hs), h a List.mem_cons_self, List.length_cons]
    omega
theorem law_text_eq (c : Int) (st : Store) : ∃ z : Str, F_f_law_text [.int c] st = .ok (.val (.str z)) st ∧ z.length ≤ 1000 := by
  unfold F_f_law_text runP b_f_law_text
  have hempty : (Str.ofString "").length = 0 := rfl
  by_cases hc : (10 : Int) ^ 18 ≤ (if c < 0 then -c else c)
  · obtain ⟨out, h1, h2, h3⟩ := digits_eq c ["a", "z", "A", "0", " "] 9 st (by decide) (by decide) (by decide) (by decide)
    have ones : ∀ s ∈ out, s.length = 1 := fun s hs => by
      have := h2 s hs
      simp only [List.mem_cons, List.not_mem_nil, or_false] at this
      rcases this with rfl | rfl | rfl | rfl | rfl <;> rfl
    refine ⟨Txt.join (Str.ofString "") out, ?_, by rw [join_len ones]; omega⟩
    have hc' : (1000000000000000000 : Int) ≤ (if c < 0 then -c else c) := hc
    simp only [List.map_cons, List.map_nil] at h3
    have hz : (out.map (·.length)).sum + out.length * (Str.ofString "").length ≤ 100000 := by rw [sum_ones ones, hempty]; omega
    simp [hc', h3, hz]
  · have hc' : ¬ (1000000000000000000 : Int) ≤ (if c < 0 then -c else c) := hc
    have hd := draws_eq (mix c 1) [11, 3, 10, 40] st (by intro s hs; simp at hs; omega) (by decide)
    have hm := mix_nn c 1
    have b1 : 0 ≤ mix c 1 % 11 ∧ mix c 1 % 11 < 11 := by omega
    have b3 : 0 ≤ mix c 1 / 11 / 3 % 10 ∧ mix c 1 / 11 / 3 % 10 < 10 := by omega
    simp only [drawsI, List.map_cons, List.map_nil] at hd
    generalize mix c 1 % 11 = a1 at hd b1
    generalize mix c 1 / 11 % 3 = a2 at hd
    generalize mix c 1 / 11 / 3 % 10 = a3 at hd b3
    generalize mix c 1 / 11 / 3 / 10 % 40 = a4 at hd
    -- the letters
    have hat : ∀ k : Nat, ∃ x : Nat, atI (Str.ofString "abcdefghijklmnopqrstuvwxyz").cps.toList (mix c (20 + (k : Int)) % 26) = some x := fun k => by
      have hl : (Str.ofString "abcdefghijklmnopqrstuvwxyz").cps.toList.length = 26 := by decide
      obtain ⟨v, hv, _⟩ := atI_in (xs := (Str.ofString "abcdefghijklmnopqrstuvwxyz").cps.toList) (i := mix c (20 + (k : Int)) % 26) (by omega) (by rw [hl]; omega)
      exact ⟨v, hv⟩
    obtain ⟨ch, hch⟩ : ∃ ch : Nat → Nat, ∀ k : Nat, atI (Str.ofString "abcdefghijklmnopqrstuvwxyz").cps.toList (mix c (20 + (k : Int)) % 26) = some (ch k) :=
      ⟨fun k => (hat k).choose, fun k => (hat k).choose_spec⟩
    have hll : (Str.ofString "abcdefghijklmnopqrstuvwxyz").length ≤ 100000 := by decide
    have sz := okR_small (i := a1) (by omega) (by omega)
    have hlc : lc_f_law_text_1 [some (.int c), some (.int a1), some (.int a2), some (.int a3), some (.int a4), none, none, none] st = .ok (.new (.lst ((List.range a1.toNat).map fun k => D.str ⟨#[ch k]⟩))) st := by
      refine evLc_map1 (own := [7]) (items := List.range a1.toNat) (fun (k : Nat) => D.int (k : Int)) (fun k => D.str ⟨#[ch k]⟩) (fun k => [some (.int c), some (.int a1), some (.int a2), some (.int a3), some (.int a4), none, none, some (.int (k : Int))]) ?_ ?_ ?_ ?_
      · simp [sz, rangeD_map]
      · simp; omega
      · intro k _
        refine ⟨by simp [wipeD], fun more => ⟨.val (.str ⟨#[ch k]⟩), ?_, rfl⟩⟩
        simp [mix_eq, hch k, hll]
      · intro k _; simp [refsLt]
    obtain ⟨ys, hys⟩ : ∃ ys : List Str, ys = (List.range a1.toNat).map fun k => (⟨#[ch k]⟩ : Str) := ⟨_, rfl⟩
    have ones : ∀ s ∈ ys, s.length = 1 := by
      rw [hys]; intro s hs; obtain ⟨k, _, rfl⟩ := List.mem_map.mp hs; rfl
    have hlen : ys.length ≤ 11 := by rw [hys]; simp; omega
    have hlc' : lc_f_law_text_1 [some (.int c), some (.int a1), some (.int a2), some (.int a3), some (.int a4), none, none, none] st = .ok (.new (.lst (ys.map D.str))) st := by
      rw [hlc, hys, List.map_map]; rfl
    have hz : (ys.map (·.length)).sum + ys.length * (Str.ofString "").length ≤ 100000 := by rw [sum_ones ones, hempty]; omega
    have hT : (Txt.join (Str.ofString "") ys).length ≤ 11 := by rw [join_len ones]; exact hlen
    obtain ⟨tx, hTT⟩ : ∃ tx, Txt.join (Str.ofString "") ys = tx := ⟨_, rfl⟩
    rw [hTT] at hT
    have hol : (Str.ofString "ABZ019_ -.,:;'/#!?()[]{}<>=+*&^|~\n@Aaz").cps.toList.length = 38 := by decide
    have hol2 : (Str.ofString "ABZ019_ -.,:;'/#!?()[]{}<>=+*&^|~\n@Aaz").length ≤ 100000 := by decide
    obtain ⟨o, ho, _⟩ := atI_in (xs := (Str.ofString "ABZ019_ -.,:;'/#!?()[]{}<>=+*&^|~\n@Aaz").cps.toList) (i := a4 % 38) (by omega) (by rw [hol]; omega)
    have k1 := cutS_len tx none (some a3)
    have k2 := cutS_len tx (some (a3 + 1)) none
    have k0 : (⟨#[o]⟩ : Str).length = 1 := rfl
    have tl : tx.length ≤ 100000 := by omega
    have c1 : (cutS tx none (some a3)).length + (⟨#[o]⟩ : Str).length ≤ 100000 := by omega
    have ll : (cutS tx none (some a3) ++ ⟨#[o]⟩ : Str).length = (cutS tx none (some a3)).length + 1 := by rw [Str.length_append]; rfl
    have c2 : (cutS tx none (some a3) ++ ⟨#[o]⟩ : Str).length + (cutS tx (some (a3 + 1)) none).length ≤ 100000 := by omega
    by_cases w1 : a2 = 1
    · subst w1
      by_cases w2 : 0 < a1
      · refine ⟨cutS tx none (some a3) ++ ⟨#[o]⟩ ++ cutS tx (some (a3 + 1)) none, ?_, by rw [Str.length_append]; omega⟩
        simp [hc', mix_eq, hd, hlc', hz, hTT, w2, ho, hol2, tl, c1, c2]
      · refine ⟨tx, ?_, by omega⟩
        simp [hc', mix_eq, hd, hlc', hz, hTT, w2]
    · refine ⟨tx, ?_, by omega⟩
      simp [hc', mix_eq, hd, hlc', hz, hTT, w1]
end Lw
namespace Lw
open PySem PySem.Spec PyProof.Rows L2 VI
theorem things_set {ds : List D} {d : D} (h : things ds = true) (hd : thing d = true) (j : Nat) : things (ds.set j d) = true := by
  rw [things_mem] at h ⊢
  intro x hx
  rcases List.mem_or_eq_of_mem_set hx with q | q
  · exact h x q
  · rw [q]; exact hd
theorem law_row_eq (c : Int) (st : Store) : ∃ ds : List D, F_f_law_row [.int c] st = .ok (.val (.tup ds)) st ∧ thing (.tup ds) = true ∧ isPys ds = true := by
  unfold F_f_law_row runP b_f_law_row
  by_cases hc : (10 : Int) ^ 18 ≤ (if c < 0 then -c else c)
  · obtain ⟨out, h1, h2, h3⟩ := digits_eq c ["a", "b", "Ab"] 25 st (by decide) (by decide) (by decide) (by decide)
    have ls : ∀ s ∈ out, s.length ≤ 1000 := fun s hs => by
      have := h2 s hs
      simp only [List.mem_cons, List.not_mem_nil, or_false] at this
      rcases this with rfl | rfl | rfl <;> decide
    have ht := strs_things out (by omega) ls
    have hc' : (1000000000000000000 : Int) ≤ (if c < 0 then -c else c) := hc
    simp only [List.map_cons, List.map_nil] at h3
    refine ⟨_, ?_, ht.1, by rw [isPys_all]; intro d hd; obtain ⟨z, _, rfl⟩ := List.mem_map.mp hd; simp [isPy]⟩
    simp [hc', h3, (fin_thing ht.1).1]
  · have hc' : ¬ (1000000000000000000 : Int) ≤ (if c < 0 then -c else c) := hc
    have hd := draws_eq (mix c 2) [27, 26, 3] st (by intro s hs; simp at hs; omega) (by decide)
    have hm := mix_nn c 2
    have b1 : 0 ≤ mix c 2 % 27 ∧ mix c 2 % 27 < 27 := by omega
    have b2 : 0 ≤ mix c 2 / 27 % 26 := by omega
    simp only [drawsI, List.map_cons, List.map_nil] at hd
    generalize mix c 2 % 27 = a1 at hd b1
    generalize mix c 2 / 27 % 26 = a2 at hd b2
    generalize mix c 2 / 27 / 26 % 3 = a3 at hd
    have sz := okR_small (i := a1) (by omega) (by omega)
    have hll : (Str.ofString "abcdefgh").length ≤ 100000 := by decide
    have hl8 : (Str.ofString "abcdefgh").length = 8 := by decide
    have hlc : lc_f_law_row_1 [some (.int c), some (.int a1), some (.int a2), some (.int a3), none, none] st = .ok (.new (.lst ((List.range a1.toNat).map fun (k : Nat) => D.str (cutS (Str.ofString "abcdefgh") none (some (1 + mix c (60 + (k : Int)) % 8)))))) st := by
      refine evLc_map1 (own := [5]) (items := List.range a1.toNat) (fun (k : Nat) => D.int (k : Int)) (fun k => D.str (cutS (Str.ofString "abcdefgh") none (some (1 + mix c (60 + (k : Int)) % 8)))) (fun k => [some (.int c), some (.int a1), some (.int a2), some (.int a3), none, some (.int (k : Int))]) ?_ ?_ ?_ ?_
      · simp [sz, rangeD_map]
      · simp; omega
      · intro k _
        exact ⟨by simp [wipeD], fun more => ⟨.val (.str _), by simp [mix_eq, hll], rfl⟩⟩
      · intro k _; simp [refsLt]
    obtain ⟨ds, hds⟩ : ∃ ds : List D, ds = (List.range a1.toNat).map fun (k : Nat) => D.str (cutS (Str.ofString "abcdefgh") none (some (1 + mix c (60 + (k : Int)) % 8))) := ⟨_, rfl⟩
    have hlen : ds.length = a1.toNat := by rw [hds]; simp
    have hth : things ds = true := by
      rw [things_mem, hds]; intro d hd; obtain ⟨k, _, rfl⟩ := List.mem_map.mp hd
      have := cutS_len (Str.ofString "abcdefgh") none (some (1 + mix c (60 + (k : Int)) % 8))
      simp only [thing, decide_eq_true_eq]; omega
    have hpy : isPys ds = true := by
      rw [isPys_all, hds]; intro d hd; obtain ⟨k, _, rfl⟩ := List.mem_map.mp hd; simp [isPy]
    rw [← hds] at hlc
    have t0 : thing (.tup ds) = true := by simp only [thing, hth, Bool.and_true, decide_eq_true_eq]; omega
    have fin1 : ∀ ds : List D, thing (.tup ds) = true → fin st (.val (.tup ds)) (st ++ [some (.lst ds)]) = .ok (.val (.tup ds)) st := fun ds h => fin_val (refsLt_mono (Nat.zero_le _) _ (thing_refs _ h)) (fun _ => nofun)
    have ft : ∀ ds : List D, fTuple [.ref st.length] (st ++ [some (.lst ds)]) = .ok (.val (.tup ds)) (st ++ [some (.lst ds)]) := fun ds => fTuple_ref (by simp)
    by_cases w1 : a3 = 0
    · subst w1
      by_cases w2 : 0 < a1
      · obtain ⟨v, hv, hvm⟩ := atI_in (xs := [D.str "A", .str "", .str "abcdefghi", .non, .int 5, .str "a1"]) (i := mix c 3 % 6) (by omega) (by simp; omega)
        have tv : thing v = true := by
          have q : things [D.str "A", .str "", .str "abcdefghi", .non, .int 5, .str "a1"] = true := by decide
          exact things_mem.mp q v hvm
        have hix : ixN ds.length (a2 % a1) = some (a2 % a1).toNat := ixN_in (Int.emod_nonneg _ (by omega)) (by rw [hlen]; have := Int.emod_lt_of_pos a2 w2; omega)
        have t1 : thing (.tup (ds.set (a2 % a1).toNat v)) = true := by
          simp only [thing, things_set hth tv, Bool.and_true, decide_eq_true_eq, List.length_set]; omega
        have pv : isPy v = true := by
          have q : isPys [D.str "A", .str "", .str "abcdefghi", .non, .int 5, .str "a1"] = true := by decide
          exact isPys_all.mp q v hvm
        have p1 : isPys (ds.set (a2 % a1).toNat v) = true := by
          rw [isPys_all] at hpy ⊢
          intro x hx
          rcases List.mem_or_eq_of_mem_set hx with q | q
          · exact hpy x q
          · rw [q]; exact pv
        refine ⟨ds.set (a2 % a1).toNat v, ?_, t1, p1⟩
        simp [hc', mix_eq, hd, hlc, w2, hv, hix, ft, fin1 _ t1]
      · refine ⟨ds, ?_, t0, hpy⟩
        simp [hc', mix_eq, hd, hlc, w2, ft, fin1 _ t0]
    · refine ⟨ds, ?_, t0, hpy⟩
      simp [hc', mix_eq, hd, hlc, w1, ft, fin1 _ t0]
/-- what the law reckons a row by -/
theorem due_row (d : D) : (match d with | .tup ds => decide ((ds.length : Int) < 25) && (ds.filter fun x => !nameB x).isEmpty | _ => false) = rowB d := by
  cases d with
  | tup ds =>
    show (decide ((ds.length : Int) < 25) && _) = (decide ((ds.length : Int) ≤ 24) && _)
    have e1 : decide ((ds.length : Int) < 25) = decide ((ds.length : Int) ≤ 24) := by
      by_cases h : (ds.length : Int) < 25
      · rw [decide_eq_true h, decide_eq_true (by omega)]
      · rw [decide_eq_false h, decide_eq_false (by omega)]
    have e2 : (ds.filter fun x => !nameB x).isEmpty = ds.all nameB := by
      induction ds with
      | nil => rfl
      | cons d ds ih =>
        rw [List.filter_cons, List.all_cons]
        cases nameB d
        · simp
        · simpa using ih (by
            by_cases h : (ds.length : Int) < 25
            · rw [decide_eq_true h, decide_eq_true (by omega)]
            · rw [decide_eq_false h, decide_eq_false (by omega)])
    rw [e1, e2]
  | _ => rfl
theorem turn_eq (c T a3 a4 a5 : Option D) (d : D) (st : Store) (h : thing d = true) (hp : ∀ ds, d = .tup ds → isPys ds = true) : ∃ x3 x4 x5, lp_f_law_right_1 [c, T, some d, a3, a4, a5, none] st = .nx [c, T, some d, x3, x4, x5, none] st := by
  unfold lp_f_law_right_1
  have h1 := is_name_eq d st h
  have h2 := law_is_name_eq d st h
  have h3 := is_row_eq d st h
  cases d with
  | tup ds =>
    simp only [thing, Bool.and_eq_true, decide_eq_true_eq] at h
    have hpy := hp ds rfl
    have hlc : ∀ A B C, lc_f_law_right_1 [c, T, some (D.tup ds), A, B, C, none] st = .ok (.new (.lst ((ds.filter fun x => !nameB x).map id))) st := fun A B C =>
      evLc_map (own := [6]) (items := ds) id (fun x => !nameB x) id (fun x => [c, T, some (D.tup ds), A, B, C, some x]) (by simp) (by omega)
        (fun x hx => ⟨by simp [wipeD], fun more => ⟨by simp [law_is_name_eq x _ (things_mem.mp h.2 x hx)], fun _ => ⟨_, by simp; rfl, rfl⟩⟩⟩) (fun x hx _ => thing_refs x (things_mem.mp h.2 x hx))
    have hnil := fEq_nil (st := st) (neg := false) (ds := ds.filter fun x => !nameB x) (by rw [isPys_all] at hpy ⊢; intro x hx; exact hpy x (List.mem_filter.mp hx).1)
    have due := due_row (.tup ds)
    simp only at due
    by_cases g : (ds.length : Int) < 25
    · refine ⟨some (.bl (nameB (.tup ds))), some (.bl (rowB (.tup ds))), some (.bl (rowB (.tup ds))), ?_⟩
      simp only [decide_eq_true g, Bool.true_and] at due
      simp [h1, h2, h3, isiTab, g, hlc, hnil, due]
    · refine ⟨some (.bl (nameB (.tup ds))), some (.bl (rowB (.tup ds))), some (.bl (rowB (.tup ds))), ?_⟩
      simp only [decide_eq_false g, Bool.false_and] at due
      simp [h1, h2, h3, isiTab, g, ← due]
  | non => exact ⟨some (.bl false), some (.bl false), some (.bl false), by simp [h1, h2, h3, isiTab, nameB, rowB]⟩
  | bl b => exact ⟨some (.bl false), some (.bl false), some (.bl false), by simp [h1, h2, h3, isiTab, nameB, rowB]⟩
  | int b => exact ⟨some (.bl false), some (.bl false), some (.bl false), by simp [h1, h2, h3, isiTab, nameB, rowB]⟩
  | str z => exact ⟨some (.bl (nameB (.str z))), some (.bl false), some (.bl false), by simp [h1, h2, h3, isiTab, rowB]⟩
  | lst ds => exact ⟨some (.bl false), some (.bl false), some (.bl false), by simp [h1, h2, h3, isiTab, nameB, rowB]⟩
  | dic kvs =>
    cases kvs with
    | nil => exact ⟨some (.bl false), some (.bl false), some (.bl false), by simp [h1, h2, h3, isiTab, nameB, rowB]⟩
    | cons _ _ => simp [thing] at h
  | ref n => simp [thing] at h
  | ty n => simp [thing] at h
  | cl n => simp [thing] at h
  | obj n f => simp [thing] at h

theorem right_eq (c : Int) (st : Store) : F_f_law_right [.int c] st = .ok (.val (.bl true)) st := by
  unfold F_f_law_right runP b_f_law_right
  obtain ⟨z, hz, tz⟩ := law_text_eq c st
  obtain ⟨v, hv, tv, pv⟩ := law_thing_eq (mix c 4) st
  obtain ⟨ds, hr, tr, pr⟩ := law_row_eq c st
  obtain ⟨T, hT⟩ : ∃ T : List D, T = [D.str z, v, .tup ds, .lst ds] := ⟨_, rfl⟩
  have tl : thing (.lst ds) = true := by
    simp only [thing] at tr ⊢; exact tr
  have tz' : thing (.str z) = true := by simp [thing, tz]
  have all : ∀ d ∈ [D.str z, v, .tup ds, .lst ds, .str z], thing d = true ∧ ∀ es, d = .tup es → isPys es = true := by
    intro d hd
    simp only [List.mem_cons, List.not_mem_nil, or_false] at hd
    rcases hd with rfl | rfl | rfl | rfl | rfl
    · exact ⟨tz', fun _ => nofun⟩
    · exact ⟨tv, pv⟩
    · exact ⟨tr, fun es e => by cases e; exact pr⟩
    · exact ⟨tl, fun _ => nofun⟩
    · exact ⟨tz', fun _ => nofun⟩
  have go := forGo_inv (iv := ⟨[D.str z, v, .tup ds, .lst ds, .str z], none⟩) (g := gdName 2) (body := lp_f_law_right_1) rfl
    (fun _ env s => s = st ∧ ∃ x2 x3 x4 x5, env = [some (.int c), some (.lst [D.str z, v, .tup ds, .lst ds]), x2, x3, x4, x5, none]) [D.str z, v, .tup ds, .lst ds, .str z] 0
    [some (.int c), some (.lst [D.str z, v, .tup ds, .lst ds]), none, none, none, none, none] st ⟨rfl, _, _, _, _, rfl⟩ (fun i d env s hi hI => by
      obtain ⟨rfl, x2, x3, x4, x5, rfl⟩ := hI
      obtain ⟨td, pd⟩ := all d (List.mem_of_getElem? hi)
      obtain ⟨y3, y4, y5, e⟩ := turn_eq (some (.int c)) (some (.lst [D.str z, v, .tup ds, .lst ds])) x3 x4 x5 d s td pd
      exact ⟨_, _, _, by simp, .inl e, rfl, _, _, _, _, rfl⟩)
  obtain ⟨env2, st2, e, rfl, _⟩ := go
  have cut1 : cutD [D.str z, v, .tup ds, .lst ds] none (some 1) = [D.str z] := rfl
  have ck : catOk [D.str z, v, .tup ds, .lst ds] [D.str z] = true := by simp [catOk]
  simp [hz, mix_eq, hv, hr, cut1, ck]
  rw [e]
  simp
theorem law_true (ns : List Int) (hl : ns.length ≤ 63) : F_law [.lst (ns.map D.int)] [] = .ok (.val (.bl true)) [] := by
  unfold F_law runP b_law
  have ck : catOk (ns.map D.int) [D.int 0, .int 1] = true := by simp [catOk]; omega
  have hlc : lc_law_1 [some (.lst (ns.map D.int)), none] [] = .ok (.new (.lst ((ns ++ [0, 1]).map fun _ => D.bl true))) [] := by
    refine evLc_map1 (own := [1]) (items := ns ++ [0, 1]) D.int (fun _ => D.bl true) (fun n => [some (.lst (ns.map D.int)), some (.int n)]) ?_ ?_ ?_ ?_
    · simp [ck]
    · simp; omega
    · intro n _
      exact ⟨by simp [wipeD], fun more => ⟨.val (.bl true), by simp [right_eq], rfl⟩⟩
    · intro n _; simp [refsLt]
  have hb : blsOf ((ns ++ [0, 1]).map fun _ => D.bl true) = some ((ns ++ [0, 1]).map fun _ => true) := blsOf_map' (fun _ => true) (ns ++ [0, 1])
  have ha : ((ns ++ [0, 1]).map fun _ => true).all id = true := by simp
  have h0 : F_is_row [.tup []] [] = .ok (.val (.bl true)) [] := is_row_eq (.tup []) [] (by decide)
  have f : fin [] (.val (.bl true)) [] = .ok (.val (.bl true)) [] := fin_bl0
  simp [h0]
  rw [hlc]
  simp only [bind_ok, new_d, fAll_lst, hb, ha, onBl_bl, if_true, h0, noX_ok, val_d, fIsB_bl, sof_ok]
  exact f
end Lw
namespace Lw
open PySem PySem.Spec PyProof.Rows L2 VI
theorem all_mk {l : PySem.W.OpenLaw} {w : World} {K : PySem.W.Frag} {h : Heap} {mg : Str → Option Value} {fa : Addr} (X : K.In h) (G : h.Ns mainGlobals mg) (hfa : mg "law" = some (.ref fa))
    {f0 : Addr} {od0 an0 : Option Addr} {sl0 : Array (Option Value)} {oc0 kV0 dc0 pm0 cd0 ct0 : Value}
    {f1 : Addr} {od1 an1 : Option Addr} {sl1 : Array (Option Value)} {oc1 kV1 dc1 pm1 cd1 ct1 : Value}
    {f2 : Addr} {od2 an2 : Option Addr} {sl2 : Array (Option Value)} {oc2 kV2 dc2 pm2 cd2 ct2 : Value}
    {f3 : Addr} {od3 an3 : Option Addr} {sl3 : Array (Option Value)} {oc3 kV3 dc3 pm3 cd3 ct3 : Value}
    {f4 : Addr} {od4 an4 : Option Addr} {sl4 : Array (Option Value)} {oc4 kV4 dc4 pm4 cd4 ct4 : Value}
    {f5 : Addr} {od5 an5 : Option Addr} {sl5 : Array (Option Value)} {oc5 kV5 dc5 pm5 cd5 ct5 : Value}
    {f6 : Addr} {od6 an6 : Option Addr} {sl6 : Array (Option Value)} {oc6 kV6 dc6 pm6 cd6 ct6 : Value}
    {f7 : Addr} {od7 an7 : Option Addr} {sl7 : Array (Option Value)} {oc7 kV7 dc7 pm7 cd7 ct7 : Value}
    {f8 : Addr} {od8 an8 : Option Addr} {sl8 : Array (Option Value)} {oc8 kV8 dc8 pm8 cd8 ct8 : Value}
    {f9 : Addr} {od9 an9 : Option Addr} {sl9 : Array (Option Value)} {oc9 kV9 dc9 pm9 cd9 ct9 : Value}
    {f10 : Addr} {od10 an10 : Option Addr} {sl10 : Array (Option Value)} {oc10 kV10 dc10 pm10 cd10 ct10 : Value}
    (a0 : PySem.W.nsIn K mainGlobals "is_name" = some (some (.ref f0))) (l0 : K.lookup f0 = some ⟨oc0, od0, .func (PySem.W.fnOf "is_name" "is_name" (defArgs s_is_name) (defBody s_is_name) (defScope s_is_name) .none kV0 dc0 pm0 an0 cd0 ct0), sl0⟩) (c0 : PySem.W.codeIn K cd0 "is_name" = true) (k0 : PySem.W.keepIn K (.ref f0) = true)
    (a1 : PySem.W.nsIn K mainGlobals "_law_draws" = some (some (.ref f1))) (l1 : K.lookup f1 = some ⟨oc1, od1, .func (PySem.W.fnOf "_law_draws" "_law_draws" (defArgs s_f_law_draws) (defBody s_f_law_draws) (defScope s_f_law_draws) .none kV1 dc1 pm1 an1 cd1 ct1), sl1⟩) (c1 : PySem.W.codeIn K cd1 "_law_draws" = true) (k1 : PySem.W.keepIn K (.ref f1) = true)
    (a2 : PySem.W.nsIn K mainGlobals "_law_mix" = some (some (.ref f2))) (l2 : K.lookup f2 = some ⟨oc2, od2, .func (PySem.W.fnOf "_law_mix" "_law_mix" (defArgs s_f_law_mix) (defBody s_f_law_mix) (defScope s_f_law_mix) .none kV2 dc2 pm2 an2 cd2 ct2), sl2⟩) (c2 : PySem.W.codeIn K cd2 "_law_mix" = true) (k2 : PySem.W.keepIn K (.ref f2) = true)
    (a3 : PySem.W.nsIn K mainGlobals "_law_digits" = some (some (.ref f3))) (l3 : K.lookup f3 = some ⟨oc3, od3, .func (PySem.W.fnOf "_law_digits" "_law_digits" (defArgs s_f_law_digits) (defBody s_f_law_digits) (defScope s_f_law_digits) .none kV3 dc3 pm3 an3 cd3 ct3), sl3⟩) (c3 : PySem.W.codeIn K cd3 "_law_digits" = true) (k3 : PySem.W.keepIn K (.ref f3) = true)
    (a4 : PySem.W.nsIn K mainGlobals "_law_thing" = some (some (.ref f4))) (l4 : K.lookup f4 = some ⟨oc4, od4, .func (PySem.W.fnOf "_law_thing" "_law_thing" (defArgs s_f_law_thing) (defBody s_f_law_thing) (defScope s_f_law_thing) .none kV4 dc4 pm4 an4 cd4 ct4), sl4⟩) (c4 : PySem.W.codeIn K cd4 "_law_thing" = true) (k4 : PySem.W.keepIn K (.ref f4) = true)
    (a5 : PySem.W.nsIn K mainGlobals "_law_is_name" = some (some (.ref f5))) (l5 : K.lookup f5 = some ⟨oc5, od5, .func (PySem.W.fnOf "_law_is_name" "_law_is_name" (defArgs s_f_law_is_name) (defBody s_f_law_is_name) (defScope s_f_law_is_name) .none kV5 dc5 pm5 an5 cd5 ct5), sl5⟩) (c5 : PySem.W.codeIn K cd5 "_law_is_name" = true) (k5 : PySem.W.keepIn K (.ref f5) = true)
    (a6 : PySem.W.nsIn K mainGlobals "is_row" = some (some (.ref f6))) (l6 : K.lookup f6 = some ⟨oc6, od6, .func (PySem.W.fnOf "is_row" "is_row" (defArgs s_is_row) (defBody s_is_row) (defScope s_is_row) .none kV6 dc6 pm6 an6 cd6 ct6), sl6⟩) (c6 : PySem.W.codeIn K cd6 "is_row" = true) (k6 : PySem.W.keepIn K (.ref f6) = true)
    (a7 : PySem.W.nsIn K mainGlobals "_law_text" = some (some (.ref f7))) (l7 : K.lookup f7 = some ⟨oc7, od7, .func (PySem.W.fnOf "_law_text" "_law_text" (defArgs s_f_law_text) (defBody s_f_law_text) (defScope s_f_law_text) .none kV7 dc7 pm7 an7 cd7 ct7), sl7⟩) (c7 : PySem.W.codeIn K cd7 "_law_text" = true) (k7 : PySem.W.keepIn K (.ref f7) = true)
    (a8 : PySem.W.nsIn K mainGlobals "_law_row" = some (some (.ref f8))) (l8 : K.lookup f8 = some ⟨oc8, od8, .func (PySem.W.fnOf "_law_row" "_law_row" (defArgs s_f_law_row) (defBody s_f_law_row) (defScope s_f_law_row) .none kV8 dc8 pm8 an8 cd8 ct8), sl8⟩) (c8 : PySem.W.codeIn K cd8 "_law_row" = true) (k8 : PySem.W.keepIn K (.ref f8) = true)
    (a9 : PySem.W.nsIn K mainGlobals "_law_right" = some (some (.ref f9))) (l9 : K.lookup f9 = some ⟨oc9, od9, .func (PySem.W.fnOf "_law_right" "_law_right" (defArgs s_f_law_right) (defBody s_f_law_right) (defScope s_f_law_right) .none kV9 dc9 pm9 an9 cd9 ct9), sl9⟩) (c9 : PySem.W.codeIn K cd9 "_law_right" = true) (k9 : PySem.W.keepIn K (.ref f9) = true)
    (a10 : PySem.W.nsIn K mainGlobals "law" = some (some (.ref f10))) (l10 : K.lookup f10 = some ⟨oc10, od10, .func (PySem.W.fnOf "law" "law" (defArgs s_law) (defBody s_law) (defScope s_law) .none kV10 dc10 pm10 an10 cd10 ct10), sl10⟩) (c10 : PySem.W.codeIn K cd10 "law" = true) (k10 : PySem.W.keepIn K (.ref f10) = true)
    (z0 : PySem.W.nsIn K mainGlobals "abs" = some none)
    (z1 : PySem.W.nsIn K mainGlobals "all" = some none)
    (z2 : PySem.W.nsIn K mainGlobals "bool" = some none)
    (z3 : PySem.W.nsIn K mainGlobals "isinstance" = some none)
    (z4 : PySem.W.nsIn K mainGlobals "len" = some none)
    (z5 : PySem.W.nsIn K mainGlobals "list" = some none)
    (z6 : PySem.W.nsIn K mainGlobals "range" = some none)
    (z7 : PySem.W.nsIn K mainGlobals "str" = some none)
    (z8 : PySem.W.nsIn K mainGlobals "tuple" = some none)
    {t0 : Tok} (y0 : PySem.W.nsIn K mainGlobals "LETTERS" = some (some (.str "abcdefghijklmnopqrstuvwxyz" t0)))
    {t1 : Tok} (y1 : PySem.W.nsIn K mainGlobals "MOST_LETTERS" = some (some (.int 8 t1)))
    {t2 : Tok} (y2 : PySem.W.nsIn K mainGlobals "MOST_WORDS" = some (some (.int 24 t2)))
    (hlaw : ∀ ns : List Int, ns.length ≤ 63 → F_law [.lst (ns.map D.int)] [] = .ok (.val (.bl true)) []) :
    ∃ fd : FuncData, (∀ (s : Shared) (v : Value), BindsTo s fd ⟨[v], []⟩ [("_law_script", v)]) ∧ ∀ base : Heap, K.In base → base.Ns mainGlobals mg → FnOk l.prog w K mg base CX0 4 fa fd ["_law_script"] (spLaw K) := by
  have T : Tx mg := ⟨PySem.W.mg_none_of X G z0, PySem.W.mg_none_of X G z1, PySem.W.mg_none_of X G z2, PySem.W.mg_none_of X G z3, PySem.W.mg_none_of X G z4, PySem.W.mg_none_of X G z5, PySem.W.mg_none_of X G z6, PySem.W.mg_none_of X G z7, PySem.W.mg_none_of X G z8, ⟨_, PySem.W.mg_of X G y0⟩, ⟨_, PySem.W.mg_of X G y1⟩, ⟨_, PySem.W.mg_of X G y2⟩⟩
  have F0 := fun_mk (st := s_is_name) l0 c0 k0
  have D0 : At K mg "is_name" "is_name" s_is_name ["thing"] := ⟨_, _, F0, F0.binds (ps := ["thing"]) fun _ _ _ _ _ _ us hl => match us, hl with | [_], _ => rfl, PySem.W.mg_of X G a0⟩
  have F1 := fun_mk (st := s_f_law_draws) l1 c1 k1
  have D1 : At K mg "_law_draws" "_law_draws" s_f_law_draws ["_law_number", "_law_sizes"] := ⟨_, _, F1, F1.binds (ps := ["_law_number", "_law_sizes"]) fun _ _ _ _ _ _ us hl => match us, hl with | [_, _], _ => rfl, PySem.W.mg_of X G a1⟩
  have F2 := fun_mk (st := s_f_law_mix) l2 c2 k2
  have D2 : At K mg "_law_mix" "_law_mix" s_f_law_mix ["_law_number", "_law_k"] := ⟨_, _, F2, F2.binds (ps := ["_law_number", "_law_k"]) fun _ _ _ _ _ _ us hl => match us, hl with | [_, _], _ => rfl, PySem.W.mg_of X G a2⟩
  have F3 := fun_mk (st := s_f_law_digits) l3 c3 k3
  have D3 : At K mg "_law_digits" "_law_digits" s_f_law_digits ["_law_cell", "_law_some", "_law_most"] := ⟨_, _, F3, F3.binds (ps := ["_law_cell", "_law_some", "_law_most"]) fun _ _ _ _ _ _ us hl => match us, hl with | [_, _, _], _ => rfl, PySem.W.mg_of X G a3⟩
  have F4 := fun_mk (st := s_f_law_thing) l4 c4 k4
  have D4 : At K mg "_law_thing" "_law_thing" s_f_law_thing ["_law_cell"] := ⟨_, _, F4, F4.binds (ps := ["_law_cell"]) fun _ _ _ _ _ _ us hl => match us, hl with | [_], _ => rfl, PySem.W.mg_of X G a4⟩
  have F5 := fun_mk (st := s_f_law_is_name) l5 c5 k5
  have D5 : At K mg "_law_is_name" "_law_is_name" s_f_law_is_name ["_law_thing_here"] := ⟨_, _, F5, F5.binds (ps := ["_law_thing_here"]) fun _ _ _ _ _ _ us hl => match us, hl with | [_], _ => rfl, PySem.W.mg_of X G a5⟩
  have F6 := fun_mk (st := s_is_row) l6 c6 k6
  have D6 : At K mg "is_row" "is_row" s_is_row ["thing"] := ⟨_, _, F6, F6.binds (ps := ["thing"]) fun _ _ _ _ _ _ us hl => match us, hl with | [_], _ => rfl, PySem.W.mg_of X G a6⟩
  have F7 := fun_mk (st := s_f_law_text) l7 c7 k7
  have D7 : At K mg "_law_text" "_law_text" s_f_law_text ["_law_cell"] := ⟨_, _, F7, F7.binds (ps := ["_law_cell"]) fun _ _ _ _ _ _ us hl => match us, hl with | [_], _ => rfl, PySem.W.mg_of X G a7⟩
  have F8 := fun_mk (st := s_f_law_row) l8 c8 k8
  have D8 : At K mg "_law_row" "_law_row" s_f_law_row ["_law_cell"] := ⟨_, _, F8, F8.binds (ps := ["_law_cell"]) fun _ _ _ _ _ _ us hl => match us, hl with | [_], _ => rfl, PySem.W.mg_of X G a8⟩
  have F9 := fun_mk (st := s_f_law_right) l9 c9 k9
  have D9 : At K mg "_law_right" "_law_right" s_f_law_right ["_law_cell"] := ⟨_, _, F9, F9.binds (ps := ["_law_cell"]) fun _ _ _ _ _ _ us hl => match us, hl with | [_], _ => rfl, PySem.W.mg_of X G a9⟩
  have F10 := fun_mk (st := s_law) l10 c10 k10
  have D10 : At K mg "law" "law" s_law ["_law_script"] := ⟨_, _, F10, F10.binds (ps := ["_law_script"]) fun _ _ _ _ _ _ us hl => match us, hl with | [_], _ => rfl, PySem.W.mg_of X G a10⟩
  have e := hfa.symm.trans (PySem.W.mg_of X G a10)
  cases e
  refine ⟨PySem.W.fnOf "law" "law" (defArgs s_law) (defBody s_law) (defScope s_law) .none kV10 dc10 pm10 an10 cd10 ct10, fun s v => .of_eq rfl, fun base _ _ => ?_⟩
  have O_is_name := ok_is_name (P := l.prog) (w := w) (base := base) T D0 
  have O_f_law_draws := ok_f_law_draws (P := l.prog) (w := w) (base := base) T D1 
  have O_f_law_mix := ok_f_law_mix (P := l.prog) (w := w) (base := base) T D2 
  have O_f_law_digits := ok_f_law_digits (P := l.prog) (w := w) (base := base) T D3 
  have O_f_law_thing := ok_f_law_thing (P := l.prog) (w := w) (base := base) T D4 
  have O_f_law_is_name := ok_f_law_is_name (P := l.prog) (w := w) (base := base) T D5 
  have O_is_row := ok_is_row (P := l.prog) (w := w) (base := base) T D6 O_is_name
  have O_f_law_text := ok_f_law_text (P := l.prog) (w := w) (base := base) T D7 O_f_law_digits O_f_law_draws O_f_law_mix
  have O_f_law_row := ok_f_law_row (P := l.prog) (w := w) (base := base) T D8 O_f_law_digits O_f_law_draws O_f_law_mix
  have O_f_law_right := ok_f_law_right (P := l.prog) (w := w) (base := base) T D9 O_f_law_row O_f_law_thing O_f_law_mix O_f_law_text O_is_name O_f_law_is_name O_is_row
  exact (fn_law (P := l.prog) (w := w) (base := base) T F10 O_f_law_right O_is_row).imp (law_imp rfl hlaw)
end Lw
open PySem PySem.W PyProof.Rows
set_option maxHeartbeats 0 in
theorem PySem.Challenge.cw_paperreader_k12_names_and_rows_holds : PySem.Challenge.rw_paperreader_k12_names_and_rows.Holds := by
  w_on; o_law; k_head; (case hw => w_witness2)
  k_fill
  refine L2.walk_of (l := PySem.Challenge.rw_paperreader_k12_names_and_rows) (n := 63) (k := 4) (x := "_law_script") (CX := fun _ => L2.CX0) (sp := fun w => VI.spLaw _) rfl (by decide) rfl ⟨rfl, by decide, by decide⟩ (fun w h Y => PySem.W.kIn_of Y) ?F (fun _ _ a ns hl _ hS => ⟨a, ns, rfl, hS, hl, fun _ => rfl⟩) (fun _ _ _ _ _ h => h)
  case F =>
    intro w mg fa h KX G hmg
    refine' Lw.all_mk KX G hmg ?a0 ?l0 ?c0 ?k0 ?a1 ?l1 ?c1 ?k1 ?a2 ?l2 ?c2 ?k2 ?a3 ?l3 ?c3 ?k3 ?a4 ?l4 ?c4 ?k4 ?a5 ?l5 ?c5 ?k5 ?a6 ?l6 ?c6 ?k6 ?a7 ?l7 ?c7 ?k7 ?a8 ?l8 ?c8 ?k8 ?a9 ?l9 ?c9 ?k9 ?a10 ?l10 ?c10 ?k10 ?z0 ?z1 ?z2 ?z3 ?z4 ?z5 ?z6 ?z7 ?z8 ?y0 ?y1 ?y2 Lw.law_true
    (case a0 => k_is)
    (case l0 => k_is)
    (case c0 => k_is)
    (case k0 => k_is)
    (case a1 => k_is)
    (case l1 => k_is)
    (case c1 => k_is)
    (case k1 => k_is)
    (case a2 => k_is)
    (case l2 => k_is)
    (case c2 => k_is)
    (case k2 => k_is)
    (case a3 => k_is)
    (case l3 => k_is)
    (case c3 => k_is)
    (case k3 => k_is)
    (case a4 => k_is)
    (case l4 => k_is)
    (case c4 => k_is)
    (case k4 => k_is)
    (case a5 => k_is)
    (case l5 => k_is)
    (case c5 => k_is)
    (case k5 => k_is)
    (case a6 => k_is)
    (case l6 => k_is)
    (case c6 => k_is)
    (case k6 => k_is)
    (case a7 => k_is)
    (case l7 => k_is)
    (case c7 => k_is)
    (case k7 => k_is)
    (case a8 => k_is)
    (case l8 => k_is)
    (case c8 => k_is)
    (case k8 => k_is)
    (case a9 => k_is)
    (case l9 => k_is)
    (case c9 => k_is)
    (case k9 => k_is)
    (case a10 => k_is)
    (case l10 => k_is)
    (case c10 => k_is)
    (case k10 => k_is)
    (case z0 => k_is)
    (case z1 => k_is)
    (case z2 => k_is)
    (case z3 => k_is)
    (case z4 => k_is)
    (case z5 => k_is)
    (case z6 => k_is)
    (case z7 => k_is)
    (case z8 => k_is)
    (case y0 => k_is)
    (case y1 => k_is)
    (case y2 => k_is)
