import PyProof.Rows.All
import Wide.All
import OpenK.AllK
import HandS.CallSlots
import HandS.Deep
import HandS.ExcIs
import HandS.ExcValue
import HandS.FStrTup
import HandS.ForExc
import HandS.ForMost
import HandS.IsInst
import HandS.Iter
import HandS.NoneIn
import HandS.Rev
import HandS.RevRange
import HandS.Strs
import HandS.Style
import HandS.TryOnly
import HandS.TupAny
import HandS.TupLe
import HandS.TupMul
import HandS.TupSets
import HandS.Wide
import HandS.Zip
import KE.DataCmp
import KE.DataEq
import KE.GoesMore
import KE.KStrOpen
import KE.KeyNested
import KE.KxText
import KE.SortData
import PyProof.ReprRoads
import PyProof.StrBlock2
import Wide.FinOn
import PySem.Challenge.RW_paperreader_k60_tables_told
set_option Elab.async false
set_option linter.all false
set_option maxRecDepth 100000
set_option maxHeartbeats 4000000
namespace VI
open PySem PySem.Spec PyProof.Rows L2
inductive D where
  | non | bl (b : Bool) | int (i : Int) | str (x : Str) | ty (n : String) | cl (c : String) | ref (n : Nat)
  | tup (ds : List D) | lst (ds : List D) | dic (kvs : List (D × D)) | obj (c : String) (fs : List (Str × D))
mutual
def D.beq : D → D → Bool
  | .non, .non => true
  | .bl a, .bl b => decide (a = b)
  | .int a, .int b => decide (a = b)
  | .str a, .str b => decide (a = b)
  | .ty a, .ty b => decide (a = b)
  | .cl a, .cl b => decide (a = b)
  | .ref a, .ref b => decide (a = b)
  | .tup a, .tup b => D.beqs a b
  | .lst a, .lst b => D.beqs a b
  | .dic a, .dic b => D.beqK a b
  | .obj c a, .obj d b => decide (c = d) && D.beqF a b
  | _, _ => false
def D.beqs : List D → List D → Bool
  | [], [] => true
  | a :: r, b :: q => D.beq a b && D.beqs r q
  | _, _ => false
def D.beqK : List (D × D) → List (D × D) → Bool
  | [], [] => true
  | (a, x) :: r, (b, y) :: q => (D.beq a b && D.beq x y) && D.beqK r q
  | _, _ => false
def D.beqF : List (Str × D) → List (Str × D) → Bool
  | [], [] => true
  | (a, x) :: r, (b, y) :: q => (decide (a = b) && D.beq x y) && D.beqF r q
  | _, _ => false
end
mutual
theorem D.beq_refl : ∀ a : D, D.beq a a = true
  | .non => by simp [D.beq]
  | .bl a => by simp [D.beq]
  | .int a => by simp [D.beq]
  | .str a => by simp [D.beq]
  | .ty a => by simp [D.beq]
  | .cl a => by simp [D.beq]
  | .ref a => by simp [D.beq]
  | .tup a => by simp only [D.beq]; exact D.beqs_refl a
  | .lst a => by simp only [D.beq]; exact D.beqs_refl a
  | .dic a => by simp only [D.beq]; exact D.beqK_refl a
  | .obj c a => by simp only [D.beq, decide_true, Bool.true_and]; exact D.beqF_refl a
theorem D.beqs_refl : ∀ a : List D, D.beqs a a = true
  | [] => by simp [D.beqs]
  | a :: r => by simp only [D.beqs, D.beq_refl a, D.beqs_refl r, Bool.and_self]
theorem D.beqK_refl : ∀ a : List (D × D), D.beqK a a = true
  | [] => by simp [D.beqK]
  | (a, x) :: r => by simp only [D.beqK, D.beq_refl a, D.beq_refl x, D.beqK_refl r, Bool.and_self]
theorem D.beqF_refl : ∀ a : List (Str × D), D.beqF a a = true
  | [] => by simp [D.beqF]
  | (a, x) :: r => by simp only [D.beqF, D.beq_refl x, D.beqF_refl r, decide_true, Bool.and_self]
end
mutual
theorem D.beq_eq : ∀ a b : D, D.beq a b = true → a = b
  | .non, b, h => by cases b <;> first | rfl | simp [D.beq] at h
  | .bl a, b, h => by cases b <;> simp [D.beq] at h <;> rw [h]
  | .int a, b, h => by cases b <;> simp [D.beq] at h <;> rw [h]
  | .str a, b, h => by cases b <;> simp [D.beq] at h <;> rw [h]
  | .ty a, b, h => by cases b <;> simp [D.beq] at h <;> rw [h]
  | .cl a, b, h => by cases b <;> simp [D.beq] at h <;> rw [h]
  | .ref a, b, h => by cases b <;> simp [D.beq] at h <;> rw [h]
  | .tup a, b, h => by cases b <;> simp [D.beq] at h; rw [D.beqs_eq a _ h]
  | .lst a, b, h => by cases b <;> simp [D.beq] at h; rw [D.beqs_eq a _ h]
  | .dic a, b, h => by cases b <;> simp [D.beq] at h; rw [D.beqK_eq a _ h]
  | .obj c a, b, h => by cases b <;> simp [D.beq] at h; rw [h.1, D.beqF_eq a _ h.2]
theorem D.beqs_eq : ∀ a b : List D, D.beqs a b = true → a = b
  | [], b, h => by cases b <;> first | rfl | simp [D.beqs] at h
  | a :: r, b, h => by
    cases b with
    | nil => simp [D.beqs] at h
    | cons b q =>
      simp [D.beqs] at h
      rw [D.beq_eq a b h.1, D.beqs_eq r q h.2]
theorem D.beqK_eq : ∀ a b : List (D × D), D.beqK a b = true → a = b
  | [], b, h => by cases b <;> first | rfl | simp [D.beqK] at h
  | (a, x) :: r, b, h => by
    cases b with
    | nil => simp [D.beqK] at h
    | cons b q =>
      obtain ⟨b, y⟩ := b
      simp [D.beqK] at h
      rw [D.beq_eq a b h.1.1, D.beq_eq x y h.1.2, D.beqK_eq r q h.2]
theorem D.beqF_eq : ∀ a b : List (Str × D), D.beqF a b = true → a = b
  | [], b, h => by cases b <;> first | rfl | simp [D.beqF] at h
  | (a, x) :: r, b, h => by
    cases b with
    | nil => simp [D.beqF] at h
    | cons b q =>
      obtain ⟨b, y⟩ := b
      simp [D.beqF] at h
      rw [h.1.1, D.beq_eq x y h.1.2, D.beqF_eq r q h.2]
end
instance : DecidableEq D := fun a b => if h : D.beq a b = true then isTrue (D.beq_eq a b h) else isFalse fun e => h (e ▸ D.beq_refl a)

abbrev Store := List (Option D)
abbrev DEnv := List (Option D)
/-- what an expression comes to: a value, or a new container that nobody else holds -/
inductive Wv where
  | val (d : D) | new (d : D)
def Wv.d : Wv → D
  | .val d => d
  | .new d => d
structure EX where
  cls : String
  row : Option D
inductive Res (α : Type) where
  | ok (a : α) (st : Store) | exc (x : EX) (st : Store) | stuck
def Res.bind {α β : Type} (r : Res α) (k : α → Store → Res β) : Res β :=
  match r with
  | .ok a st => k a st
  | .exc x st => .exc x st
  | .stuck => .stuck

/-- what the program's text has: the written part, the classes by name -/
structure Gx where
  K : PySem.W.Frag
  cm : String → Option Addr
  w : World

def Live (as : List Addr) (st : Store) (p : Addr) : Prop := ∃ (i : Nat) (d : D), as[i]? = some p ∧ st[i]? = some (some d)
def notMut : HO → Bool
  | .tup _ => true
  | .frz _ _ => true
  | .own _ => true
  | .met _ _ => true
  | .rng _ _ => true
  | .tbl _ => true
  | _ => false
def KLst (K : PySem.W.Frag) (p : Addr) (vs : List V) : Prop :=
  ∃ (o : Obj) (its : Array Value) (n : Nat), K.lookup p = some o ∧ o.cls = .type "list" ∧ o.dict = none ∧ o.data = .seq its n ∧ its.size ≤ sizeLine ∧ Vals vs its.toList

/-- an error of the class cls, made and raised once, at a; d: its own dict -/
def ErrO (cls : Value) (d : Option Addr) (a : Addr) : HO := .ext fun h => ∃ (oe : Obj) (vs : Array Value), h.get? a = some oe ∧ Zc cls d oe ∧ oe.data = .fields vs
theorem errO_ok {P : Program} {w : World} {H : Hp} {h : Heap} {a : Addr} {cls : Value} {d : Option Addr} {oe : Obj} {vs : Array Value} (e : h.get? a = some oe) (z : Zc cls d oe) (f : oe.data = .fields vs) : ObjOk P w H h a (ErrO cls d a) :=
  ⟨⟨oe, vs, e, z, f⟩, ⟨oe, e⟩, fun _ _ ⟨o, v, q, r⟩ k => ⟨o, v, k o q, r⟩⟩
/-! ### dicts -/
mutual
def dOf : NestedKey → D
  | .none => .non
  | .num i => .int i
  | .text x => .str x
  | .tup ks => .tup (dOfs ks)
def dOfs : List NestedKey → List D
  | [] => []
  | k :: ks => dOf k :: dOfs ks
end
/-- a key that is an int or a text -/
def keyD : Key → D
  | .inl i => .int i
  | .inr x => .str x
/-- a dict whose keys are tuples: its entries -/
def DicN (w : World) (xs : List (NestedKey × Addr × Value)) (a : Addr) : HO := .ext fun h => (a == sysModules) = false ∧ xs.length ≤ sizeLine ∧ (xs.map (·.1)).Nodup ∧ (∀ x ∈ xs, x.1.depth ≤ 8) ∧
  ∃ (o : Obj) (es : Array DictEntry) (ep : Nat), h.get? a = some o ∧ o.ExactDict ∧ o.data = .dict es ep ∧ es.toList = xs.map fun x => (⟨x.1.hash w, .ref x.2.1, x.2.2⟩ : DictEntry)
mutual
inductive RelD (G : Gx) (as : List Addr) (L : Addr → Prop) (H : Hp) : D → V → Prop where
  | non : RelD G as L H .non .non
  | bl (b : Bool) : RelD G as L H (.bl b) (.bl b)
  | int (i : Int) : RelD G as L H (.int i) (.int i)
  | str (x : Str) : RelD G as L H (.str x) (.str x)
  | ty (n : String) : RelD G as L H (.ty n) (.ty n)
  | cl {c : String} {a : Addr} : G.cm c = some a → RelD G as L H (.cl c) (.ref a)
  | ref {n : Nat} {a : Addr} : as[n]? = some a → RelD G as L H (.ref n) (.ref a)
  | tup {ds : List D} {p : Addr} {vs : List V} : SqT G.K H p vs → RelDs G as L H ds vs → RelD G as L H (.tup ds) (.ref p)
  | lst {ds : List D} {p : Addr} {vs : List V} : Rd H p (.lst vs) → ¬ L p → RelDs G as L H ds vs → RelD G as L H (.lst ds) (.ref p)
  | lstK {ds : List D} {p : Addr} {vs : List V} : KLst G.K p vs → RelDs G as L H ds vs → RelD G as L H (.lst ds) (.ref p)
  | err {c : String} {C a : Addr} : G.cm c = some C → H a = some (ErrO (.ref C) none a) → ¬ L a → RelD G as L H (.dic [(.cl c, .non)]) (.ref a)
  | errR {c : String} {C a p : Addr} {d : D} {v : V} : G.cm c = some C → H a = some (ErrO (.ref C) (some p) a) → ¬ L a → H p = some (.xd [("row", v)]) → ¬ L p → RelD G as L H d v → RelD G as L H (.dic [(.cl c, .tup [d])]) (.ref a)
  | dic {kvs : List (D × D)} {p : Addr} : DicR G as L H kvs p → ¬ L p → RelD G as L H (.dic kvs) (.ref p)
  | obj {c : String} {C p dx : Addr} {fs : List (Str × D)} {vfs : List (Str × V)} : G.cm c = some C → H p = some (.ins C dx vfs) → H dx = some (.own p) → ¬ L p → RelFs G as L H fs vfs → RelD G as L H (.obj c fs) (.ref p)
inductive RelDs (G : Gx) (as : List Addr) (L : Addr → Prop) (H : Hp) : List D → List V → Prop where
  | nil : RelDs G as L H [] []
  | cons {d : D} {v : V} {ds : List D} {vs : List V} : RelD G as L H d v → RelDs G as L H ds vs → RelDs G as L H (d :: ds) (v :: vs)
/-- a dict at an address: its keys are ints and texts, or tuples -/
inductive DicR (G : Gx) (as : List Addr) (L : Addr → Prop) (H : Hp) : List (D × D) → Addr → Prop where
  | k {kvs : List (D × D)} {ks : List Key} {vs : List V} {a : Addr} : H a = some (.dK (ks.zip vs)) → kvs.map (·.1) = ks.map keyD → RelDs G as L H (kvs.map (·.2)) vs → DicR G as L H kvs a
  | n {kvs : List (D × D)} {xs : List (NestedKey × Addr × Value)} {vs : List V} {a : Addr} : H a = some (DicN G.w xs a) → kvs ≠ [] → kvs.map (·.1) = xs.map (fun x => dOf x.1) → RelDs G as L H (kvs.map (·.1)) (xs.map fun x => V.ref x.2.1) →
      RelDs G as L H (kvs.map (·.2)) vs → Vals vs (xs.map fun x => x.2.2) → DicR G as L H kvs a
inductive RelFs (G : Gx) (as : List Addr) (L : Addr → Prop) (H : Hp) : List (Str × D) → List (Str × V) → Prop where
  | nil : RelFs G as L H [] []
  | cons {f : Str} {d : D} {v : V} {fs : List (Str × D)} {vs : List (Str × V)} : RelD G as L H d v → RelFs G as L H fs vs → RelFs G as L H ((f, d) :: fs) ((f, v) :: vs)
end

structure Ext (as : List Addr) (st : Store) (H : Hp) (as' : List Addr) (st' : Store) (H' : Hp) : Prop where
  pre : as <+: as'
  new : ∀ (i : Nat) (a : Addr), as'[i]? = some a → as.length ≤ i → H a = none
  dead : ∀ i : Nat, st[i]? = some none → st'[i]? = some none
  len : st.length ≤ st'.length
  keep : ∀ b o, H b = some o → (¬ Live as st b ∨ notMut o = true) → H' b = some o
  there : ∀ b o, H b = some o → ∃ o', H' b = some o'

section
variable {G : Gx} {as as' as2 : List Addr} {st st' st2 : Store} {H H' H2 : Hp} {L L' : Addr → Prop}
theorem pre_get {i : Nat} {a : Addr} (h : as <+: as') (e : as[i]? = some a) : as'[i]? = some a := by
  obtain ⟨m, rfl⟩ := h
  obtain ⟨hi, _⟩ := List.getElem?_eq_some_iff.mp e
  rw [List.getElem?_append_left hi]; exact e
theorem Ext.back (e : Ext as st H as' st' H') (hl : as.length = st.length) {b : Addr} (hb : Live as' st' b) (hH : H b ≠ none) : Live as st b := by
  obtain ⟨i, d, h1, h2⟩ := hb
  by_cases hi : as.length ≤ i
  · exact absurd (e.new i b h1 hi) hH
  · have hi' : i < as.length := by omega
    obtain ⟨m, rfl⟩ := e.pre
    rw [List.getElem?_append_left hi'] at h1
    cases q : st[i]? with
    | none =>
      have := List.getElem?_eq_none_iff.mp q
      omega
    | some x =>
      cases x with
      | none =>
        rw [e.dead i q] at h2
        cases h2
      | some x => exact ⟨i, x, h1, q⟩
theorem Ext.rfl' : Ext as st H as st H := by
  refine ⟨List.prefix_refl _, fun i a h hi => ?_, fun _ h => h, Nat.le_refl _, fun _ _ h _ => h, fun _ o h => ⟨o, h⟩⟩
  rw [List.getElem?_eq_none_iff.mpr hi] at h
  cases h
theorem Ext.fresh (e : Ext as st H as' st' H') {p : Addr} (h : H' p = none) : H p = none := by
  cases q : H p with
  | none => rfl
  | some o =>
    obtain ⟨o', h'⟩ := e.there p o q
    rw [h] at h'; cases h'
theorem Ext.trans (a : Ext as st H as' st' H') (b : Ext as' st' H' as2 st2 H2) (hl : as.length = st.length) : Ext as st H as2 st2 H2 := by
  refine ⟨a.pre.trans b.pre, fun i x h hi => ?_, fun i h => b.dead i (a.dead i h), Nat.le_trans a.len b.len, fun c o h k => ?_, fun c o h => ?_⟩
  · by_cases h1 : as'.length ≤ i
    · exact a.fresh (b.new i x h h1)
    · obtain ⟨m, rfl⟩ := b.pre
      rw [List.getElem?_append_left (by omega)] at h
      exact a.new i x h hi
  · refine b.keep c o (a.keep c o h k) ?_
    rcases k with k | k
    · exact .inl fun z => k (a.back hl z (by rw [h]; exact fun q => nomatch q))
    · exact .inr k
  · obtain ⟨o1, h1⟩ := a.there c o h
    exact b.there c o1 h1

theorem sqT_mono {K : PySem.W.Frag} {p : Addr} {vs : List V} (hk : ∀ b o, H b = some o → (¬ L b ∨ notMut o = true) → H' b = some o) (h : SqT K H p vs) : SqT K H' p vs := by
  rcases h with (h | ⟨o, h⟩) | h
  · exact .inl (.inl (hk _ _ h (.inr rfl)))
  · exact .inl (.inr ⟨o, hk _ _ h (.inr rfl)⟩)
  · exact .inr h
mutual
theorem RelD.mono (hp : as <+: as') (hL : ∀ b, H b ≠ none → ¬ L b → ¬ L' b) (hk : ∀ b o, H b = some o → (¬ L b ∨ notMut o = true) → H' b = some o) : ∀ {d : D} {v : V}, RelD G as L H d v → RelD G as' L' H' d v
  | _, _, .non => .non
  | _, _, .bl b => .bl b
  | _, _, .int i => .int i
  | _, _, .str x => .str x
  | _, _, .ty n => .ty n
  | _, _, .cl h => .cl h
  | _, _, .ref h => .ref (pre_get hp h)
  | _, _, .tup h r => .tup (sqT_mono (L := L) hk h) (RelDs.mono hp hL hk r)
  | _, _, .lst h n r => .lst (by
      rcases h with h | ⟨o, h⟩
      · exact .inl (hk _ _ h (.inl n))
      · exact .inr ⟨o, hk _ _ h (.inr rfl)⟩) (hL _ (by
      rcases h with h | ⟨o, h⟩ <;> rw [h] <;> exact fun q => nomatch q) n) (RelDs.mono hp hL hk r)
  | _, _, .lstK h r => .lstK h (RelDs.mono hp hL hk r)
  | _, _, .err c h n => .err c (hk _ _ h (.inl n)) (hL _ (by rw [h]; exact fun q => nomatch q) n)
  | _, _, .errR c h n hp np r => .errR c (hk _ _ h (.inl n)) (hL _ (by rw [h]; exact fun q => nomatch q) n) (hk _ _ hp (.inl np)) (hL _ (by rw [hp]; exact fun q => nomatch q) np) (RelD.mono ‹_› hL hk r)
  | _, _, .dic h n => .dic (DicR.mono hp hL hk (by
      obtain ⟨o, e⟩ : ∃ o, H _ = some o := by cases h <;> exact ⟨_, ‹_›⟩
      rw [hk _ _ e (.inl n), e]) h) (hL _ (by cases h with | k e _ _ => (rw [e]; exact fun q => nomatch q) | n e _ _ _ _ _ => (rw [e]; exact fun q => nomatch q)) n)
  | _, _, .obj c h1 h2 n r => .obj c (hk _ _ h1 (.inl n)) (hk _ _ h2 (.inr rfl)) (hL _ (by rw [h1]; exact fun q => nomatch q) n) (RelFs.mono hp hL hk r)
theorem RelDs.mono (hp : as <+: as') (hL : ∀ b, H b ≠ none → ¬ L b → ¬ L' b) (hk : ∀ b o, H b = some o → (¬ L b ∨ notMut o = true) → H' b = some o) : ∀ {ds : List D} {vs : List V}, RelDs G as L H ds vs → RelDs G as' L' H' ds vs
  | _, _, .nil => .nil
  | _, _, .cons r t => .cons (RelD.mono hp hL hk r) (RelDs.mono hp hL hk t)
theorem DicR.mono (hp : as <+: as') (hL : ∀ b, H b ≠ none → ¬ L b → ¬ L' b) (hk : ∀ b o, H b = some o → (¬ L b ∨ notMut o = true) → H' b = some o) : ∀ {kvs : List (D × D)} {a : Addr}, H' a = H a → DicR G as L H kvs a → DicR G as' L' H' kvs a
  | _, _, ha, .k h e r => .k (ha.trans h) e (RelDs.mono hp hL hk r)
  | _, _, ha, .n h z e r1 r2 v => .n (ha.trans h) z e (RelDs.mono hp hL hk r1) (RelDs.mono hp hL hk r2) v
theorem RelFs.mono (hp : as <+: as') (hL : ∀ b, H b ≠ none → ¬ L b → ¬ L' b) (hk : ∀ b o, H b = some o → (¬ L b ∨ notMut o = true) → H' b = some o) : ∀ {ds : List (Str × D)} {vs : List (Str × V)}, RelFs G as L H ds vs → RelFs G as' L' H' ds vs
  | _, _, .nil => .nil
  | _, _, .cons r t => .cons (RelD.mono hp hL hk r) (RelFs.mono hp hL hk t)
end
end

/-- a container at an address, with its content -/
def CellR (G : Gx) (as : List Addr) (L : Addr → Prop) (H : Hp) (a : Addr) : D → Prop
  | .lst ds => ∃ vs, H a = some (.lst vs) ∧ RelDs G as L H ds vs
  | .dic kvs => DicR G as L H kvs a
  | .obj c fs => ∃ C dx vfs, G.cm c = some C ∧ H a = some (.ins C dx vfs) ∧ H dx = some (.own a) ∧ RelFs G as L H fs vfs
  | _ => False
structure StRL (G : Gx) (as : List Addr) (L : Addr → Prop) (st : Store) (H : Hp) : Prop where
  len : as.length = st.length
  nd : as.Nodup
  cells : ∀ (i : Nat) (d : D), st[i]? = some (some d) → ∃ a, as[i]? = some a ∧ CellR G as L H a d
  there : ∀ (i : Nat) (a : Addr), as[i]? = some a → H a ≠ none
abbrev StR (G : Gx) (as : List Addr) (st : Store) (H : Hp) : Prop := StRL G as (Live as st) st H
/-- H0: ahead of it; a new one is held by nobody -/
def RelW (G : Gx) (H0 : Hp) (as : List Addr) (st : Store) (H : Hp) : Wv → V → Prop
  | .val d, v => RelD G as (Live as st) H d v
  | .new d, v => ∃ p, v = .ref p ∧ H0 p = none ∧ (∀ i : Nat, as[i]? ≠ some p) ∧ CellR G as (fun b => Live as st b ∨ b = p) H p d ∧ StRL G as (fun b => Live as st b ∨ b = p) st H
def EnvR (G : Gx) (as : List Addr) (L : Addr → Prop) (H : Hp) (env : DEnv) (σ : L2.St) : Prop :=
  env.length = σ.length ∧ ∀ (i : Nat) (d : D), env[i]? = some (some d) → ∃ v, σ[i]? = some (some v) ∧ RelD G as L H d v
section
variable {G : Gx} {as as' as2 : List Addr} {st st' st2 : Store} {H H' H2 H0 : Hp} {L L' : Addr → Prop}
theorem DicR.isMut {a : Addr} {kvs : List (D × D)} (h : DicR G as L H kvs a) : ∃ o, H a = some o ∧ notMut o = false := by
  cases h with
  | k e _ _ => exact ⟨_, e, rfl⟩
  | n e _ _ _ _ _ => exact ⟨_, e, rfl⟩
theorem CellR.there {a : Addr} {d : D} (h : CellR G as L H a d) : H a ≠ none := by
  cases d with
  | lst ds => obtain ⟨vs, e, _⟩ := h; rw [e]; exact fun q => nomatch q
  | dic kvs => obtain ⟨o, e, _⟩ := (show DicR G as L H kvs a from h).isMut; rw [e]; exact fun q => nomatch q
  | obj c fs => obtain ⟨C, dx, vfs, _, e, _⟩ := h; rw [e]; exact fun q => nomatch q
  | _ => exact False.elim h
theorem CellR.isMut {a : Addr} {d : D} (h : CellR G as L H a d) : ∃ o, H a = some o ∧ notMut o = false := by
  cases d with
  | lst ds => obtain ⟨vs, e, _⟩ := h; exact ⟨_, e, rfl⟩
  | dic kvs => exact (show DicR G as L H kvs a from h).isMut
  | obj c fs => obtain ⟨C, dx, vfs, _, e, _⟩ := h; exact ⟨_, e, rfl⟩
  | _ => exact False.elim h
theorem CellR.mono {a : Addr} {d : D} (hp : as <+: as') (hL : ∀ b, H b ≠ none → ¬ L b → ¬ L' b) (hk : ∀ b o, H b = some o → (¬ L b ∨ notMut o = true) → H' b = some o) (ha : H' a = H a) (h : CellR G as L H a d) : CellR G as' L' H' a d := by
  cases d with
  | lst ds => obtain ⟨vs, e, r⟩ := h; exact ⟨vs, ha.trans e, r.mono hp hL hk⟩
  | dic kvs => exact (show DicR G as L H kvs a from h).mono hp hL hk ha
  | obj c fs => obtain ⟨C, dx, vfs, c, e, e2, r⟩ := h; exact ⟨C, dx, vfs, c, ha.trans e, hk _ _ e2 (.inr rfl), r.mono hp hL hk⟩
  | _ => exact False.elim h
/-- a container that is no cell, as a value -/
theorem CellR.val {a : Addr} {d : D} (h : CellR G as L H a d) (n : ¬ L a) : RelD G as L H d (.ref a) := by
  cases d with
  | lst ds => obtain ⟨vs, e, r⟩ := h; exact .lst (.inl e) n r
  | dic kvs => exact .dic h n
  | obj c fs => obtain ⟨C, dx, vfs, c, e, e2, r⟩ := h; exact .obj c e e2 n r
  | _ => exact False.elim h
theorem CellR.lessL {a : Addr} {d : D} (h : CellR G as L H a d) (hL : ∀ b, L' b → L b) : CellR G as L' H a d :=
  h.mono (List.prefix_refl _) (fun b _ n z => n (hL b z)) (fun b o e k => e) rfl
theorem RelD.lessL {d : D} {v : V} (h : RelD G as L H d v) (hL : ∀ b, L' b → L b) : RelD G as L' H d v :=
  h.mono (List.prefix_refl _) (fun b _ n z => n (hL b z)) (fun b o e k => e)
theorem RelDs.lessL {d : List D} {v : List V} (h : RelDs G as L H d v) (hL : ∀ b, L' b → L b) : RelDs G as L' H d v :=
  h.mono (List.prefix_refl _) (fun b _ n z => n (hL b z)) (fun b o e k => e)
theorem RelW.d {w : Wv} {v : V} (h : RelW G H0 as st H w v) : RelD G as (Live as st) H w.d v := by
  cases w with
  | val d => exact h
  | new d => obtain ⟨p, rfl, _, n, c, _⟩ := h; exact (c.lessL fun b z => .inl z).val fun ⟨i, _, h1, _⟩ => n i h1

theorem Ext.hL (e : Ext as st H as' st' H') (hl : as.length = st.length) : ∀ b, H b ≠ none → ¬ Live as st b → ¬ Live as' st' b := fun b hb n z => n (e.back hl z hb)
theorem RelD.ext {d : D} {v : V} (h : RelD G as (Live as st) H d v) (e : Ext as st H as' st' H') (hl : as.length = st.length) : RelD G as' (Live as' st') H' d v := h.mono e.pre (e.hL hl) e.keep
theorem RelDs.ext {d : List D} {v : List V} (h : RelDs G as (Live as st) H d v) (e : Ext as st H as' st' H') (hl : as.length = st.length) : RelDs G as' (Live as' st') H' d v := h.mono e.pre (e.hL hl) e.keep
theorem RelFs.ext {d : List (Str × D)} {v : List (Str × V)} (h : RelFs G as (Live as st) H d v) (e : Ext as st H as' st' H') (hl : as.length = st.length) : RelFs G as' (Live as' st') H' d v := h.mono e.pre (e.hL hl) e.keep
/-- fresh for what came ahead -/
theorem RelW.from {w : Wv} {v : V} {H1 : Hp} (h : RelW G H1 as st H w v) (e : ∀ p, H1 p = none → H0 p = none) : RelW G H0 as st H w v := by
  cases w with
  | val d => exact h
  | new d => obtain ⟨p, rfl, h0, r⟩ := h; exact ⟨p, rfl, e p h0, r⟩
theorem EnvR.ext {env : DEnv} {σ : L2.St} (h : EnvR G as (Live as st) H env σ) (e : Ext as st H as' st' H') (hl : as.length = st.length) : EnvR G as' (Live as' st') H' env σ :=
  ⟨h.1, fun i d hi => let ⟨v, h1, h2⟩ := h.2 i d hi; ⟨v, h1, h2.ext e hl⟩⟩
theorem EnvR.set {env : DEnv} {σ : L2.St} (h : EnvR G as L H env σ) {d : D} {v : V} (r : RelD G as L H d v) (i : Nat) : EnvR G as L H (env.set i (some d)) (σ.set i (some v)) := by
  refine ⟨by simpa using h.1, fun j d' hj => ?_⟩
  by_cases hij : i = j
  · subst hij
    by_cases hi : i < env.length
    · rw [List.getElem?_set_self hi] at hj
      cases hj
      exact ⟨v, by rw [List.getElem?_set_self (by rw [← h.1]; exact hi)], r⟩
    · have q : (env.set i (some d))[i]? = none := List.getElem?_eq_none_iff.mpr (by simp; omega)
      rw [q] at hj; cases hj
  · rw [List.getElem?_set_ne hij] at hj
    obtain ⟨v', h1, h2⟩ := h.2 j d' hj
    exact ⟨v', by rw [List.getElem?_set_ne hij]; exact h1, h2⟩
theorem EnvR.unset {env : DEnv} {σ : L2.St} (h : EnvR G as L H env σ) (i : Nat) : EnvR G as L H (env.set i none) (σ.set i none) := by
  refine ⟨by simpa using h.1, fun j d' hj => ?_⟩
  by_cases hij : i = j
  · subst hij
    by_cases hi : i < env.length
    · rw [List.getElem?_set_self hi] at hj
      cases hj
    · have q : (env.set i none)[i]? = none := List.getElem?_eq_none_iff.mpr (by simp; omega)
      rw [q] at hj; cases hj
  · rw [List.getElem?_set_ne hij] at hj
    obtain ⟨v', h1, h2⟩ := h.2 j d' hj
    exact ⟨v', by rw [List.getElem?_set_ne hij]; exact h1, h2⟩
def wipeD (env : DEnv) : List Nat → DEnv
  | [] => env
  | v :: vs => (wipeD env vs).set v none
theorem EnvR.wipe {env : DEnv} {σ : L2.St} (h : EnvR G as L H env σ) : ∀ vs : List Nat, EnvR G as L H (wipeD env vs) (wipe σ vs)
  | [] => h
  | v :: vs => (EnvR.wipe h vs).unset v

/-! ### new objects, written objects -/
/-- something new is laid that is no cell -/
theorem Ext.lay {p : Addr} {o : HO} (hp : H p = none) : Ext as st H as st (upd H p o) := by
  refine ⟨List.prefix_refl _, fun i a h hi => ?_, fun _ h => h, Nat.le_refl _, fun b u h _ => ?_, fun b u h => ?_⟩
  · rw [List.getElem?_eq_none_iff.mpr hi] at h
    cases h
  · rw [upd_ne (ne_of_none h hp)]; exact h
  · exact ⟨u, by rw [upd_ne (ne_of_none h hp)]; exact h⟩
theorem notLive {p : Addr} (s : StRL G as L st H) (hp : H p = none) : ∀ i : Nat, as[i]? ≠ some p := fun i h1 => s.there i p h1 hp
theorem StR.lay (s : StR G as st H) {p : Addr} {o : HO} (hp : H p = none) : StRL G as (fun b => Live as st b ∨ b = p) st (upd H p o) := by
  refine ⟨s.len, s.nd, fun i d h => ?_, fun i a h => ?_⟩
  · obtain ⟨a, h1, c⟩ := s.cells i d h
    have ne : a ≠ p := fun q => by
      have := c.there
      rw [q] at this; exact this hp
    refine ⟨a, h1, c.mono (List.prefix_refl _) (fun b hb n z => ?_) (fun b u e _ => by rw [upd_ne (ne_of_none e hp)]; exact e) (upd_ne ne)⟩
    rcases z with z | z
    · exact n z
    · exact hb (by rw [z]; exact hp)
  · have := s.there i a h
    intro q
    by_cases ha : a = p
    · rw [ha] at this; exact this hp
    · rw [upd_ne ha] at q; exact this q
theorem StRL.less {L' : Addr → Prop} (s : StRL G as L st H) (h : ∀ b, L' b → L b) : StRL G as L' st H :=
  ⟨s.len, s.nd, fun i d e => let ⟨a, h1, c⟩ := s.cells i d e; ⟨a, h1, c.lessL h⟩, s.there⟩
theorem StR.laid (s : StR G as st H) {p : Addr} {o : HO} (hp : H p = none) : StR G as st (upd H p o) := (s.lay hp).less fun _ z => .inl z
/-- a container that is no cell becomes one -/
theorem Ext.reg {p : Addr} {d : D} (hl : as.length = st.length) (hp : H0 p = none) (e : Ext as st H0 as st H) : Ext as st H0 (as ++ [p]) (st ++ [some d]) H := by
  refine ⟨⟨[p], rfl⟩, fun i a h hi => ?_, fun i h => ?_, by simp, e.keep, e.there⟩
  · by_cases hi2 : i = as.length
    · subst hi2
      simp at h
      rw [← h]; exact hp
    · rw [List.getElem?_append_right (by omega)] at h
      have : ([p] : List Addr)[i - as.length]? = none := List.getElem?_eq_none_iff.mpr (by simp; omega)
      rw [this] at h; cases h
  · obtain ⟨hi, _⟩ := List.getElem?_eq_some_iff.mp h
    rw [List.getElem?_append_left hi]; exact h
theorem live_reg (hl : as.length = st.length) {p b : Addr} {d : D} : Live (as ++ [p]) (st ++ [some d]) b → Live as st b ∨ b = p := by
  rintro ⟨i, d', h1, h2⟩
  by_cases hi : i < as.length
  · rw [List.getElem?_append_left hi] at h1
    rw [List.getElem?_append_left (by omega)] at h2
    exact .inl ⟨i, d', h1, h2⟩
  · rw [List.getElem?_append_right (by omega)] at h1
    by_cases h0 : i - as.length = 0
    · rw [h0] at h1
      exact .inr (Option.some.inj h1).symm
    · rw [show ([p] : List Addr)[i - as.length]? = none from List.getElem?_eq_none_iff.mpr (by simp; omega)] at h1
      cases h1
theorem StRL.reg {p : Addr} {d : D} (s : StRL G as (fun b => Live as st b ∨ b = p) st H) (n : ∀ i : Nat, as[i]? ≠ some p) (c : CellR G as (fun b => Live as st b ∨ b = p) H p d) : StR G (as ++ [p]) (st ++ [some d]) H := by
  have hp : as <+: as ++ [p] := ⟨[p], rfl⟩
  have up : ∀ {a : Addr} {d' : D}, CellR G as (fun b => Live as st b ∨ b = p) H a d' → CellR G (as ++ [p]) (Live (as ++ [p]) (st ++ [some d])) H a d' := fun c =>
    c.mono hp (fun b _ nb z => nb (live_reg s.len z)) (fun b o e _ => e) rfl
  refine ⟨by simp [s.len], ?_, fun i d' h => ?_, fun i a h => ?_⟩
  · rw [List.nodup_append]
    refine ⟨s.nd, by simp, fun a ha b hb => ?_⟩
    rintro rfl
    obtain ⟨i, hi⟩ := List.getElem?_of_mem ha
    simp at hb
    rw [hb] at hi
    exact n i hi
  · by_cases hi : i < st.length
    · rw [List.getElem?_append_left hi] at h
      obtain ⟨a, h1, c'⟩ := s.cells i d' h
      exact ⟨a, pre_get hp h1, up c'⟩
    · rw [List.getElem?_append_right (by omega)] at h
      by_cases h0 : i - st.length = 0
      · rw [h0] at h
        have e : some d = some d' := Option.some.inj h
        cases e
        refine ⟨p, ?_, up c⟩
        rw [List.getElem?_append_right (by have := s.len; omega), show i - as.length = 0 by have := s.len; omega]
        rfl
      · rw [show ([some d] : Store)[i - st.length]? = none from List.getElem?_eq_none_iff.mpr (by simp; omega)] at h
        cases h
  · by_cases hi : i < as.length
    · rw [List.getElem?_append_left hi] at h
      exact s.there i a h
    · rw [List.getElem?_append_right (by omega)] at h
      by_cases h0 : i - as.length = 0
      · rw [h0] at h
        have e : p = a := Option.some.inj h
        rw [← e]; exact c.there
      · rw [show ([p] : List Addr)[i - as.length]? = none from List.getElem?_eq_none_iff.mpr (by simp; omega)] at h
        cases h
/-- a cell is written -/
theorem live_set {i : Nat} {d d0 : D} {b : Addr} (hi : st[i]? = some (some d0)) : Live as (st.set i (some d)) b ↔ Live as st b := by
  obtain ⟨hlt, _⟩ := List.getElem?_eq_some_iff.mp hi
  constructor
  · rintro ⟨j, d', h1, h2⟩
    by_cases hj : i = j
    · subst hj; exact ⟨i, d0, h1, hi⟩
    · rw [List.getElem?_set_ne hj] at h2
      exact ⟨j, d', h1, h2⟩
  · rintro ⟨j, d', h1, h2⟩
    by_cases hj : i = j
    · subst hj; exact ⟨i, d, h1, List.getElem?_set_self hlt⟩
    · exact ⟨j, d', h1, by rw [List.getElem?_set_ne hj]; exact h2⟩
theorem StR.write {i : Nat} {a : Addr} {d0 d : D} {o : HO} (s : StR G as st H) (hi : st[i]? = some (some d0)) (ha : as[i]? = some a) (c : CellR G as (Live as st) (upd H a o) a d) :
    StR G as (st.set i (some d)) (upd H a o) ∧ Ext as st H as (st.set i (some d)) (upd H a o) := by
  have la : Live as st a := ⟨i, d0, ha, hi⟩
  obtain ⟨a', ha', c0⟩ := s.cells i d0 hi
  rw [ha] at ha'; cases ha'
  obtain ⟨o0, ho0, hm⟩ := c0.isMut
  have keep : ∀ b u, H b = some u → (¬ Live as st b ∨ notMut u = true) → upd H a o b = some u := fun b u e k => by
    have ne : b ≠ a := fun z => by
      subst z
      rcases k with k | k
      · exact k la
      · rw [ho0] at e; cases e; rw [hm] at k; cases k
    rw [upd_ne ne]; exact e
  have e : Ext as st H as (st.set i (some d)) (upd H a o) := by
    refine ⟨List.prefix_refl _, fun j b h hj => ?_, fun j h => ?_, by simp, keep, fun b u h => ?_⟩
    · rw [List.getElem?_eq_none_iff.mpr hj] at h; cases h
    · have hij : i ≠ j := fun z => by subst z; rw [hi] at h; cases h
      rw [List.getElem?_set_ne hij]; exact h
    · by_cases hb : b = a
      · exact ⟨o, by rw [hb, upd_same]⟩
      · exact ⟨u, by rw [upd_ne hb]; exact h⟩
  refine ⟨⟨by simp [s.len], s.nd, fun j d' h => ?_, fun j b h q => ?_⟩, e⟩
  · by_cases hij : i = j
    · subst hij
      obtain ⟨hlt, _⟩ := List.getElem?_eq_some_iff.mp hi
      rw [List.getElem?_set_self hlt] at h
      cases h
      exact ⟨a, ha, c.lessL fun b z => (live_set hi).mp z⟩
    · rw [List.getElem?_set_ne hij] at h
      obtain ⟨b, hb, c'⟩ := s.cells j d' h
      have ne : b ≠ a := fun z => by
        subst z
        exact hij (by
          obtain ⟨h1, e1⟩ := List.getElem?_eq_some_iff.mp ha
          obtain ⟨h2, e2⟩ := List.getElem?_eq_some_iff.mp hb
          exact (List.getElem_inj s.nd).mp (e1.trans e2.symm))
      exact ⟨b, hb, c'.mono e.pre (e.hL s.len) e.keep (upd_ne ne)⟩
  · have := s.there j b h
    by_cases hb : b = a
    · rw [hb, upd_same] at q; cases q
    · rw [upd_ne hb] at q; exact this q
end
end VI
namespace VI
open PySem PySem.Spec PyProof.Rows L2
abbrev EM := DEnv → Store → Res Wv
abbrev TM := DEnv → Store → Res Bool
abbrev AM := DEnv → Store → Res (List D)
def RelX (G : Gx) (as : List Addr) (st : Store) (H : Hp) (x : EX) (cv : Value) (xd : Option Addr) : Prop :=
  ∃ C, G.cm x.cls = some C ∧ cv = .ref C ∧ match x.row with
    | none => xd = none
    | some d => ∃ p v, xd = some p ∧ H p = some (.xd [("row", v)]) ∧ ¬ Live as st p ∧ RelD G as (Live as st) H d v
def Post (G : Gx) (E : XK) (as : List Addr) (st : Store) (H : Hp) {α : Type} (r : Res α) (R : α → List Addr → Store → Hp → Prop) : Prop :=
  match r with
  | .ok a st' => ∀ as' H', Ext as st H as' st' H' → StR G as' st' H' → R a as' st' H'
  | .exc x st' => ∀ as' H' cv xd, Ext as st H as' st' H' → StR G as' st' H' → RelX G as' st' H' x cv xd → E cv xd H'
  | .stuck => False
section
variable {G : Gx} {E : XK} {as as' : List Addr} {st st' : Store} {H H' : Hp} {α β : Type}
theorem Post.mono {r : Res α} {R R' : α → List Addr → Store → Hp → Prop} (h : Post G E as st H r R) (k : ∀ a as' st' H', Ext as st H as' st' H' → StR G as' st' H' → R a as' st' H' → R' a as' st' H') : Post G E as st H r R' := by
  cases r with
  | ok a st' => exact fun as' H' e s => k a as' st' H' e s (h as' H' e s)
  | exc x st' => exact h
  | stuck => exact h
theorem Post.bind {r : Res α} {k : α → Store → Res β} {R : β → List Addr → Store → Hp → Prop} (hl : as.length = st.length) (h : Post G E as st H (r.bind k) R) :
    Post G E as st H r (fun a as' st' H' => Post G E as' st' H' (k a st') R) := by
  cases r with
  | ok a st' =>
    intro as' H' e s
    have h : Post G E as st H (k a st') R := h
    cases q : k a st' with
    | ok b st2 =>
      rw [q] at h
      exact fun as2 H2 e2 s2 => h as2 H2 (e.trans e2 hl) s2
    | exc x st2 =>
      rw [q] at h
      exact fun as2 H2 cv xd e2 s2 r2 => h as2 H2 cv xd (e.trans e2 hl) s2 r2
    | stuck => rw [q] at h; exact h
  | exc x st' => exact h
  | stuck => exact h
/-- nothing happens -/
theorem Post.now {a : α} {R : α → List Addr → Store → Hp → Prop} (s : StR G as st H) (h : Post G E as st H (.ok a st) R) : R a as st H := h as H Ext.rfl' s
end
/-- what is wished of an exception, at these slots -/
abbrev eAt (E : WX) (σ : L2.St) : XK := fun cv xd H => E cv xd σ H
abbrev E0w : WX := fun _ _ _ _ => False
def tI (G : Gx) (E : WX) (m : EM) : TE := fun σ H Q => ∃ as st env, StR G as st H ∧ EnvR G as (Live as st) H env σ ∧ Post G (eAt E σ) as st H (m env st) fun w as' st' H' => ∀ v, RelW G H as' st' H' w v → Q v H'
def tT (G : Gx) (E : WX) (m : TM) : TT := fun σ H Q => ∃ as st env, StR G as st H ∧ EnvR G as (Live as st) H env σ ∧ Post G (eAt E σ) as st H (m env st) fun b as' st' H' => Q b H'
def tAr (G : Gx) (E : WX) (m : AM) : TA := fun σ H Q => ∃ as st env, StR G as st H ∧ EnvR G as (Live as st) H env σ ∧ Post G (eAt E σ) as st H (m env st) fun ds as' st' H' => ∀ vs, RelDs G as' (Live as' st') H' ds vs → Q vs H'
theorem _root_.L2.PE.vi {X : Cx} {e : Expr} {t t' : TE} (h : PE X e t) (k : ∀ σ H Q, t' σ H Q → t σ H Q) : PE X e t' := ⟨fun pins s σ H Q I q => h.run pins s σ H Q I (k σ H Q q)⟩
theorem _root_.L2.PT.vi {X : Cx} {e : Expr} {t t' : TT} (h : PT X e t) (k : ∀ σ H Q, t' σ H Q → t σ H Q) : PT X e t' := ⟨fun pins s σ H Q I q => h.run pins s σ H Q I (k σ H Q q)⟩
theorem _root_.L2.PW.vi {X : Cx} {e : Expr} {t t' : TT} (h : PW X e t) (k : ∀ σ H Q, t' σ H Q → t σ H Q) : PW X e t' := ⟨fun wh pins s σ H Q I q => h.run wh pins s σ H Q I (k σ H Q q)⟩
theorem _root_.L2.PA.vi {X : Cx} {e : List Expr} {t t' : TA} (h : PA X e t) (k : ∀ σ H Q, t' σ H Q → t σ H Q) : PA X e t' := ⟨fun pos pins s σ H Q I q => h.run pos pins s σ H Q I (k σ H Q q)⟩
theorem _root_.L2.PS.vi {X : Cx} {e : Stmt} {t t' : TS} (h : PS X e t) (k : ∀ D σ H, t' D σ H → t D σ H) : PS X e t' := ⟨fun pins s σ H D I q => h.run pins s σ H D I (k D σ H q)⟩
theorem _root_.L2.PSs.vi {X : Cx} {e : List Stmt} {t t' : TS} (h : PSs X e t) (k : ∀ D σ H, t' D σ H → t D σ H) : PSs X e t' := ⟨fun pins s σ H D I q => h.run pins s σ H D I (k D σ H q)⟩

/-! ### expressions -/
def evVar (i : Nat) : EM := fun env st => match env[i]? with
  | some (some d) => .ok (.val d) st
  | _ => .stuck
def evC (d : D) : EM := fun _ st => .ok (.val d) st
def ev1 (f : D → Store → Res Wv) (a : EM) : EM := fun env st => (a env st).bind fun w st1 => f w.d st1
def ev2 (f : D → D → Store → Res Wv) (a b : EM) : EM := fun env st => (a env st).bind fun w st1 => (b env st1).bind fun w2 st2 => f w.d w2.d st2
def evA (f : List D → Store → Res Wv) (a : AM) : EM := fun env st => (a env st).bind fun ds st1 => f ds st1
def evM (f : D → List D → Store → Res Wv) (o : EM) (a : AM) : EM := fun env st => (o env st).bind fun w st1 => (a env st1).bind fun ds st2 => f w.d ds st2
def anil : AM := fun _ st => .ok [] st
def acons (a : EM) (r : AM) : AM := fun env st => (a env st).bind fun w st1 => (r env st1).bind fun ds st2 => .ok (w.d :: ds) st2
/-- a value operation against a rule's question -/
def OpS (G : Gx) (E : WX) (f : D → D → Store → Res Wv) (r : R2) : Prop := ∀ (E' : XK) as st H d1 d2 x y Q, StR G as st H → RelD G as (Live as st) H d1 x → RelD G as (Live as st) H d2 y →
  Post G E' as st H (f d1 d2 st) (fun w as' st' H' => ∀ v, RelW G H as' st' H' w v → Q v H') → r x y H Q
def UnS (G : Gx) (E : WX) (f : D → Store → Res Wv) (r : V → Hp → VK → Prop) : Prop := ∀ (E' : XK) as st H d x Q, StR G as st H → RelD G as (Live as st) H d x →
  Post G E' as st H (f d st) (fun w as' st' H' => ∀ v, RelW G H as' st' H' w v → Q v H') → r x H Q
def CallS (G : Gx) (E : WX) (f : List D → Store → Res Wv) (r : List V → Hp → VK → Prop) : Prop := ∀ (E' : XK) as st H ds xs Q, StR G as st H → RelDs G as (Live as st) H ds xs →
  Post G E' as st H (f ds st) (fun w as' st' H' => ∀ v, RelW G H as' st' H' w v → Q v H') → r xs H Q
def MtS' (G : Gx) (E : WX) (f : D → List D → Store → Res Wv) (r : V → List V → Hp → VK → Prop) : Prop := ∀ (E' : XK) as st H d ds x xs Q, StR G as st H → RelD G as (Live as st) H d x → RelDs G as (Live as st) H ds xs →
  Post G E' as st H (f d ds st) (fun w as' st' H' => ∀ v, RelW G H as' st' H' w v → Q v H') → r x xs H Q
section
variable {G : Gx} {E : WX} {X : Cx} {σ : L2.St} {H : Hp} {Q : VK} {a b c e o : Expr} {es : List Expr} {pos : Pos} {ma mb mc : EM}
theorem fresh_of {as as' : List Addr} {st st' : Store} {H H' : Hp} (e : Ext as st H as' st' H') : ∀ p, H' p = none → H p = none := fun _ h => e.fresh h
theorem tI_var {i : Nat} (h : tI G E (evVar i) σ H Q) : tVar i σ H Q := by
  obtain ⟨as, st, env, s, er, p⟩ := h
  unfold evVar at p
  cases q : env[i]? with
  | none => rw [q] at p; exact p.elim
  | some o =>
    cases o with
    | none => rw [q] at p; exact p.elim
    | some d =>
      rw [q] at p
      obtain ⟨v, hv, r⟩ := er.2 i d q
      exact ⟨v, hv, p.now s v r⟩
theorem pI_var {i : Nat} {x : Str} (hN : X.N[i]? = some x) (hv : Vis X.env.scope x) (hd : (x == ("__debug__" : Str)) = false := by decide) (hcd : (x == ("__classdict__" : Str)) = false := by decide) : PE X (.Name x pos) (tI G E (evVar i)) :=
  (pe_var hN hv hd hcd).vi fun _ _ _ => tI_var
theorem pI_c {d : D} {v : V} (h : PE X e (tC v)) (r : ∀ as L H, RelD G as L H d v) : PE X e (tI G E (evC d)) := h.vi fun σ H Q ⟨as, st, env, s, er, p⟩ => p.now s v (r _ _ _)
theorem pI_int {i j} : PE X (.Constant (.int i) j pos) (tI G E (evC (.int i))) := pI_c pe_int fun _ _ _ => .int i
theorem pI_bl {b j} : PE X (.Constant (.bool b) j pos) (tI G E (evC (.bl b))) := pI_c pe_bl fun _ _ _ => .bl b
theorem pI_non {j} : PE X (.Constant .none j pos) (tI G E (evC .non)) := pI_c pe_non fun _ _ _ => .non
theorem pI_str {x j} : PE X (.Constant (.str x) j pos) (tI G E (evC (.str x))) := pI_c pe_str fun _ _ _ => .str x
theorem pI_gint {x : Str} {i : Int} (hg : Gl X x) (hm : ∃ t, X.mg x = some (.int i t)) (hd : (x == ("__debug__" : Str)) = false := by decide) : PE X (.Name x pos) (tI G E (evC (.int i))) := by
  obtain ⟨t, hm⟩ := hm
  exact pI_c (pe_glob (v := .int i) hg hm ⟨t, rfl⟩ hd) fun _ _ _ => .int i
theorem pI_gstr {x z : Str} (hg : Gl X x) (hm : ∃ t, X.mg x = some (.str z t)) (hd : (x == ("__debug__" : Str)) = false := by decide) : PE X (.Name x pos) (tI G E (evC (.str z))) := by
  obtain ⟨t, hm⟩ := hm
  exact pI_c (pe_glob (v := .str z) hg hm ⟨t, rfl⟩ hd) fun _ _ _ => .str z
theorem pI_ty {x : Str} {n : String} (hg : Gl X x) (hm : X.mg x = none) (hv : bootBuiltins x = some (.type n)) (hn : x ≠ "__name__" := by decide) (hd : (x == ("__debug__" : Str)) = false := by decide) : PE X (.Name x pos) (tI G E (evC (.ty n))) :=
  pI_c (pe_bltn (v := .ty n) hg hm hv rfl hn hd) fun _ _ _ => .ty n
theorem pI_cls {x : Str} {c : String} {C : Addr} (hg : Gl X x) (hm : X.mg x = some (.ref C)) (hc : G.cm c = some C) (hd : (x == ("__debug__" : Str)) = false := by decide) : PE X (.Name x pos) (tI G E (evC (.cl c))) :=
  pI_c (pe_glob (v := .ref C) hg hm rfl hd) fun _ _ _ => .cl hc
theorem tI_ev2 {f : D → D → Store → Res Wv} {r : R2} (hs : OpS G E f r) (h : tI G E (ev2 f ma mb) σ H Q) : tOp r (tI G E ma) (tI G E mb) σ H Q := by
  obtain ⟨as, st, env, s, er, p⟩ := h
  refine ⟨as, st, env, s, er, (p.bind s.len).mono fun w as1 st1 H1 e1 s1 p1 v1 r1 => ?_⟩
  refine ⟨as1, st1, env, s1, er.ext e1 s.len, (p1.bind s1.len).mono fun w2 as2 st2 H2 e2 s2 p2 v2 r2 => ?_⟩
  exact hs _ as2 st2 H2 _ _ _ _ _ s2 (r1.d.ext e2 s1.len) r2.d (p2.mono fun w as3 st3 H3 e3 s3 q v rv => q v (rv.from fun x hx => (e1.fresh (e2.fresh hx))))
theorem pI_op {op : Operator} {f : D → D → Store → Res Wv} {r : R2} (ho : OpR X (binaryOp op) r) (hs : OpS G E f r) (ha : PE X a (tI G E ma)) (hb : PE X b (tI G E mb)) : PE X (.BinOp a op b pos) (tI G E (ev2 f ma mb)) :=
  (pe_op ho ha hb).vi fun _ _ _ => tI_ev2 hs
theorem pI_cmp {op : CmpOp} {f : D → D → Store → Res Wv} {r : R2} (ho : OpR X (compareOp op) r) (hs : OpS G E f r) (ha : PE X a (tI G E ma)) (hb : PE X b (tI G E mb)) (hm : behindInMarks op b = false) : PE X (.Compare a [op] [b] pos) (tI G E (ev2 f ma mb)) :=
  (pe_cmpR ho ha hb hm).vi fun _ _ _ => tI_ev2 hs
theorem pI_ix {f : D → D → Store → Res Wv} {r : R2} (ho : IxR X r) (hs : OpS G E f r) (ha : PE X a (tI G E ma)) (hb : PE X b (tI G E mb)) (hx : PlainIx b) : PE X (.Subscript a b pos) (tI G E (ev2 f ma mb)) :=
  (pe_ix ho ha hb hx).vi fun _ _ _ => tI_ev2 hs
theorem tI_ev1 {f : D → Store → Res Wv} {r : V → Hp → VK → Prop} (hs : UnS G E f r) (h : tI G E (ev1 f ma) σ H Q) : tUn r (tI G E ma) σ H Q := by
  obtain ⟨as, st, env, s, er, p⟩ := h
  refine ⟨as, st, env, s, er, (p.bind s.len).mono fun w as1 st1 H1 e1 s1 p1 v1 r1 => ?_⟩
  exact hs _ as1 st1 H1 _ _ _ s1 r1.d (p1.mono fun w as3 st3 H3 e3 s3 q v rv => q v (rv.from (fresh_of e1)))
theorem pI_un {op : UnaryOp} {f : D → Store → Res Wv} {r : V → Hp → VK → Prop} (ho : UnR X (unaryOp op) r) (hs : UnS G E f r) (ha : PE X a (tI G E ma)) : PE X (.UnaryOp op a pos) (tI G E (ev1 f ma)) :=
  (pe_un ho ha).vi fun _ _ _ => tI_ev1 hs
theorem pI_nil : PA X [] (tAr G E anil) := pa_nil.vi fun σ H Q ⟨as, st, env, s, er, p⟩ => p.now s [] .nil
theorem pI_cons {m : AM} (ha : PE X e (tI G E ma)) (hr : PA X es (tAr G E m)) (hs : starEach (e :: es) X.env = (false, eval e X.env) :: starEach es X.env := by rfl) : PA X (e :: es) (tAr G E (acons ma m)) := by
  refine (pa_cons ha hr hs).vi fun σ H Q h => ?_
  obtain ⟨as, st, env, s, er, p⟩ := h
  refine ⟨as, st, env, s, er, (p.bind s.len).mono fun w as1 st1 H1 e1 s1 p1 v1 r1 => ?_⟩
  refine ⟨as1, st1, env, s1, er.ext e1 s.len, (p1.bind s1.len).mono fun ds as2 st2 H2 e2 s2 p2 vs r2 => ?_⟩
  exact p2.now s2 _ (.cons (r1.d.ext e2 s1.len) r2)
theorem tI_evA {m : AM} {f : List D → Store → Res Wv} {r : List V → Hp → VK → Prop} (hs : CallS G E f r) (h : tI G E (evA f m) σ H Q) : tCB r (tAr G E m) σ H Q := by
  obtain ⟨as, st, env, s, er, p⟩ := h
  refine ⟨as, st, env, s, er, (p.bind s.len).mono fun ds as1 st1 H1 e1 s1 p1 vs r1 => ?_⟩
  exact hs _ as1 st1 H1 _ _ _ s1 r1 (p1.mono fun w as3 st3 H3 e3 s3 q v rv => q v (rv.from (fresh_of e1)))
theorem pI_callB {m : AM} {x : Str} {id : String} {p : Pos} {f : List D → Store → Res Wv} {r : List V → Hp → VK → Prop} (hc : CallR X (.builtin id) r) (hs : CallS G E f r) (hg : Gl X x) (hm : X.mg x = none) (hv : bootBuiltins x = some (.builtin id)) (ha : PA X (e :: es) (tAr G E m))
    (hn : x ≠ "__name__" := by decide) (hdb : (x == ("__debug__" : Str)) = false := by decide) (he : starEach (e :: es) X.env = (false, eval e X.env) :: starEach es X.env := by rfl) (hpl : (backTo pos (starEach es X.env)).any (·.1) = false := by rfl) : PE X (.Call (.Name x p) (e :: es) [] pos) (tI G E (evA f m)) :=
  (pe_callB hc hg hm hv ha hn hdb he hpl).vi fun _ _ _ => tI_evA hs
theorem pI_callTy {m : AM} {x : Str} {T : String} {p : Pos} {f : List D → Store → Res Wv} {r : List V → Hp → VK → Prop} (hc : CallR X (.type T) r) (hs : CallS G E f r) (hg : Gl X x) (hm : X.mg x = none) (hv : bootBuiltins x = some (.type T)) (ha : PA X (e :: es) (tAr G E m))
    (hn : x ≠ "__name__" := by decide) (hdb : (x == ("__debug__" : Str)) = false := by decide) (he : starEach (e :: es) X.env = (false, eval e X.env) :: starEach es X.env := by rfl) (hpl : (backTo pos (starEach es X.env)).any (·.1) = false := by rfl) : PE X (.Call (.Name x p) (e :: es) [] pos) (tI G E (evA f m)) :=
  (pe_callTy hc hg hm hv ha hn hdb he hpl).vi fun _ _ _ => tI_evA hs

/-! ### tests, and, or, not, if, chains -/
def tvB (m : EM) : TM := fun env st => (m env st).bind fun w st1 => match w.d with
  | .bl b => .ok b st1
  | _ => .stuck
def tvNot (t : TM) : TM := fun env st => (t env st).bind fun b st1 => .ok (!b) st1
def tvAnd (t u : TM) : TM := fun env st => (t env st).bind fun b st1 => if b = true then u env st1 else .ok false st1
def tvOr (t u : TM) : TM := fun env st => (t env st).bind fun b st1 => if b = true then .ok true st1 else u env st1
def evNot (a : EM) : EM := fun env st => (a env st).bind fun w st1 => match w.d with
  | .bl b => .ok (.val (.bl (!b))) st1
  | _ => .stuck
def evAnd (a b : EM) : EM := fun env st => (a env st).bind fun w st1 => match w.d with
  | .bl true => b env st1
  | .bl false => .ok (.val (.bl false)) st1
  | _ => .stuck
def evOr (a b : EM) : EM := fun env st => (a env st).bind fun w st1 => match w.d with
  | .bl true => .ok (.val (.bl true)) st1
  | .bl false => b env st1
  | _ => .stuck
def evIf (t : TM) (a b : EM) : EM := fun env st => (t env st).bind fun c st1 => if c = true then a env st1 else b env st1
def evCh (f g : D → D → Store → Res Wv) (a b c : EM) : EM := fun env st => (a env st).bind fun w1 st1 => (b env st1).bind fun w2 st2 => (f w1.d w2.d st2).bind fun w3 st3 => match w3.d with
  | .bl true => (c env st3).bind fun w4 st4 => g w2.d w4.d st4
  | .bl false => .ok (.val (.bl false)) st3
  | _ => .stuck
theorem RelD.isBl {as : List Addr} {L : Addr → Prop} {H : Hp} {b : Bool} {v : V} (h : RelD G as L H (.bl b) v) : v = .bl b := by cases h; rfl
theorem RelD.isInt {as : List Addr} {L : Addr → Prop} {H : Hp} {b : Int} {v : V} (h : RelD G as L H (.int b) v) : v = .int b := by cases h; rfl
theorem RelD.isStr {as : List Addr} {L : Addr → Prop} {H : Hp} {b : Str} {v : V} (h : RelD G as L H (.str b) v) : v = .str b := by cases h; rfl
theorem RelD.isNon {as : List Addr} {L : Addr → Prop} {H : Hp} {v : V} (h : RelD G as L H .non v) : v = .non := by cases h; rfl
theorem RelD.isTy {as : List Addr} {L : Addr → Prop} {H : Hp} {b : String} {v : V} (h : RelD G as L H (.ty b) v) : v = .ty b := by cases h; rfl
theorem tT_tvB {Q : Bool → Hp → Prop} (h : tT G E (tvB ma) σ H Q) : tI G E ma σ H fun x H1 => ∃ k, x = .bl k ∧ Q k H1 := by
  obtain ⟨as, st, env, s, er, p⟩ := h
  refine ⟨as, st, env, s, er, (p.bind s.len).mono fun w as1 st1 H1 e1 s1 p1 v1 r1 => ?_⟩
  have r := r1.d
  cases q : w.d with
  | bl b =>
    simp only [q] at p1
    rw [q] at r
    exact ⟨b, r.isBl, p1.now s1⟩
  | _ => simp only [q] at p1; exact p1.elim
theorem pT_val (h : PE X e (tI G E ma)) (he : ∀ whole, isTrue e X.env whole = (do let v ← whole; standAt e.pos; holding [v] (truthy v)) := by intro _; rfl) : PT X e (tT G E (tvB ma)) :=
  (pt_val h he).vi fun _ _ _ => tT_tvB
theorem pT_cmp {op : CmpOp} {f : D → D → Store → Res Wv} {r : R2} (ho : OpR X (compareOp op) r) (hs : OpS G E f r) (ha : PE X a (tI G E ma)) (hb : PE X b (tI G E mb)) (hm : behindInMarks op b = false) : PT X (.Compare a [op] [b] pos) (tT G E (tvB (ev2 f ma mb))) :=
  (pt_cmpR ho ha hb hm).vi fun _ _ _ h => tI_ev2 hs (tT_tvB h)
variable {ta tb : TM} {rest : List Expr}
theorem pT_not (h : PT X a (tT G E ta)) : PT X (.UnaryOp .Not a pos) (tT G E (tvNot ta)) := (pt_not h).vi fun σ H Q ⟨as, st, env, s, er, p⟩ =>
  ⟨as, st, env, s, er, (p.bind s.len).mono fun b as1 st1 H1 e1 s1 p1 => p1.now s1⟩
theorem pW_and1 (h : PT X a (tT G E ta)) : PW X (.BoolOp .And [a] pos) (tT G E ta) := pw_and1 h
theorem pW_or1 (h : PT X a (tT G E ta)) : PW X (.BoolOp .Or [a] pos) (tT G E ta) := pw_or1 h
theorem tT_and {Q : Bool → Hp → Prop} (h : tT G E (tvAnd ta tb) σ H Q) : tAnd (tT G E ta) (tT G E tb) σ H Q := by
  obtain ⟨as, st, env, s, er, p⟩ := h
  refine ⟨as, st, env, s, er, (p.bind s.len).mono fun c as1 st1 H1 e1 s1 p1 => ?_⟩
  cases c with
  | true =>
    rw [if_pos rfl] at p1 ⊢
    exact ⟨as1, st1, env, s1, er.ext e1 s.len, p1⟩
  | false =>
    rw [if_neg Bool.false_ne_true] at p1 ⊢
    exact p1.now s1
theorem tT_or {Q : Bool → Hp → Prop} (h : tT G E (tvOr ta tb) σ H Q) : tOr (tT G E ta) (tT G E tb) σ H Q := by
  obtain ⟨as, st, env, s, er, p⟩ := h
  refine ⟨as, st, env, s, er, (p.bind s.len).mono fun c as1 st1 H1 e1 s1 p1 => ?_⟩
  cases c with
  | true =>
    rw [if_pos rfl] at p1 ⊢
    exact p1.now s1
  | false =>
    rw [if_neg Bool.false_ne_true] at p1 ⊢
    exact ⟨as1, st1, env, s1, er.ext e1 s.len, p1⟩
theorem pW_and (h : PT X a (tT G E ta)) (hb : PW X (.BoolOp .And (b :: rest) pos) (tT G E tb)) : PW X (.BoolOp .And (a :: b :: rest) pos) (tT G E (tvAnd ta tb)) := (pw_and h hb).vi fun _ _ _ => tT_and
theorem pW_or (h : PT X a (tT G E ta)) (hb : PW X (.BoolOp .Or (b :: rest) pos) (tT G E tb)) : PW X (.BoolOp .Or (a :: b :: rest) pos) (tT G E (tvOr ta tb)) := (pw_or h hb).vi fun _ _ _ => tT_or
theorem pI_one {op} (h : PE X a (tI G E ma)) : PE X (.BoolOp op [a] pos) (tI G E ma) := pe_one h
theorem pI_not (h : PE X a (tI G E ma)) : PE X (.UnaryOp .Not a pos) (tI G E (evNot ma)) := (pe_not h).vi fun σ H Q ⟨as, st, env, s, er, p⟩ =>
  ⟨as, st, env, s, er, (p.bind s.len).mono fun w as1 st1 H1 e1 s1 p1 v1 r1 => by
    have r := r1.d
    cases q : w.d with
    | bl b =>
      simp only [q] at p1
      rw [q] at r
      exact ⟨b, r.isBl, p1.now s1 _ (.bl _)⟩
    | _ => simp only [q] at p1; exact p1.elim⟩
theorem pI_and (h : PE X a (tI G E ma)) (hb : PE X (.BoolOp .And (b :: rest) pos) (tI G E mb)) : PE X (.BoolOp .And (a :: b :: rest) pos) (tI G E (evAnd ma mb)) := (pe_and h hb).vi fun σ H Q ⟨as, st, env, s, er, p⟩ =>
  ⟨as, st, env, s, er, (p.bind s.len).mono fun w as1 st1 H1 e1 s1 p1 v1 r1 => by
    have r := r1.d
    cases q : w.d with
    | bl b =>
      simp only [q] at p1
      rw [q] at r
      refine ⟨b, r.isBl, ?_⟩
      cases b with
      | true =>
        rw [if_pos rfl]
        exact ⟨as1, st1, env, s1, er.ext e1 s.len, p1.mono fun w2 as2 st2 H2 e2 s2 p2 v2 r2 => p2 v2 (r2.from (fresh_of e1))⟩
      | false =>
        rw [if_neg Bool.false_ne_true]
        exact p1.now s1 _ (.bl _)
    | _ => simp only [q] at p1; exact p1.elim⟩
theorem pI_or (h : PE X a (tI G E ma)) (hb : PE X (.BoolOp .Or (b :: rest) pos) (tI G E mb)) : PE X (.BoolOp .Or (a :: b :: rest) pos) (tI G E (evOr ma mb)) := (pe_or h hb).vi fun σ H Q ⟨as, st, env, s, er, p⟩ =>
  ⟨as, st, env, s, er, (p.bind s.len).mono fun w as1 st1 H1 e1 s1 p1 v1 r1 => by
    have r := r1.d
    cases q : w.d with
    | bl b =>
      simp only [q] at p1
      rw [q] at r
      refine ⟨b, r.isBl, ?_⟩
      cases b with
      | false =>
        rw [if_neg Bool.false_ne_true]
        exact ⟨as1, st1, env, s1, er.ext e1 s.len, p1.mono fun w2 as2 st2 H2 e2 s2 p2 v2 r2 => p2 v2 (r2.from (fresh_of e1))⟩
      | true =>
        rw [if_pos rfl]
        exact p1.now s1 _ (.bl _)
    | _ => simp only [q] at p1; exact p1.elim⟩
theorem pI_if (hc : PT X c (tT G E ta)) (h : PE X a (tI G E ma)) (hb : PE X b (tI G E mb)) : PE X (.IfExp c a b pos) (tI G E (evIf ta ma mb)) := (pe_ifExp hc h hb).vi fun σ H Q ⟨as, st, env, s, er, p⟩ =>
  ⟨as, st, env, s, er, (p.bind s.len).mono fun k as1 st1 H1 e1 s1 p1 => by
    cases k with
    | true =>
      rw [if_pos rfl] at p1 ⊢
      exact ⟨as1, st1, env, s1, er.ext e1 s.len, p1.mono fun w2 as2 st2 H2 e2 s2 p2 v2 r2 => p2 v2 (r2.from (fresh_of e1))⟩
    | false =>
      rw [if_neg Bool.false_ne_true] at p1 ⊢
      exact ⟨as1, st1, env, s1, er.ext e1 s.len, p1.mono fun w2 as2 st2 H2 e2 s2 p2 v2 r2 => p2 v2 (r2.from (fresh_of e1))⟩⟩
theorem tI_evCh {f g : D → D → Store → Res Wv} {r r' : R2} (hs : OpS G E f r) (hs' : OpS G E g r') (h : tI G E (evCh f g ma mb mc) σ H Q) : tChain r r' (tI G E ma) (tI G E mb) (tI G E mc) σ H Q := by
  obtain ⟨as, st, env, s, er, p⟩ := h
  refine ⟨as, st, env, s, er, (p.bind s.len).mono fun w as1 st1 H1 e1 s1 p1 v1 r1 => ?_⟩
  refine ⟨as1, st1, env, s1, er.ext e1 s.len, (p1.bind s1.len).mono fun w2 as2 st2 H2 e2 s2 p2 v2 r2 => ?_⟩
  refine hs _ as2 st2 H2 _ _ _ _ _ s2 (r1.d.ext e2 s1.len) r2.d ((p2.bind s2.len).mono fun w3 as3 st3 H3 e3 s3 p3 v3 r3 => ?_)
  have rr := r3.d
  cases q : w3.d with
  | bl b =>
    simp only [q] at p3
    rw [q] at rr
    refine ⟨b, rr.isBl, ?_⟩
    cases b with
    | true =>
      rw [if_pos rfl]
      refine ⟨as3, st3, env, s3, ((er.ext e1 s.len).ext e2 s1.len).ext e3 s2.len, (p3.bind s3.len).mono fun w4 as4 st4 H4 e4 s4 p4 v4 r4 => ?_⟩
      exact hs' _ as4 st4 H4 _ _ _ _ _ s4 ((r2.d.ext e3 s2.len).ext e4 s3.len) r4.d (p4.mono fun w5 as5 st5 H5 e5 s5 p5 v5 r5 => p5 v5 (r5.from fun x hx => e1.fresh (e2.fresh (e3.fresh (e4.fresh hx)))))
    | false =>
      rw [if_neg Bool.false_ne_true]
      exact p3.now s3 _ (.bl _)
  | _ => simp only [q] at p3; exact p3.elim
theorem pI_chain {op op' : CmpOp} {f g : D → D → Store → Res Wv} {r r' : R2} (ho : OpR X (compareOp op) r) (hs : OpS G E f r) (ho' : OpR X (compareOp op') r') (hs' : OpS G E g r') (ha : PE X a (tI G E ma)) (hb : PE X b (tI G E mb)) (hc : PE X c (tI G E mc))
    (hm : lastMarks [op, op'] [b, c] = false := by with_unfolding_all rfl) : PE X (.Compare a [op, op'] [b, c] pos) (tI G E (evCh f g ma mb mc)) := (pe_chain ho ho' ha hb hc hm).vi fun _ _ _ => tI_evCh hs hs'
theorem pT_chain {op op' : CmpOp} {f g : D → D → Store → Res Wv} {r r' : R2} (ho : OpR X (compareOp op) r) (hs : OpS G E f r) (ho' : OpR X (compareOp op') r') (hs' : OpS G E g r') (ha : PE X a (tI G E ma)) (hb : PE X b (tI G E mb)) (hc : PE X c (tI G E mc))
    (hm : lastMarks [op, op'] [b, c] = false := by with_unfolding_all rfl) : PT X (.Compare a [op, op'] [b, c] pos) (tT G E (tvB (evCh f g ma mb mc))) := (pt_chain ho ho' ha hb hc hm).vi fun _ _ _ h => tI_evCh hs hs' (tT_tvB h)

/-! ### displays -/
def evTup (m : AM) : EM := fun env st => (m env st).bind fun ds st1 => if ds.length ≤ 100000 then .ok (.val (.tup ds)) st1 else .stuck
def evLst (m : AM) : EM := fun env st => (m env st).bind fun ds st1 => if ds.length ≤ 100000 then .ok (.new (.lst ds)) st1 else .stuck
theorem RelDs.length {as : List Addr} {L : Addr → Prop} {H : Hp} : ∀ {ds : List D} {vs : List V}, RelDs G as L H ds vs → ds.length = vs.length
  | _, _, .nil => rfl
  | _, _, .cons _ t => by simp [RelDs.length t]
theorem szl {n : Nat} (h : n ≤ 100000) : n ≤ sizeLine := Nat.le_trans h (by decide)
/-- a new tuple, a new list, at a place that was free -/
theorem RelD.newTup {as : List Addr} {st : Store} {H : Hp} {ds : List D} {vs : List V} {p : Addr} (s : StR G as st H) (r : RelDs G as (Live as st) H ds vs) (hp : H p = none) : RelD G as (Live as st) (upd H p (.tup vs)) (.tup ds) (.ref p) :=
  .tup (.inl (.inl upd_same)) (r.ext (Ext.lay hp) s.len)
theorem RelW.newLst {as : List Addr} {st : Store} {H : Hp} {ds : List D} {vs : List V} {p : Addr} (s : StR G as st H) (r : RelDs G as (Live as st) H ds vs) (hp : H p = none) : RelW G H as st (upd H p (.lst vs)) (.new (.lst ds)) (.ref p) := by
  refine ⟨p, rfl, hp, notLive s hp, ⟨vs, upd_same, r.mono (List.prefix_refl _) (fun b hb n z => ?_) fun b u e _ => by rw [upd_ne (ne_of_none e hp)]; exact e⟩, s.lay hp⟩
  rcases z with z | z
  · exact n z
  · exact hb (by rw [z]; exact hp)
theorem pI_tup {m : AM} {x1} (h : PA X es (tAr G E m)) : PE X (.Tuple es x1 pos) (tI G E (evTup m)) := (pe_tup h).vi fun σ H Q ⟨as, st, env, s, er, p⟩ =>
  ⟨as, st, env, s, er, (p.bind s.len).mono fun ds as1 st1 H1 e1 s1 p1 vs r1 => by
    by_cases q : ds.length ≤ 100000
    · rw [if_pos q] at p1
      refine ⟨szl (by rw [← r1.length]; exact q), fun x hx => ?_⟩
      exact p1 as1 (upd H1 x (.tup vs)) (Ext.lay hx) (s1.laid hx) _ (RelD.newTup s1 r1 hx)
    · rw [if_neg q] at p1; exact p1.elim⟩
theorem pI_lst {m : AM} (h : PA X es (tAr G E m)) : PE X (.List es pos) (tI G E (evLst m)) := (pe_lst h).vi fun σ H Q ⟨as, st, env, s, er, p⟩ =>
  ⟨as, st, env, s, er, (p.bind s.len).mono fun ds as1 st1 H1 e1 s1 p1 vs r1 => by
    by_cases q : ds.length ≤ 100000
    · rw [if_pos q] at p1
      refine ⟨szl (by rw [← r1.length]; exact q), fun x hx => ?_⟩
      exact p1 as1 (upd H1 x (.lst vs)) (Ext.lay hx) (s1.laid hx) _ ((RelW.newLst s1 r1 hx).from (fresh_of e1))
    · rw [if_neg q] at p1; exact p1.elim⟩
end
end VI
namespace VI
open PySem PySem.Spec PyProof.Rows L2
inductive SRes where
  | nx (env : DEnv) (st : Store) | ret (w : Wv) (st : Store) | brk (env : DEnv) (st : Store) | cnt (env : DEnv) (st : Store) | exc (env : DEnv) (x : EX) (st : Store) | stuck
abbrev SM := DEnv → Store → SRes
def SRes.bind (r : SRes) (k : SM) : SRes := match r with
  | .nx env st => k env st
  | r => r
def SPost (G : Gx) (E : WX) (De : Ends) (as : List Addr) (st : Store) (H : Hp) (r : SRes) : Prop :=
  match r with
  | .nx env' st' => ∀ as' H' σ', Ext as st H as' st' H' → StR G as' st' H' → EnvR G as' (Live as' st') H' env' σ' → De.nx σ' H'
  | .ret w st' => ∀ as' H' v, Ext as st H as' st' H' → StR G as' st' H' → RelW G H as' st' H' w v → De.rt v H'
  | .brk env' st' => ∀ as' H' σ', Ext as st H as' st' H' → StR G as' st' H' → EnvR G as' (Live as' st') H' env' σ' → De.bk σ' H'
  | .cnt env' st' => ∀ as' H' σ', Ext as st H as' st' H' → StR G as' st' H' → EnvR G as' (Live as' st') H' env' σ' → De.ct σ' H'
  | .exc env' x st' => ∀ as' H' σ' cv xd, Ext as st H as' st' H' → StR G as' st' H' → EnvR G as' (Live as' st') H' env' σ' → RelX G as' st' H' x cv xd → E cv xd σ' H'
  | .stuck => False
def tS (G : Gx) (E : WX) (m : SM) : TS := fun De σ H => ∃ as st env, StR G as st H ∧ EnvR G as (Live as st) H env σ ∧ SPost G E De as st H (m env st)
section
variable {G : Gx} {E : WX} {X : Cx} {De : Ends} {as as' as1 : List Addr} {st st' st1 : Store} {H H' H1 : Hp} {σ : L2.St}
/-- further on -/
theorem SPost.from {r : SRes} (hl : as.length = st.length) (e : Ext as st H as1 st1 H1) (h : SPost G E De as st H r) : SPost G E De as1 st1 H1 r := by
  cases r with
  | nx env st' => exact fun as' H' σ' e' s r => h as' H' σ' (e.trans e' hl) s r
  | ret w st' => exact fun as' H' v e' s r => h as' H' v (e.trans e' hl) s (r.from (fresh_of e))
  | brk env st' => exact fun as' H' σ' e' s r => h as' H' σ' (e.trans e' hl) s r
  | cnt env st' => exact fun as' H' σ' e' s r => h as' H' σ' (e.trans e' hl) s r
  | exc env x st' => exact fun as' H' σ' cv xd e' s er r => h as' H' σ' cv xd (e.trans e' hl) s er r
  | stuck => exact h
theorem SPost.bind {r : SRes} {k : SM} (hl : as.length = st.length) (h : SPost G E De as st H (r.bind k)) : SPost G E { De with nx := tS G E k De } as st H r := by
  cases r with
  | nx env st' => exact fun as' H' σ' e s r => ⟨as', st', env, s, r, (show SPost G E De as st H (k env st') from h).from hl e⟩
  | ret w st' => exact h
  | brk env st' => exact h
  | cnt env st' => exact h
  | exc env x st' => exact h
  | stuck => exact h
/-- an expression's end, then a statement -/
theorem SPost.of {α : Type} {env : DEnv} {r : Res α} {k : α → Store → SRes} (hl : as.length = st.length) (er : EnvR G as (Live as st) H env σ) (h : SPost G E De as st H (match r with | .ok a st1 => k a st1 | .exc x st1 => .exc env x st1 | .stuck => .stuck)) :
    Post G (eAt E σ) as st H r fun a as1 st1 H1 => SPost G E De as st H (k a st1) := by
  cases r with
  | ok a st1 => exact fun as' H' e s => h
  | exc x st' => exact fun as' H' cv xd e s rx => h as' H' σ cv xd e s (er.ext e hl) rx
  | stuck => exact h
def SRes.of {α : Type} (env : DEnv) (r : Res α) (k : α → Store → SRes) : SRes := match r with
  | .ok a st1 => k a st1
  | .exc x st1 => .exc env x st1
  | .stuck => .stuck
def sNext : SM := fun env st => .nx env st
def sSeq (a b : SM) : SM := fun env st => (a env st).bind b
def sBreak : SM := fun env st => .brk env st
def sCont : SM := fun env st => .cnt env st
def sDrop (e : EM) : SM := fun env st => SRes.of env (e env st) fun _ st1 => .nx env st1
def sRet (e : EM) : SM := fun env st => SRes.of env (e env st) fun w st1 => .ret w st1
def sRetN : SM := fun _ st => .ret (.val .non) st
def sIf (t : TM) (a b : SM) : SM := fun env st => SRes.of env (t env st) fun c st1 => if c = true then a env st1 else b env st1
/-- x = e: by its value | a new container that becomes a cell -/
def sSet (i : Nat) (e : EM) : SM := fun env st => SRes.of env (e env st) fun w st1 => .nx (env.set i (some w.d)) st1
def sReg (i : Nat) (e : EM) : SM := fun env st => SRes.of env (e env st) fun w st1 => match w with
  | .new d => .nx (env.set i (some (.ref st1.length))) (st1 ++ [some d])
  | .val _ => .stuck
theorem tS_next (h : tS G E sNext De σ H) : tNext De σ H := by
  obtain ⟨as, st, env, s, er, p⟩ := h
  exact p as H σ Ext.rfl' s er
theorem tS_brk (h : tS G E sBreak De σ H) : tBreak De σ H := by
  obtain ⟨as, st, env, s, er, p⟩ := h
  exact p as H σ Ext.rfl' s er
theorem tS_cnt (h : tS G E sCont De σ H) : tCont De σ H := by
  obtain ⟨as, st, env, s, er, p⟩ := h
  exact p as H σ Ext.rfl' s er
theorem tS_seq {a b : SM} (h : tS G E (sSeq a b) De σ H) : tSeq (tS G E a) (tS G E b) De σ H := by
  obtain ⟨as, st, env, s, er, p⟩ := h
  exact ⟨as, st, env, s, er, p.bind s.len⟩
theorem tS_drop {e : EM} (h : tS G E (sDrop e) De σ H) : tDrop (tI G E e) De σ H := by
  obtain ⟨as, st, env, s, er, p⟩ := h
  refine ⟨as, st, env, s, er, (SPost.of s.len er p).mono fun w as1 st1 H1 e1 s1 p1 v r => ?_⟩
  exact p1 as1 H1 σ e1 s1 (er.ext e1 s.len)
theorem tS_ret {e : EM} (h : tS G E (sRet e) De σ H) : tRet (tI G E e) De σ H := by
  obtain ⟨as, st, env, s, er, p⟩ := h
  refine ⟨as, st, env, s, er, (SPost.of s.len er p).mono fun w as1 st1 H1 e1 s1 p1 v r => ?_⟩
  exact p1 as1 H1 v e1 s1 r
theorem tS_retN (h : tS G E sRetN De σ H) : tRetN De σ H := by
  obtain ⟨as, st, env, s, er, p⟩ := h
  exact p as H .non Ext.rfl' s .non
theorem tS_if {t : TM} {a b : SM} (h : tS G E (sIf t a b) De σ H) : tIfS (tT G E t) (tS G E a) (tS G E b) De σ H := by
  obtain ⟨as, st, env, s, er, p⟩ := h
  refine ⟨as, st, env, s, er, (SPost.of s.len er p).mono fun c as1 st1 H1 e1 s1 p1 => ?_⟩
  cases c with
  | true =>
    rw [if_pos rfl] at p1 ⊢
    exact ⟨as1, st1, env, s1, er.ext e1 s.len, p1.from s.len e1⟩
  | false =>
    rw [if_neg Bool.false_ne_true] at p1 ⊢
    exact ⟨as1, st1, env, s1, er.ext e1 s.len, p1.from s.len e1⟩
theorem tS_set {i : Nat} {e : EM} (h : tS G E (sSet i e) De σ H) : tAsg (tI G E e) (gName i) De σ H := by
  obtain ⟨as, st, env, s, er, p⟩ := h
  refine ⟨as, st, env, s, er, (SPost.of s.len er p).mono fun w as1 st1 H1 e1 s1 p1 v r => ?_⟩
  exact p1 as1 H1 _ e1 s1 ((er.ext e1 s.len).set r.d i)
theorem Ext.regAt {p : Addr} {d : D} (e : Ext as st H as1 st1 H1) (hl : as.length = st.length) (hl1 : as1.length = st1.length) (hp : H p = none) : Ext as st H (as1 ++ [p]) (st1 ++ [some d]) H1 := by
  refine ⟨e.pre.trans ⟨[p], rfl⟩, fun i a h hi => ?_, fun i h => ?_, by have := e.len; simp; omega, e.keep, e.there⟩
  · by_cases hi2 : i < as1.length
    · rw [List.getElem?_append_left hi2] at h
      exact e.new i a h hi
    · rw [List.getElem?_append_right (by omega)] at h
      by_cases h0 : i - as1.length = 0
      · rw [h0] at h
        have q : p = a := Option.some.inj h
        rw [← q]; exact hp
      · rw [show ([p] : List Addr)[i - as1.length]? = none from List.getElem?_eq_none_iff.mpr (by simp; omega)] at h
        cases h
  · have q := e.dead i h
    obtain ⟨hi, _⟩ := List.getElem?_eq_some_iff.mp q
    rw [List.getElem?_append_left hi]; exact q
/-- a new container becomes a cell -/
theorem RelW.reg {d : D} {v : V} (e : Ext as st H as1 st1 H1) (s : StR G as st H) (s1 : StR G as1 st1 H1) (r : RelW G H as1 st1 H1 (.new d) v) :
    ∃ p, v = .ref p ∧ Ext as st H (as1 ++ [p]) (st1 ++ [some d]) H1 ∧ StR G (as1 ++ [p]) (st1 ++ [some d]) H1 ∧ RelD G (as1 ++ [p]) (Live (as1 ++ [p]) (st1 ++ [some d])) H1 (.ref st1.length) v := by
  obtain ⟨p, rfl, hp, n, c, sl⟩ := r
  refine ⟨p, rfl, e.regAt s.len s1.len hp, sl.reg n c, .ref ?_⟩
  rw [List.getElem?_append_right (by have := s1.len; omega), show st1.length - as1.length = 0 by have := s1.len; omega]
  rfl
theorem tS_reg {i : Nat} {e : EM} (h : tS G E (sReg i e) De σ H) : tAsg (tI G E e) (gName i) De σ H := by
  obtain ⟨as, st, env, s, er, p⟩ := h
  refine ⟨as, st, env, s, er, (SPost.of s.len er p).mono fun w as1 st1 H1 e1 s1 p1 v r => ?_⟩
  cases w with
  | val d => exact p1.elim
  | new d =>
    obtain ⟨q, rfl, e2, s2, r2⟩ := r.reg e1 s s1
    exact p1 _ H1 _ e2 s2 ((er.ext e2 s.len).set r2 i)
end
/-! ### targets -/
abbrev GD := D → DEnv → Option DEnv
def gdName (i : Nat) : GD := fun d env => some (env.set i (some d))
def gdSeq : List GD → List D → DEnv → Option DEnv
  | [], [], env => some env
  | g :: gs, d :: ds, env => (g d env).bind fun env1 => gdSeq gs ds env1
  | _, _, _ => none
def gdTup (gs : List GD) : GD := fun d env => match d with
  | .tup ds => gdSeq gs ds env
  | _ => none
def gdLst (gs : List GD) : GD := fun d env => match d with
  | .lst ds => gdSeq gs ds env
  | _ => none
/-- a target's reading: by a value -/
def SameBut (sl : List Nat) (σ' σ : L2.St) : Prop := ∀ vs : List Nat, (∀ i ∈ sl, i ∈ vs) → wipe σ' vs = wipe σ vs
def tG (G : Gx) (g : GD) (sl : List Nat) : TG := fun v σ H Q => ∃ as st env d env', StR G as st H ∧ EnvR G as (Live as st) H env σ ∧ RelD G as (Live as st) H d v ∧ g d env = some env' ∧ ∀ σ', EnvR G as (Live as st) H env' σ' → SameBut sl σ' σ → Q σ' H
def tGs (G : Gx) (gs : List GD) (sl : List Nat) : TGs := fun vs σ H Q => ∃ as st env ds env', StR G as st H ∧ EnvR G as (Live as st) H env σ ∧ RelDs G as (Live as st) H ds vs ∧ gdSeq gs ds env = some env' ∧ ∀ σ', EnvR G as (Live as st) H env' σ' → SameBut sl σ' σ → Q σ' H
theorem wipe_get (σ : L2.St) : ∀ (vs : List Nat) (j : Nat), (wipe σ vs)[j]? = if j ∈ vs then (if j < σ.length then some none else none) else σ[j]?
  | [], j => by simp [wipe]
  | v :: vs, j => by
    unfold wipe
    rw [List.getElem?_set]
    by_cases h : v = j
    · subst h
      simp [wipe_length]
    · rw [if_neg h, wipe_get σ vs j]
      have : j ∈ v :: vs ↔ j ∈ vs := by simp [Ne.symm h]
      by_cases hj : j ∈ vs
      · rw [if_pos hj, if_pos (this.mpr hj)]
      · rw [if_neg hj, if_neg (fun z => hj (this.mp z))]
theorem SameBut.set {σ : L2.St} {i : Nat} {x : Option V} : SameBut [i] (σ.set i x) σ := fun vs h => by
  have hi : i ∈ vs := h i (by simp)
  apply List.ext_getElem?
  intro j
  rw [wipe_get, wipe_get]
  by_cases hj : j ∈ vs
  · rw [if_pos hj, if_pos hj]; simp
  · rw [if_neg hj, if_neg hj]
    rw [List.getElem?_set_ne (fun (z : i = j) => hj (z ▸ hi))]
theorem _root_.L2.PG.vi {X : Cx} {e : Expr} {t t' : TG} (h : PG X e t) (k : ∀ v σ H Q, t' v σ H Q → t v σ H Q) : PG X e t' := ⟨fun pins s σ H v u Q I r q => h.run pins s σ H v u Q I r (k v σ H Q q)⟩
theorem _root_.L2.PGs.vi {X : Cx} {e : List Expr} {t t' : TGs} (h : PGs X e t) (k : ∀ v σ H Q, t' v σ H Q → t v σ H Q) : PGs X e t' := ⟨fun pins s σ H v u Q I r q => h.run pins s σ H v u Q I r (k v σ H Q q)⟩
theorem _root_.L2.PI.vi {X : Cx} {tg e : Expr} {t t' : TI} (h : PI X tg e t) (k : ∀ σ H Q, t' σ H Q → t σ H Q) : PI X tg e t' := ⟨fun pins s σ H R I q => h.run pins s σ H R I (k σ H R q)⟩
section
variable {G : Gx} {E : WX} {X : Cx} {De : Ends} {as as' as1 : List Addr} {st st' st1 : Store} {H H' H1 : Hp} {σ : L2.St} {pos : Pos}
theorem pG_name {i : Nat} {x : Str} (hN : X.N.Nodup) (hi : X.N[i]? = some x) (hx : Loc X.env.scope x) (hf : X.fn x = true ∨ X.env.scope.names.lookup x = some .local := by first | exact .inl rfl | exact .inr rfl | assumption) : PG X (.Name x pos) (tG G (gdName i) [i]) :=
  (pg_name hN hi hx hf).vi fun v σ H Q ⟨as, st, env, d, env', s, er, r, q, k⟩ => by
    cases q
    exact k _ (er.set r i) SameBut.set
theorem pGs_nil : PGs X [] (tGs G [] []) := pgs_nil.vi fun v σ H Q ⟨as, st, env, ds, env', s, er, r, q, k⟩ => by
  cases r with
  | nil =>
    cases q
    exact ⟨rfl, k _ er fun _ _ => rfl⟩
  | cons _ _ => cases q
theorem pGs_cons {e : Expr} {es : List Expr} {g : GD} {gs : List GD} {sl sls : List Nat} (h1 : PG X e (tG G g sl)) (h2 : PGs X es (tGs G gs sls))
    (hs : (assignEach (e :: es) X.env).map (·.2) = assign e X.env :: (assignEach es X.env).map (·.2) := by rfl) : PGs X (e :: es) (tGs G (g :: gs) (sl ++ sls)) := (pgs_cons h1 h2 hs).vi fun v σ H Q ⟨as, st, env, ds, env', s, er, r, q, k⟩ => by
  cases r with
  | nil => cases q
  | @cons d v' ds vs r rr =>
    have q : (g d env).bind (fun env1 => gdSeq gs ds env1) = some env' := q
    cases q1 : g d env with
    | none => rw [q1] at q; cases q
    | some env1 =>
      rw [q1] at q
      exact ⟨_, _, rfl, as, st, env, d, env1, s, er, r, q1, fun σ' er' sb => ⟨as, st, env1, ds, env', s, er', rr, q, fun σ2 er2 sb2 => k σ2 er2 fun vs hv => (sb2 vs fun i hi => hv i (List.mem_append_right _ hi)).trans (sb vs fun i hi => hv i (List.mem_append_left _ hi))⟩⟩
theorem pG_tup {es : List Expr} {k : Nat} {gs : List GD} {sl : List Nat} {n : Nat} (hK : G.K = X.K) (hc : X.calm = true) (h : PGs X es (tGs G gs sl)) (hgs : gs.length = n)
    (hn : (assignEach es X.env).length = n := by rfl) (hst : (assignEach es X.env).findIdx? (·.1) = none := by rfl) : PG X (.Tuple es k pos) (tG G (gdTup gs) sl) := (pg_tup hc h hn hst).vi fun v σ H Q ⟨as, st, env, d, env', s, er, r, q, k⟩ => by
  cases r with
  | @tup ds p vs hT hd =>
    have q : gdSeq gs ds env = some env' := q
    have len : ∀ (gs : List GD) (ds : List D) (env env' : DEnv), gdSeq gs ds env = some env' → ds.length = gs.length := by
      intro gs
      induction gs with
      | nil => intro ds env env' h; cases ds with
        | nil => rfl
        | cons _ _ => cases h
      | cons g gs ih => intro ds env env' h; cases ds with
        | nil => cases h
        | cons d ds =>
          have h : (g d env).bind (fun env1 => gdSeq gs ds env1) = some env' := h
          cases q1 : g d env with
          | none => rw [q1] at h; cases h
          | some env1 => rw [q1] at h; simp [ih ds env1 env' h]
    rw [hK] at hT
    exact ⟨p, vs, rfl, hT, by rw [← hd.length, len _ _ _ _ q, hgs], as, st, env, ds, env', s, er, hd, q, k⟩
  | _ => cases q
theorem pG_lst {es : List Expr} {k : Nat} {gs : List GD} {sl : List Nat} {n : Nat} (hK : G.K = X.K) (hc : X.calm = true) (h : PGs X es (tGs G gs sl)) (hgs : gs.length = n)
    (hn : (assignEach es X.env).length = n := by rfl) (hst : (assignEach es X.env).findIdx? (·.1) = none := by rfl) : PG X (.Tuple es k pos) (tG G (gdLst gs) sl) := (pg_unl hc h hn hst).vi fun v σ H Q ⟨as, st, env, d, env', s, er, r, q, k⟩ => by
  have len : ∀ (gs : List GD) (ds : List D) (env env' : DEnv), gdSeq gs ds env = some env' → ds.length = gs.length := by
    intro gs
    induction gs with
    | nil => intro ds env env' h; cases ds with
      | nil => rfl
      | cons _ _ => cases h
    | cons g gs ih => intro ds env env' h; cases ds with
      | nil => cases h
      | cons d ds =>
        have h : (g d env).bind (fun env1 => gdSeq gs ds env1) = some env' := h
        cases q1 : g d env with
        | none => rw [q1] at h; cases h
        | some env1 => rw [q1] at h; simp [ih ds env1 env' h]
  cases r with
  | @lst ds p vs hT hL hd =>
    have q : gdSeq gs ds env = some env' := q
    exact ⟨p, vs, rfl, .inl hT, by rw [← hd.length, len _ _ _ _ q, hgs], as, st, env, ds, env', s, er, hd, q, k⟩
  | @lstK ds p vs hT hd =>
    have q : gdSeq gs ds env = some env' := q
    rw [hK] at hT
    exact ⟨p, vs, rfl, .inr hT, by rw [← hd.length, len _ _ _ _ q, hgs], as, st, env, ds, env', s, er, hd, q, k⟩
  | _ => cases q

/-- an expression, then a target: by value -/
def sAsg (g : GD) (e : EM) : SM := fun env st => SRes.of env (e env st) fun w st1 => match g w.d env with
  | some env1 => .nx env1 st1
  | none => .stuck
theorem tS_asg {g : GD} {sl : List Nat} {e : EM} (h : tS G E (sAsg g e) De σ H) : tAsg (tI G E e) (tG G g sl) De σ H := by
  obtain ⟨as, st, env, s, er, p⟩ := h
  refine ⟨as, st, env, s, er, (SPost.of s.len er p).mono fun w as1 st1 H1 e1 s1 p1 v r => ?_⟩
  cases q : g w.d env with
  | none => simp only [q] at p1; exact p1.elim
  | some env1 =>
    simp only [q] at p1
    exact ⟨as1, st1, env, w.d, env1, s1, er.ext e1 s.len, r.d, q, fun σ' er' _ => p1 as1 H1 σ' e1 s1 er'⟩
/-- a, b = x, y -/
def sPar (i j : Nat) (m : AM) : SM := fun env st => SRes.of env (m env st) fun ds st1 => match ds with
  | [d, e] => .nx ((env.set i (some d)).set j (some e)) st1
  | _ => .stuck
theorem tS_par {i j : Nat} {m : AM} (h : tS G E (sPar i j m) De σ H) : tPar i j (tAr G E m) De σ H := by
  obtain ⟨as, st, env, s, er, p⟩ := h
  refine ⟨as, st, env, s, er, (SPost.of s.len er p).mono fun ds as1 st1 H1 e1 s1 p1 vs r => ?_⟩
  cases r with
  | nil => exact p1.elim
  | cons r1 r =>
    cases r with
    | nil => exact p1.elim
    | cons r2 r =>
      cases r with
      | nil => exact ⟨_, _, rfl, p1 as1 H1 _ e1 s1 (((er.ext e1 s.len).set r1 i).set r2 j)⟩
      | cons _ _ => exact p1.elim

/-! ### what a for walks -/
structure IterV where
  items : List D
  src : Option Nat
abbrev IM := DEnv → Store → Res IterV
def srcOk (iv : IterV) (st : Store) : Bool := match iv.src with
  | none => true
  | some n => decide (st[n]? = some (some (.lst iv.items)))
structure Src (G : Gx) (J : It) (iv : IterV) (as : List Addr) (st : Store) (H : Hp) : Prop where
  go : ∀ as' st' H', Ext as st H as' st' H' → StR G as' st' H' → srcOk iv st' = true → ∀ (i : Nat) (d : D), iv.items[i]? = some d →
    J.go i H' ∧ ∀ x H2, J.yld i H' x H2 → Ext as' st' H' as' st' H2 ∧ StR G as' st' H2 ∧ RelD G as' (Live as' st') H2 d x
  stop : ∀ as' st' H', Ext as st H as' st' H' → StR G as' st' H' → srcOk iv st' = true → ∀ i : Nat, iv.items.length ≤ i → J.stop i H'
def tIt (G : Gx) (E : WX) (m : IM) : TI := fun σ H R => ∃ as st env, StR G as st H ∧ EnvR G as (Live as st) H env σ ∧ Post G (eAt E σ) as st H (m env st) fun iv as' st' H' => ∀ J, Src G J iv as' st' H' → R J H'
def forGo (iv : IterV) (g : GD) (body : SM) : List D → SM
  | [], env, st => if srcOk iv st = true then .nx env st else .stuck
  | d :: r, env, st => if srcOk iv st = true then (match g d env with
    | none => .stuck
    | some env1 => match body env1 st with
      | .nx e s => forGo iv g body r e s
      | .cnt e s => forGo iv g body r e s
      | .brk e s => .nx e s
      | .ret w s => .ret w s
      | .exc e x s => .exc e x s
      | .stuck => .stuck) else .stuck
def sFor (m : IM) (g : GD) (body : SM) : SM := fun env st => SRes.of env (m env st) fun iv st1 => forGo iv g body iv.items env st1
theorem tS_for {m : IM} {g : GD} {sl : List Nat} {body : SM} (h : tS G E (sFor m g body) De σ H) : tFor (tIt G E m) (tG G g sl) (tS G E body) De σ H := by
  obtain ⟨as, st, env, s, er, p⟩ := h
  refine ⟨as, st, env, s, er, (SPost.of s.len er p).mono fun iv as1 st1 H1 e1 s1 p1 J SJ => ?_⟩
  refine ⟨fun i m σ' H' => i ≤ iv.items.length ∧ m = iv.items.length - i ∧ ∃ as2 st2 env2, Ext as1 st1 H1 as2 st2 H' ∧ StR G as2 st2 H' ∧ EnvR G as2 (Live as2 st2) H' env2 σ' ∧ SPost G E De as2 st2 H' (forGo iv g body (iv.items.drop i) env2 st2),
    ⟨iv.items.length, by omega, by omega, as1, st1, env, Ext.rfl', s1, er.ext e1 s.len, by rw [List.drop_zero]; exact p1.from s.len e1⟩, ?_⟩
  rintro i m σ' H' ⟨hi, rfl, as2, st2, env2, e2, s2, er2, p2⟩
  by_cases hlt : i < iv.items.length
  · rw [List.drop_eq_getElem_cons hlt] at p2
    unfold forGo at p2
    by_cases ok : srcOk iv st2 = true
    · rw [if_pos ok] at p2
      obtain ⟨hgo, hy⟩ := SJ.go as2 st2 H' e2 s2 ok i iv.items[i] (List.getElem?_eq_getElem hlt)
      refine .inr ⟨hgo, fun σ3 H3 => ∃ as3 st3 env3, Ext as1 st1 H1 as3 st3 H3 ∧ StR G as3 st3 H3 ∧ EnvR G as3 (Live as3 st3) H3 env3 σ3 ∧ SPost G E De as3 st3 H3 (forGo iv g body (iv.items.drop (i + 1)) env3 st3),
        fun σ3 H3 ⟨as3, st3, env3, q⟩ => ⟨iv.items.length - (i + 1), by omega, by omega, rfl, as3, st3, env3, q⟩, fun x H2 hx => ?_⟩
      obtain ⟨e3, s3, r3⟩ := hy x H2 hx
      cases q : g iv.items[i] env2 with
      | none => simp only [q] at p2; exact p2.elim
      | some env3 =>
        simp only [q] at p2
        have p3 := p2.from s2.len e3
        refine ⟨as2, st2, env2, iv.items[i], env3, s3, er2.ext e3 s2.len, r3, q, fun σ3 er3 _ => ⟨as2, st2, env3, s3, er3, ?_⟩⟩
        have ee : Ext as1 st1 H1 as2 st2 H2 := e2.trans e3 s1.len
        cases qb : body env3 st2 with
        | nx e s =>
          simp only [qb] at p3
          exact fun as4 H4 σ4 e4 s4 r4 => ⟨as4, s, e, ee.trans e4 s1.len, s4, r4, p3.from s3.len e4⟩
        | cnt e s =>
          simp only [qb] at p3
          exact fun as4 H4 σ4 e4 s4 r4 => ⟨as4, s, e, ee.trans e4 s1.len, s4, r4, p3.from s3.len e4⟩
        | brk e s => simp only [qb] at p3; exact p3
        | ret w s => simp only [qb] at p3; exact p3
        | exc e x s => simp only [qb] at p3; exact p3
        | stuck => simp only [qb] at p3; exact p3
    · rw [if_neg ok] at p2; exact p2.elim
  · rw [List.drop_of_length_le (by omega)] at p2
    unfold forGo at p2
    by_cases ok : srcOk iv st2 = true
    · rw [if_pos ok] at p2
      exact .inl ⟨SJ.stop as2 st2 H' e2 s2 ok i (by omega), p2 as2 H' σ' Ext.rfl' s2 er2⟩
    · rw [if_neg ok] at p2; exact p2.elim
end
end VI
namespace VI
open PySem PySem.Spec PyProof.Rows L2
theorem _root_.L2.PI.viOr {X : Cx} {tg e : Expr} {t t' : TI} (h : PI X tg e t) (h' : PI X tg e t') : PI X tg e (fun σ H R => t σ H R ∨ t' σ H R) := ⟨fun pins s σ H R I q => q.elim (h.run pins s σ H R I) (h'.run pins s σ H R I)⟩
def lstOf (d : D) (st : Store) : Option (List D × Option Nat) := match d with
  | .lst ds => some (ds, none)
  | .ref n => match st[n]? with
    | some (some (.lst ds)) => some (ds, some n)
    | _ => none
  | _ => none
def seqOf (d : D) (st : Store) : Option (List D × Option Nat) := match d with
  | .tup ds => some (ds, none)
  | .str x => some (x.cps.toList.map fun c => D.str ⟨#[c]⟩, none)
  | d => lstOf d st
def itSeq (e : EM) : IM := fun env st => (e env st).bind fun w st1 => match seqOf w.d st1 with
  | some (ds, src) => .ok ⟨ds, src⟩ st1
  | none => .stuck
def rangeD (lo : Int) (n : Nat) : List D := (List.range n).map fun (i : Nat) => D.int (lo + (i : Int))
def okR (i : Int) : Bool := decide (-(2 ^ 62) ≤ i) && decide (i < 2 ^ 62)
def itR1 (m : AM) : IM := fun env st => (m env st).bind fun ds st1 => match ds with
  | [.int j] => if okR j = true then .ok ⟨rangeD 0 j.toNat, none⟩ st1 else .stuck
  | _ => .stuck
def itR2 (m : AM) : IM := fun env st => (m env st).bind fun ds st1 => match ds with
  | [.int i, .int j] => if (okR i && okR j) = true then .ok ⟨rangeD i (j - i).toNat, none⟩ st1 else .stuck
  | _ => .stuck
def numD : Nat → List D → List D
  | _, [] => []
  | i, d :: ds => .tup [.int (i : Nat), d] :: numD (i + 1) ds
def itEnum (m : AM) : IM := fun env st => (m env st).bind fun ds st1 => match ds with
  | [d] => match lstOf d st1 with
    | some (ds, none) => .ok ⟨numD 0 ds, none⟩ st1
    | _ => .stuck
  | _ => .stuck
def zipD : List D → List D → List D
  | a :: as, b :: bs => .tup [a, b] :: zipD as bs
  | _, _ => []
def itZip (m : AM) : IM := fun env st => (m env st).bind fun ds st1 => match ds with
  | [.tup a, .tup b] => .ok ⟨zipD a b, none⟩ st1
  | [.lst a, .lst b] => .ok ⟨zipD a b, none⟩ st1
  | _ => .stuck
def itRev (e : EM) : IM := fun env st => (e env st).bind fun w st1 => match w.d with
  | .tup ds => .ok ⟨ds.reverse, none⟩ st1
  | .lst ds => .ok ⟨ds.reverse, none⟩ st1
  | _ => .stuck
section
variable {G : Gx} {E : WX} {X : Cx} {De : Ends} {as as' as1 : List Addr} {st st' st1 : Store} {H H' H1 : Hp} {σ : L2.St} {pos : Pos} {L : Addr → Prop}
theorem RelDs.get : ∀ {ds : List D} {vs : List V} {i : Nat} {d : D}, RelDs G as L H ds vs → ds[i]? = some d → ∃ v, vs[i]? = some v ∧ RelD G as L H d v
  | _, _, _, _, .nil, h => by simp at h
  | _, _, 0, _, .cons r _, h => by
    simp at h
    exact ⟨_, rfl, h ▸ r⟩
  | _, _, i + 1, d, .cons _ t, h => by
    obtain ⟨v, h1, h2⟩ := RelDs.get (i := i) (d := d) t (by simpa using h)
    exact ⟨v, by simpa using h1, h2⟩
/-- a list, by value or a cell, as HandS reads it -/
theorem lstOf_sq (s : StR G as st H) {d : D} {v : V} {ds : List D} {src : Option Nat} (r : RelD G as (Live as st) H d v) (h : lstOf d st = some (ds, src)) :
    ∃ p vs, v = .ref p ∧ SqL G.K H p vs ∧ RelDs G as (Live as st) H ds vs := by
  cases r with
  | @ref n a ha =>
    unfold lstOf at h
    cases q : st[n]? with
    | none => simp only [q] at h; cases h
    | some o =>
      cases o with
      | none => simp only [q] at h; cases h
      | some d =>
        cases d with
        | lst ds' =>
          simp only [q] at h
          cases h
          obtain ⟨a', ha', vs, hv, rr⟩ := s.cells n _ q
          rw [ha] at ha'; cases ha'
          exact ⟨a, vs, rfl, .inl (.inl hv), rr⟩
        | _ => simp only [q] at h; cases h
  | @lst ds' p vs hr hl rr => cases h; exact ⟨p, vs, rfl, .inl hr, rr⟩
  | @lstK ds' p vs hr rr => cases h; exact ⟨p, vs, rfl, .inr hr, rr⟩
  | _ => simp only [lstOf] at h; cases h
theorem lstOf_src {d : D} {ds : List D} {n : Nat} (h : lstOf d st = some (ds, some n)) : d = .ref n ∧ st[n]? = some (some (.lst ds)) := by
  cases d with
  | ref m =>
    simp only [lstOf] at h
    cases q : st[m]? with
    | none => simp only [q] at h; cases h
    | some o =>
      cases o with
      | none => simp only [q] at h; cases h
      | some d =>
        cases d with
        | lst ds' => simp only [q] at h; cases h; exact ⟨rfl, q⟩
        | _ => simp only [q] at h; cases h
  | _ => simp only [lstOf] at h; cases h
theorem lstOf_later {d : D} {ds : List D} {src : Option Nat} (h : lstOf d st = some (ds, src)) (ok : srcOk ⟨ds, src⟩ st' = true) : lstOf d st' = some (ds, src) := by
  cases src with
  | none =>
    cases d with
    | ref m =>
      simp only [lstOf] at h
      cases q : st[m]? with
      | none => simp only [q] at h; cases h
      | some o =>
        cases o with
        | none => simp only [q] at h; cases h
        | some d => cases d <;> simp only [q] at h <;> cases h
    | lst _ => exact h
    | _ => simp only [lstOf] at h; cases h
  | some n =>
    obtain ⟨rfl, _⟩ := lstOf_src h
    have ok : st'[n]? = some (some (.lst ds)) := by simpa [srcOk] using ok
    simp only [lstOf, ok]
theorem src_lst (s : StR G as st H) {d : D} {a : Addr} {ds : List D} {src : Option Nat} (r : RelD G as (Live as st) H d (.ref a)) (h : lstOf d st = some (ds, src)) : Src G (Itl G.K a) ⟨ds, src⟩ as st H where
  go := fun as' st' H' e s' ok i d' hi => by
    obtain ⟨p, vs, ep, hs, rr⟩ := lstOf_sq s' (r.ext e s.len) (lstOf_later h ok)
    cases ep
    obtain ⟨x, hx, rx⟩ := rr.get hi
    refine ⟨⟨vs, x, hs, hx⟩, fun y H2 hy => ?_⟩
    obtain ⟨rfl, hy⟩ := hy
    have := hy vs hs
    rw [hx] at this; cases this
    exact ⟨Ext.rfl', s', rx⟩
  stop := fun as' st' H' e s' ok i hi => by
    obtain ⟨p, vs, ep, hs, rr⟩ := lstOf_sq s' (r.ext e s.len) (lstOf_later h ok)
    cases ep
    exact ⟨vs, hs, by rw [← rr.length]; exact hi⟩
theorem src_tup (s : StR G as st H) {p : Addr} {vs : List V} {ds : List D} (h : SqT G.K H p vs) (rr : RelDs G as (Live as st) H ds vs) : Src G (Itt G.K p) ⟨ds, none⟩ as st H where
  go := fun as' st' H' e s' ok i d' hi => by
    have hs : SqT G.K H' p vs := sqT_mono (L := Live as st) e.keep h
    obtain ⟨x, hx, rx⟩ := (rr.ext e s.len).get hi
    refine ⟨⟨vs, x, hs, hx⟩, fun y H2 hy => ?_⟩
    obtain ⟨rfl, hy⟩ := hy
    have := hy vs hs
    rw [hx] at this; cases this
    exact ⟨Ext.rfl', s', rx⟩
  stop := fun as' st' H' e s' ok i hi => ⟨vs, sqT_mono (L := Live as st) e.keep h, by rw [← rr.length]; exact hi⟩
theorem src_str {x : Str} : Src G (Its x) ⟨x.cps.toList.map fun c => D.str ⟨#[c]⟩, none⟩ as st H where
  go := fun as' st' H' e s' ok i d' hi => by
    have hi : (x.cps.toList.map fun c => D.str ⟨#[c]⟩)[i]? = some d' := hi
    rw [List.getElem?_map] at hi
    cases q : x.cps.toList[i]? with
    | none => rw [q] at hi; cases hi
    | some c =>
      rw [q] at hi
      cases hi
      obtain ⟨h1, h2⟩ := List.getElem?_eq_some_iff.mp q
      refine ⟨by show i < x.cps.size; simpa using h1, fun y H2 hy => ?_⟩
      obtain ⟨rfl, c', hc, rfl⟩ := hy
      have : x.cps[i]? = some c := by rw [← q]; simp
      rw [this] at hc; cases hc
      exact ⟨Ext.rfl', s', .str _⟩
  stop := fun as' st' H' e s' ok i hi => by
    show x.cps.size ≤ i
    simpa using hi
theorem src_rng {lo : Int} {n : Nat} : Src G (Itr lo n) ⟨rangeD lo n, none⟩ as st H where
  go := fun as' st' H' e s' ok i d' hi => by
    have hi : (rangeD lo n)[i]? = some d' := hi
    unfold rangeD at hi
    rw [List.getElem?_map] at hi
    cases q : (List.range n)[i]? with
    | none => rw [q] at hi; cases hi
    | some c =>
      rw [q] at hi
      cases hi
      obtain ⟨h1, h2⟩ := List.getElem?_eq_some_iff.mp q
      simp at h1 h2
      subst h2
      refine ⟨h1, fun y H2 hy => ?_⟩
      obtain ⟨rfl, rfl⟩ := hy
      exact ⟨Ext.rfl', s', .int _⟩
  stop := fun as' st' H' e s' ok i hi => by
    show n ≤ i
    simpa [rangeD] using hi
theorem numD_get : ∀ (ds : List D) (k i : Nat) (d : D), (numD k ds)[i]? = some d → ∃ x, ds[i]? = some x ∧ d = .tup [.int ((k + i : Nat) : Int), x]
  | [], _, _, _, h => by simp [numD] at h
  | x :: ds, k, 0, d, h => by
    simp [numD] at h
    exact ⟨x, rfl, by rw [← h]; simp⟩
  | x :: ds, k, i + 1, d, h => by
    obtain ⟨y, h1, h2⟩ := numD_get ds (k + 1) i d (by simpa [numD] using h)
    exact ⟨y, by simpa using h1, by rw [h2]; simp; omega⟩
theorem numD_len : ∀ (ds : List D) (k : Nat), (numD k ds).length = ds.length
  | [], _ => rfl
  | x :: ds, k => by simp [numD, numD_len ds (k + 1)]
theorem src_enum (s : StR G as st H) {d : D} {a : Addr} {ds : List D} (r : RelD G as (Live as st) H d (.ref a)) (h : lstOf d st = some (ds, none)) : Src G (Ite G.K a) ⟨numD 0 ds, none⟩ as st H where
  go := fun as' st' H' e s' ok i d' hi => by
    obtain ⟨p, vs, ep, hs, rr⟩ := lstOf_sq s' (r.ext e s.len) (lstOf_later h rfl)
    cases ep
    obtain ⟨y, hy, rfl⟩ := numD_get ds 0 i d' hi
    obtain ⟨x, hx, rx⟩ := rr.get hy
    refine ⟨⟨vs, x, hs, hx⟩, fun z H2 hz => ?_⟩
    obtain ⟨T, x', rfl, hT, rfl, hall⟩ := hz
    have := hall vs hs
    rw [hx] at this; cases this
    refine ⟨Ext.lay hT, s'.laid hT, ?_⟩
    have q : RelDs G as' (Live as' st') H' [.int ((0 + i : Nat) : Int), y] [.int (i : Nat), x] := .cons (by rw [Nat.zero_add]; exact .int _) (.cons rx .nil)
    exact RelD.newTup s' q hT
  stop := fun as' st' H' e s' ok i hi => by
    obtain ⟨p, vs, ep, hs, rr⟩ := lstOf_sq s' (r.ext e s.len) (lstOf_later h rfl)
    cases ep
    have hi : (numD 0 ds).length ≤ i := hi
    rw [numD_len] at hi
    exact ⟨vs, hs, by rw [← rr.length]; exact hi⟩
theorem zipD_get : ∀ (as bs : List D) (i : Nat) (d : D), (zipD as bs)[i]? = some d → ∃ x y, as[i]? = some x ∧ bs[i]? = some y ∧ d = .tup [x, y]
  | [], _, _, _, h => by simp [zipD] at h
  | _ :: _, [], _, _, h => by simp [zipD] at h
  | a :: as, b :: bs, 0, d, h => by
    simp [zipD] at h
    exact ⟨a, b, rfl, rfl, h.symm⟩
  | a :: as, b :: bs, i + 1, d, h => by
    obtain ⟨x, y, h1, h2, h3⟩ := zipD_get as bs i d (by simpa [zipD] using h)
    exact ⟨x, y, by simpa using h1, by simpa using h2, h3⟩
theorem zipD_len : ∀ (as bs : List D), (zipD as bs).length = min as.length bs.length
  | [], _ => by simp [zipD]
  | _ :: _, [] => by simp [zipD]
  | a :: as, b :: bs => by simp [zipD, zipD_len as bs]
theorem src_zipT (s : StR G as st H) {p q : Addr} {xs ys : List V} {a b : List D} (h1 : SqT G.K H p xs) (h2 : SqT G.K H q ys) (r1 : RelDs G as (Live as st) H a xs) (r2 : RelDs G as (Live as st) H b ys) : Src G (RZ.ItzT G.K p q) ⟨zipD a b, none⟩ as st H where
  go := fun as' st' H' e s' ok i d' hi => by
    have k1 : SqT G.K H' p xs := sqT_mono (L := Live as st) e.keep h1
    have k2 : SqT G.K H' q ys := sqT_mono (L := Live as st) e.keep h2
    obtain ⟨y, z, hy, hz, rfl⟩ := zipD_get a b i d' hi
    obtain ⟨x1, hx1, rx1⟩ := (r1.ext e s.len).get hy
    obtain ⟨x2, hx2, rx2⟩ := (r2.ext e s.len).get hz
    refine ⟨⟨xs, ys, x1, x2, k1, k2, hx1, hx2⟩, fun z H2 hz => ?_⟩
    obtain ⟨T, x', y', rfl, hT, rfl, g1, g2⟩ := hz
    have e1 := g1 xs k1
    have e2 := g2 ys k2
    rw [hx1] at e1; cases e1
    rw [hx2] at e2; cases e2
    exact ⟨Ext.lay hT, s'.laid hT, RelD.newTup s' (.cons rx1 (.cons rx2 .nil)) hT⟩
  stop := fun as' st' H' e s' ok i hi => by
    have hi : (zipD a b).length ≤ i := hi
    rw [zipD_len] at hi
    refine ⟨xs, ys, sqT_mono (L := Live as st) e.keep h1, sqT_mono (L := Live as st) e.keep h2, ?_⟩
    rw [← r1.length, ← r2.length]
    omega
theorem src_zipL (s : StR G as st H) {p q : Addr} {a b : List D} (h1 : RelD G as (Live as st) H (.lst a) (.ref p)) (h2 : RelD G as (Live as st) H (.lst b) (.ref q)) : Src G (Itz G.K p q) ⟨zipD a b, none⟩ as st H where
  go := fun as' st' H' e s' ok i d' hi => by
    obtain ⟨p', xs, ep, k1, r1⟩ := lstOf_sq s' (h1.ext e s.len) (ds := a) (src := none) rfl
    cases ep
    obtain ⟨q', ys, eq, k2, r2⟩ := lstOf_sq s' (h2.ext e s.len) (ds := b) (src := none) rfl
    cases eq
    obtain ⟨y, z, hy, hz, rfl⟩ := zipD_get a b i d' hi
    obtain ⟨x1, hx1, rx1⟩ := r1.get hy
    obtain ⟨x2, hx2, rx2⟩ := r2.get hz
    refine ⟨⟨xs, ys, x1, x2, k1, k2, hx1, hx2⟩, fun z H2 hz => ?_⟩
    obtain ⟨T, x', y', rfl, hT, rfl, g1, g2⟩ := hz
    have e1 := g1 xs k1
    have e2 := g2 ys k2
    rw [hx1] at e1; cases e1
    rw [hx2] at e2; cases e2
    exact ⟨Ext.lay hT, s'.laid hT, RelD.newTup s' (.cons rx1 (.cons rx2 .nil)) hT⟩
  stop := fun as' st' H' e s' ok i hi => by
    obtain ⟨p', xs, ep, k1, r1⟩ := lstOf_sq s' (h1.ext e s.len) (ds := a) (src := none) rfl
    cases ep
    obtain ⟨q', ys, eq, k2, r2⟩ := lstOf_sq s' (h2.ext e s.len) (ds := b) (src := none) rfl
    cases eq
    have hi : (zipD a b).length ≤ i := hi
    rw [zipD_len] at hi
    refine ⟨xs, ys, k1, k2, ?_⟩
    rw [← r1.length, ← r2.length]
    omega
theorem rev_get {α : Type} (xs : List α) (i : Nat) (d : α) (h : xs.reverse[i]? = some d) : i < xs.length ∧ xs[xs.length - 1 - i]? = some d := by
  obtain ⟨h1, h2⟩ := List.getElem?_eq_some_iff.mp h
  have h1' : i < xs.length := by simpa using h1
  refine ⟨h1', ?_⟩
  rw [List.getElem?_reverse h1'] at h
  exact h
theorem src_revT (s : StR G as st H) {p : Addr} {vs : List V} {ds : List D} (h : SqT G.K H p vs) (rr : RelDs G as (Live as st) H ds vs) : Src G (RT.ItvT G.K p vs.length) ⟨ds.reverse, none⟩ as st H where
  go := fun as' st' H' e s' ok i d' hi => by
    have hs : SqT G.K H' p vs := sqT_mono (L := Live as st) e.keep h
    obtain ⟨hl, hg⟩ := rev_get ds i d' hi
    obtain ⟨x, hx, rx⟩ := (rr.ext e s.len).get hg
    rw [rr.length] at hl hx
    refine ⟨⟨hl, vs, x, hs, hx⟩, fun y H2 hy => ?_⟩
    obtain ⟨rfl, hy⟩ := hy
    have := hy vs hs
    rw [hx] at this; cases this
    exact ⟨Ext.rfl', s', rx⟩
  stop := fun as' st' H' e s' ok i hi => by
    show vs.length ≤ i
    rw [← rr.length]; simpa using hi
theorem src_revL (s : StR G as st H) {p : Addr} {vs : List V} {ds : List D} (h : RelD G as (Live as st) H (.lst ds) (.ref p)) (hv : SqL G.K H p vs) (rr : RelDs G as (Live as st) H ds vs) : Src G (Itv G.K p vs.length) ⟨ds.reverse, none⟩ as st H where
  go := fun as' st' H' e s' ok i d' hi => by
    obtain ⟨p', xs, ep, k1, r1⟩ := lstOf_sq s' (h.ext e s.len) (ds := ds) (src := none) rfl
    cases ep
    obtain ⟨hl, hg⟩ := rev_get ds i d' hi
    obtain ⟨x, hx, rx⟩ := r1.get hg
    rw [rr.length] at hl hx
    refine ⟨⟨hl, xs, x, k1, hx⟩, fun y H2 hy => ?_⟩
    obtain ⟨rfl, hy⟩ := hy
    have := hy xs k1
    rw [hx] at this; cases this
    exact ⟨Ext.rfl', s', rx⟩
  stop := fun as' st' H' e s' ok i hi => by
    show vs.length ≤ i
    rw [← rr.length]; simpa using hi
end
end VI
namespace VI
open PySem PySem.Spec PyProof.Rows L2
/-- an error is no dict -/
theorem DicR.noCl {G : Gx} {as : List Addr} {L : Addr → Prop} {H : Hp} {c : String} {d : D} {r : List (D × D)} {a : Addr} (h : DicR G as L H ((.cl c, d) :: r) a) : False := by
  cases h with
  | @k _ ks vs _ _ e _ =>
    cases ks with
    | nil => simp at e
    | cons k ks =>
      simp only [List.map_cons, List.cons.injEq] at e
      cases k <;> simp [keyD] at e
  | @n _ xs vs _ _ _ e _ _ _ =>
    cases xs with
    | nil => simp at e
    | cons x xs =>
      simp only [List.map_cons, List.cons.injEq] at e
      obtain ⟨k, b, v⟩ := x
      cases k <;> simp [dOf] at e
/-! ### cutting a store -/
mutual
def refsLt (k : Nat) : D → Bool
  | .ref n => decide (n < k)
  | .tup ds => refsLts k ds
  | .lst ds => refsLts k ds
  | .dic kvs => refsLtK k kvs
  | .obj _ fs => refsLtF k fs
  | _ => true
def refsLts (k : Nat) : List D → Bool
  | [] => true
  | d :: ds => refsLt k d && refsLts k ds
def refsLtK (k : Nat) : List (D × D) → Bool
  | [] => true
  | (a, b) :: ds => (refsLt k a && refsLt k b) && refsLtK k ds
def refsLtF (k : Nat) : List (Str × D) → Bool
  | [] => true
  | (_, b) :: ds => refsLt k b && refsLtF k ds
end
theorem refsLtK_split {k : Nat} : ∀ kvs : List (D × D), refsLtK k kvs = (refsLts k (kvs.map (·.1)) && refsLts k (kvs.map (·.2)))
  | [] => by simp [refsLtK, refsLts]
  | (a, b) :: r => by
    simp only [refsLtK, refsLtK_split r, List.map_cons, refsLts]
    cases refsLt k a <;> cases refsLt k b <;> cases refsLts k (r.map (·.1)) <;> rfl
theorem refsLts_keys (k : Nat) : ∀ ks : List Key, refsLts k (ks.map keyD) = true
  | [] => by simp [refsLts]
  | .inl i :: ks => by simp [refsLts, keyD, refsLt, refsLts_keys k ks]
  | .inr x :: ks => by simp [refsLts, keyD, refsLt, refsLts_keys k ks]
theorem refsLtK_and {k : Nat} {kvs : List (D × D)} (h : refsLtK k kvs = true) : refsLts k (kvs.map (·.1)) = true ∧ refsLts k (kvs.map (·.2)) = true := by
  rw [refsLtK_split, Bool.and_eq_true] at h; exact h
section
variable {G : Gx} {as : List Addr} {L : Addr → Prop} {H : Hp} {k : Nat}
mutual
theorem RelD.cut : ∀ {d : D} {v : V}, refsLt k d = true → RelD G as L H d v → RelD G (as.take k) L H d v
  | _, _, _, .non => .non
  | _, _, _, .bl b => .bl b
  | _, _, _, .int i => .int i
  | _, _, _, .str x => .str x
  | _, _, _, .ty n => .ty n
  | _, _, _, .cl h => .cl h
  | _, _, q, .ref h => .ref (by
      simp only [refsLt, decide_eq_true_eq] at q
      rw [List.getElem?_take_of_lt q]; exact h)
  | _, _, q, .tup h r => .tup h (RelDs.cut (by simpa only [refsLt] using q) r)
  | _, _, q, .lst h n r => .lst h n (RelDs.cut (by simpa only [refsLt] using q) r)
  | _, _, q, .lstK h r => .lstK h (RelDs.cut (by simpa only [refsLt] using q) r)
  | _, _, _, .err c h n => .err c h n
  | _, _, q, .errR c h n hp np r => .errR c h n hp np (RelD.cut (by simpa [refsLt, refsLtK, refsLts] using q) r)
  | _, _, q, .dic h n => .dic (DicR.cut (by simpa only [refsLt] using q) h) n
  | _, _, q, .obj c h1 h2 n r => .obj c h1 h2 n (RelFs.cut (by simpa only [refsLt] using q) r)
theorem RelDs.cut : ∀ {d : List D} {v : List V}, refsLts k d = true → RelDs G as L H d v → RelDs G (as.take k) L H d v
  | _, _, _, .nil => .nil
  | _, _, q, .cons r t => by
    simp only [refsLts, Bool.and_eq_true] at q
    exact .cons (RelD.cut q.1 r) (RelDs.cut q.2 t)
theorem DicR.cut : ∀ {kvs : List (D × D)} {a : Addr}, refsLtK k kvs = true → DicR G as L H kvs a → DicR G (as.take k) L H kvs a
  | _, _, q, .k h e r => .k h e (RelDs.cut (refsLtK_and q).2 r)
  | _, _, q, .n h z e r1 r2 v => .n h z e (RelDs.cut (refsLtK_and q).1 r1) (RelDs.cut (refsLtK_and q).2 r2) v
theorem RelFs.cut : ∀ {d : List (Str × D)} {v : List (Str × V)}, refsLtF k d = true → RelFs G as L H d v → RelFs G (as.take k) L H d v
  | _, _, _, .nil => .nil
  | _, _, q, .cons r t => by
    simp only [refsLtF, Bool.and_eq_true] at q
    exact .cons (RelD.cut q.1 r) (RelFs.cut q.2 t)
end
mutual
theorem RelD.refs : ∀ {d : D} {v : V}, RelD G as L H d v → refsLt as.length d = true
  | _, _, .non => by simp [refsLt]
  | _, _, .bl b => by simp [refsLt]
  | _, _, .int i => by simp [refsLt]
  | _, _, .str x => by simp [refsLt]
  | _, _, .ty n => by simp [refsLt]
  | _, _, .cl h => by simp [refsLt]
  | _, _, .ref h => by
      obtain ⟨h1, _⟩ := List.getElem?_eq_some_iff.mp h
      simp [refsLt, h1]
  | _, _, .tup h r => by simp only [refsLt]; exact RelDs.refs r
  | _, _, .lst h n r => by simp only [refsLt]; exact RelDs.refs r
  | _, _, .lstK h r => by simp only [refsLt]; exact RelDs.refs r
  | _, _, .err c h n => by simp [refsLt, refsLtK]
  | _, _, .errR c h n hp np r => by simpa [refsLt, refsLtK, refsLts] using RelD.refs r
  | _, _, .dic h n => by simp only [refsLt]; exact DicR.refs h
  | _, _, .obj c h1 h2 n r => by simp only [refsLt]; exact RelFs.refs r
theorem RelDs.refs : ∀ {d : List D} {v : List V}, RelDs G as L H d v → refsLts as.length d = true
  | _, _, .nil => by simp [refsLts]
  | _, _, .cons r t => by simp only [refsLts, Bool.and_eq_true]; exact ⟨RelD.refs r, RelDs.refs t⟩
theorem DicR.refs : ∀ {kvs : List (D × D)} {a : Addr}, DicR G as L H kvs a → refsLtK as.length kvs = true
  | _, _, .k h e r => by rw [refsLtK_split, e, refsLts_keys, RelDs.refs r]; rfl
  | _, _, .n h z e r1 r2 v => by rw [refsLtK_split, RelDs.refs r1, RelDs.refs r2]; rfl
theorem RelFs.refs : ∀ {d : List (Str × D)} {v : List (Str × V)}, RelFs G as L H d v → refsLtF as.length d = true
  | _, _, .nil => by simp [refsLtF]
  | _, _, .cons r t => by simp only [refsLtF, Bool.and_eq_true]; exact ⟨RelD.refs r, RelFs.refs t⟩
end
theorem CellR.cut {a : Addr} {d : D} (q : refsLt k d = true) (h : CellR G as L H a d) : CellR G (as.take k) L H a d := by
  cases d with
  | lst ds => obtain ⟨vs, e, r⟩ := h; exact ⟨vs, e, r.cut (by simpa only [refsLt] using q)⟩
  | dic kvs => exact (show DicR G as L H kvs a from h).cut (by simpa only [refsLt] using q)
  | obj c fs => obtain ⟨C, dx, vfs, c, e, e2, r⟩ := h; exact ⟨C, dx, vfs, c, e, e2, r.cut (by simpa only [refsLt] using q)⟩
  | _ => exact False.elim h
theorem CellR.refs {a : Addr} {d : D} (h : CellR G as L H a d) : refsLt as.length d = true := by
  cases d with
  | lst ds => obtain ⟨vs, e, r⟩ := h; simp only [refsLt]; exact r.refs
  | dic kvs => simp only [refsLt]; exact (show DicR G as L H kvs a from h).refs
  | obj c fs => obtain ⟨C, dx, vfs, c, e, e2, r⟩ := h; simp only [refsLt]; exact r.refs
  | _ => exact False.elim h
end
def cellLt (k : Nat) : Option D → Bool
  | some d => refsLt k d
  | none => true
/-- the store back to what it was at st0 (its cells may have changed) -/
def cutOk (st0 st' : Store) : Bool := decide (st0.length ≤ st'.length) && (decide (st'.take st0.length = st0) || (st'.take st0.length).all (cellLt st0.length))
section
variable {G : Gx} {as as0 as' : List Addr} {st st0 st' : Store} {H H0 H' : Hp} {L : Addr → Prop}
theorem cutOk_cells (s0 : StR G as0 st0 H0) (h : cutOk st0 st' = true) (i : Nat) (d : D) (hi : (st'.take st0.length)[i]? = some (some d)) : refsLt st0.length d = true := by
  unfold cutOk at h
  simp only [Bool.and_eq_true, Bool.or_eq_true, decide_eq_true_eq] at h
  rcases h.2 with h2 | h2
  · rw [h2] at hi
    obtain ⟨a, _, c⟩ := s0.cells i d hi
    have := c.refs
    rw [s0.len] at this; exact this
  · rw [List.all_eq_true] at h2
    exact h2 _ (List.mem_of_getElem? hi)
theorem live_cut {k : Nat} {b : Addr} (h : Live (as'.take k) (st'.take k) b) : Live as' st' b := by
  obtain ⟨i, d, h1, h2⟩ := h
  refine ⟨i, d, ?_, ?_⟩
  · by_cases hi : i < k
    · rw [List.getElem?_take_of_lt hi] at h1; exact h1
    · rw [List.getElem?_take_eq_none (by omega)] at h1; cases h1
  · by_cases hi : i < k
    · rw [List.getElem?_take_of_lt hi] at h2; exact h2
    · rw [List.getElem?_take_eq_none (by omega)] at h2; cases h2
theorem StR.cut (s0 : StR G as0 st0 H0) (s : StR G as' st' H') (h : cutOk st0 st' = true) : StRL G (as'.take st0.length) (Live as' st') (st'.take st0.length) H' := by
  refine ⟨by simp [s.len], s.nd.sublist (List.take_sublist _ _), fun i d hi => ?_, fun i a hi => ?_⟩
  · have q := cutOk_cells s0 h i d hi
    by_cases hk : i < st0.length
    · rw [List.getElem?_take_of_lt hk] at hi
      obtain ⟨a, h1, c⟩ := s.cells i d hi
      exact ⟨a, by rw [List.getElem?_take_of_lt hk]; exact h1, c.cut q⟩
    · rw [List.getElem?_take_eq_none (by omega)] at hi; cases hi
  · by_cases hk : i < st0.length
    · rw [List.getElem?_take_of_lt hk] at hi; exact s.there i a hi
    · rw [List.getElem?_take_eq_none (by omega)] at hi; cases hi
theorem Ext.cut (e : Ext as0 st0 H0 as' st' H') (s0 : StR G as0 st0 H0) : Ext as0 st0 H0 (as'.take st0.length) (st'.take st0.length) H' := by
  obtain ⟨m, rfl⟩ := e.pre
  have q : (as0 ++ m).take st0.length = as0 := by rw [← s0.len]; simp
  rw [q]
  refine ⟨List.prefix_refl _, fun i a h hi => ?_, fun i h => ?_, by have := e.len; simp; omega, e.keep, e.there⟩
  · rw [List.getElem?_eq_none_iff.mpr hi] at h; cases h
  · obtain ⟨hi, _⟩ := List.getElem?_eq_some_iff.mp h
    rw [List.getElem?_take_of_lt hi]; exact e.dead i h
end
/-- what a call hands back -/
def fin (st0 : Store) (w : Wv) (st' : Store) : Res Wv := if cutOk st0 st' = true then (match w with
  | .val (.ref m) => if m < st0.length then .ok (.val (.ref m)) (st'.take st0.length) else match st'[m]? with
    | some (some d) => if refsLt st0.length d = true then .ok (.new d) (st'.take st0.length) else .stuck
    | _ => .stuck
  | .val d => if refsLt st0.length d = true then .ok (.val d) (st'.take st0.length) else .stuck
  | .new d => if refsLt st0.length d = true then .ok (.new d) (st'.take st0.length) else .stuck) else .stuck
def finX (st0 : Store) (x : EX) (st' : Store) : Res Wv := if cutOk st0 st' = true ∧ (match x.row with | none => true | some d => refsLt st0.length d) = true then .exc x (st'.take st0.length) else .stuck
abbrev FnSem := List D → Store → Res Wv
def runP (n : Nat) (body : SM) : FnSem := fun ds st => match body (ds.map some ++ List.replicate (n - ds.length) none) st with
  | .nx _ st' => fin st (.val .non) st'
  | .ret w st' => fin st w st'
  | .exc _ x st' => finX st x st'
  | _ => .stuck
def spI (G : Gx) (n : Nat) (f : FnSem) : Sp := fun vs H Q Ex => vs.length = n ∧ ∃ as st ds, StR G as st H ∧ RelDs G as (Live as st) H ds vs ∧ Post G Ex as st H (f ds st) fun w as' st' H' => ∀ v, RelW G H as' st' H' w v → Q v H'
section
variable {G : Gx} {E : XK} {as as0 as' : List Addr} {st st0 st' : Store} {H H0 H' : Hp} {L : Addr → Prop}
theorem fin_ok {w w2 : Wv} {st2 : Store} (h : fin st0 w st' = .ok w2 st2) : cutOk st0 st' = true ∧ st2 = st'.take st0.length := by
  unfold fin at h
  by_cases c : cutOk st0 st' = true
  · rw [if_pos c] at h
    refine ⟨c, ?_⟩
    cases w with
    | new d =>
      by_cases q : refsLt st0.length d = true
      · simp only [q, if_true] at h; cases h; rfl
      · simp only [if_neg q] at h; cases h
    | val d =>
      cases d with
      | ref m =>
        simp only at h
        by_cases hm : m < st0.length
        · rw [if_pos hm] at h; cases h; rfl
        · rw [if_neg hm] at h
          split at h
          · split at h
            · cases h; rfl
            · cases h
          · cases h
      | _ =>
        simp only at h
        split at h
        · cases h; rfl
        · cases h
  · rw [if_neg c] at h; cases h
theorem fin_noexc {w : Wv} {x : EX} {st2 : Store} (h : fin st0 w st' = .exc x st2) : False := by
  unfold fin at h
  by_cases c : cutOk st0 st' = true
  · rw [if_pos c] at h
    cases w with
    | new d =>
      by_cases q : refsLt st0.length d = true
      · simp only [q, if_true] at h; cases h
      · simp only [if_neg q] at h; cases h
    | val d =>
      cases d with
      | ref m =>
        simp only at h
        by_cases hm : m < st0.length
        · rw [if_pos hm] at h; cases h
        · rw [if_neg hm] at h
          split at h
          · split at h
            · cases h
            · cases h
          · cases h
      | _ =>
        simp only at h
        split at h
        · cases h
        · cases h
  · rw [if_neg c] at h; cases h
theorem fin_rel {w w2 : Wv} {st2 : Store} {v : V} (s0 : StR G as0 st0 H0) (e : Ext as0 st0 H0 as' st' H') (s : StR G as' st' H') (r : RelW G H0 as' st' H' w v) (h : fin st0 w st' = .ok w2 st2) :
    StR G (as'.take st0.length) st2 H' ∧ RelW G H0 (as'.take st0.length) st2 H' w2 v := by
  obtain ⟨c, rfl⟩ := fin_ok h
  have sc := s0.cut s c
  refine ⟨sc.less fun b z => live_cut z, ?_⟩
  unfold fin at h
  rw [if_pos c] at h
  cases w with
  | new d =>
    by_cases q : refsLt st0.length d = true
    · simp only [q, if_true] at h
      cases h
      obtain ⟨p, rfl, hp, n, cr, sl⟩ := r
      refine ⟨p, rfl, hp, fun i hi => ?_, (cr.cut q).lessL fun b z => z.imp live_cut id, ?_⟩
      · by_cases hk : i < st0.length
        · rw [List.getElem?_take_of_lt hk] at hi; exact n i hi
        · rw [List.getElem?_take_eq_none (by omega)] at hi; cases hi
      · refine ⟨sc.len, sc.nd, fun i d' hi => ?_, sc.there⟩
        have q' := cutOk_cells s0 c i d' hi
        by_cases hk : i < st0.length
        · rw [List.getElem?_take_of_lt hk] at hi
          obtain ⟨a, h1, c'⟩ := sl.cells i d' hi
          exact ⟨a, by rw [List.getElem?_take_of_lt hk]; exact h1, (c'.cut q').lessL fun b z => z.imp live_cut id⟩
        · rw [List.getElem?_take_eq_none (by omega)] at hi; cases hi
    · simp only [if_neg q] at h; cases h
  | val d =>
    have r : RelD G as' (Live as' st') H' d v := r
    have fine : refsLt st0.length d = true → RelW G H0 (as'.take st0.length) (st'.take st0.length) H' (.val d) v := fun q => (r.cut q).lessL fun b z => live_cut z
    cases d with
    | ref m =>
      simp only at h
      by_cases hm : m < st0.length
      · rw [if_pos hm] at h; cases h
        exact fine (by simp [refsLt, hm])
      · rw [if_neg hm] at h
        cases q : st'[m]? with
        | none => simp only [q] at h; cases h
        | some o =>
          cases o with
          | none => simp only [q] at h; cases h
          | some d =>
            simp only [q] at h
            by_cases ql : refsLt st0.length d = true
            · rw [if_pos ql] at h
              cases h
              cases r with
              | @ref _ a ha =>
                obtain ⟨a', ha', cr⟩ := s.cells m d q
                rw [ha] at ha'; cases ha'
                have la : Live as' st' a := ⟨m, d, ha, q⟩
                refine ⟨a, rfl, e.new m a ha (by rw [s0.len]; omega), fun i hi => ?_, (cr.cut ql).lessL fun b z => z.elim live_cut fun z => z ▸ la, sc.less fun b z => z.elim live_cut fun z => z ▸ la⟩
                by_cases hk : i < st0.length
                · rw [List.getElem?_take_of_lt hk] at hi
                  obtain ⟨h1, e1⟩ := List.getElem?_eq_some_iff.mp ha
                  obtain ⟨h2, e2⟩ := List.getElem?_eq_some_iff.mp hi
                  have := (List.getElem_inj s.nd).mp (e1.trans e2.symm)
                  omega
                · rw [List.getElem?_take_eq_none (by omega)] at hi; cases hi
            · rw [if_neg ql] at h; cases h
    | _ =>
      simp only at h
      split at h
      · rename_i q
        cases h
        exact fine q
      · cases h
theorem EnvR.start {ds : List D} {vs : List V} {N : List Str} (r : RelDs G as L H ds vs) : EnvR G as L H (ds.map some ++ List.replicate (N.length - ds.length) none) (L2.start N vs) := by
  unfold L2.start
  refine ⟨by simp [r.length], fun i d h => ?_⟩
  by_cases hi : i < ds.length
  · rw [List.getElem?_append_left (by simpa using hi), List.getElem?_map] at h
    cases q : ds[i]? with
    | none => rw [q] at h; cases h
    | some d' =>
      rw [q] at h
      cases h
      obtain ⟨v, hv, rv⟩ := r.get q
      exact ⟨v, by rw [List.getElem?_append_left (by rw [List.length_map, ← r.length]; exact hi), List.getElem?_map, hv]; rfl, rv⟩
  · rw [List.getElem?_append_right (by simpa using hi)] at h
    rw [List.getElem?_replicate] at h
    split at h <;> cases h
/-- a def's body against its promise -/
theorem run_body {n : Nat} {N : List Str} {body : SM} {vs : List V} {Q : VK} {Ex : XK} (hn : N.length = n) (h : ∃ as st ds, StR G as st H ∧ RelDs G as (Live as st) H ds vs ∧ Post G Ex as st H (runP n body ds st) fun w as' st' H' => ∀ v, RelW G H as' st' H' w v → Q v H') :
    tS G (fun cv xd _ H => Ex cv xd H) body { nx := fun _ H' => Q .non H', rt := Q } (L2.start N vs) H := by
  obtain ⟨as, st, ds, s, r, p⟩ := h
  refine ⟨as, st, _, s, EnvR.start r, ?_⟩
  rw [hn]
  unfold runP at p
  cases q : body (ds.map some ++ List.replicate (n - ds.length) none) st with
  | nx env st' =>
    simp only [q] at p
    cases qf : fin st (.val .non) st' with
    | ok w2 st2 =>
      rw [qf] at p
      intro as' H' σ' e s' er'
      obtain ⟨s2, r2⟩ := fin_rel (w := .val .non) (v := .non) s e s' .non qf
      obtain ⟨_, rfl⟩ := fin_ok qf
      exact p _ H' (e.cut s) s2 _ r2
    | exc x st2 => exact (fin_noexc qf).elim
    | stuck => rw [qf] at p; exact p.elim
  | ret w st' =>
    simp only [q] at p
    cases qf : fin st w st' with
    | ok w2 st2 =>
      rw [qf] at p
      intro as' H' v e s' r'
      obtain ⟨s2, r2⟩ := fin_rel s e s' r' qf
      obtain ⟨_, rfl⟩ := fin_ok qf
      exact p _ H' (e.cut s) s2 _ r2
    | exc x st2 => exact (fin_noexc qf).elim
    | stuck => rw [qf] at p; exact p.elim
  | exc env x st' =>
    simp only [q] at p
    intro as' H' σ' cv xd e s' er' rx
    unfold finX at p
    by_cases c : cutOk st st' = true ∧ (match x.row with | none => true | some d => refsLt st.length d) = true
    · rw [if_pos c] at p
      obtain ⟨C, h1, h2, h3⟩ := rx
      refine p (as'.take st.length) H' cv xd (e.cut s) ((s.cut s' c.1).less fun b z => live_cut z) ⟨C, h1, h2, ?_⟩
      cases qr : x.row with
      | none => rw [qr] at h3; exact h3
      | some d =>
        rw [qr] at h3
        obtain ⟨pa, v, g1, g2, gl, g3⟩ := h3
        have c2 := c.2
        rw [qr] at c2
        exact ⟨pa, v, g1, g2, fun z => gl (live_cut z), (g3.cut c2).lessL fun b z => live_cut z⟩
    · rw [if_neg c] at p; exact p.elim
  | brk env st' => simp only [q] at p; exact p.elim
  | cnt env st' => simp only [q] at p; exact p.elim
  | stuck => simp only [q] at p; exact p.elim
end
end VI
namespace VI
open PySem PySem.Spec PyProof.Rows L2
/-- no exception -/
def E0 : XK := fun _ _ _ => False
def tvYes : TM := fun _ st => .ok true st
/-- [e for g in m if t]: the new list is a cell at k as long as it is made -/
def noX {α : Type} (r : Res α) : Res α := match r with
  | .exc _ _ => .stuck
  | r => r
def lcGo (iv : IterV) (g : GD) (t : TM) (e : EM) (k : Nat) : List D → List D → DEnv → Store → Res (List D)
  | [], acc, _, st => if srcOk iv st = true ∧ st[k]? = some (some (.lst acc)) then .ok acc st else .stuck
  | d :: r, acc, env, st => if srcOk iv st = true ∧ st[k]? = some (some (.lst acc)) then (match g d env with
    | none => .stuck
    | some env1 => (noX (t env1 st)).bind fun b st1 => if b = true then
        (noX (e env1 st1)).bind fun w st2 => if st2[k]? = some (some (.lst acc)) ∧ acc.length < 100000 then lcGo iv g t e k r (acc ++ [w.d]) env (st2.set k (some (.lst (acc ++ [w.d])))) else .stuck
      else lcGo iv g t e k r acc env st1) else .stuck
def evLc (own : List Nat) (m : IM) (g : GD) (t : TM) (e : EM) : EM := fun env st => (m env st).bind fun iv st1 =>
  (lcGo iv g t e st1.length iv.items [] (wipeD env own) (st1 ++ [some (.lst [])])).bind fun acc st2 =>
    if cutOk st1 st2 = true ∧ refsLts st1.length acc = true then .ok (.new (.lst acc)) (st2.take st1.length) else .stuck
section
variable {G : Gx} {E : WX} {X : Cx} {as as' as1 : List Addr} {st st' st1 : Store} {H H' H1 : Hp} {σ : L2.St}
theorem Post.noX {α : Type} {r : Res α} {R : α → List Addr → Store → Hp → Prop} (h : Post G (eAt E σ) as st H (noX r) R) : Post G E0 as st H r R := by
  cases r with
  | ok a st' => exact h
  | exc x st' => exact False.elim h
  | stuck => exact h
theorem Post.at {α : Type} {r : Res α} {R : α → List Addr → Store → Hp → Prop} (e : Ext as st H as1 st1 H1) (hl : as.length = st.length) (h : Post G (eAt E σ) as st H r R) : Post G (eAt E σ) as1 st1 H1 r R := by
  cases r with
  | ok a st' => exact fun as' H' e' s => h as' H' (e.trans e' hl) s
  | exc x st' => exact fun as' H' cv xd e' s r => h as' H' cv xd (e.trans e' hl) s r
  | stuck => exact h
theorem RelDs.append {L : Addr → Prop} : ∀ {xs ys : List D} {us ws : List V}, RelDs G as L H xs us → RelDs G as L H ys ws → RelDs G as L H (xs ++ ys) (us ++ ws)
  | _, _, _, _, .nil, s => s
  | _, _, _, _, .cons r t, s => .cons r (RelDs.append t s)
theorem wipe_twice (σ : L2.St) (vs : List Nat) : wipe (wipe σ vs) vs = wipe σ vs := by
  apply List.ext_getElem?
  intro j
  rw [wipe_get]
  by_cases hj : j ∈ vs
  · rw [if_pos hj, wipe_get, if_pos hj, wipe_length]
  · rw [if_neg hj]
theorem tI_lc {own : List Nat} {m : IM} {g : GD} {sl : List Nat} {t : TM} {e : EM} {Q : VK} (hsl : ∀ i ∈ sl, i ∈ own) (h : tI G E (evLc own m g t e) σ H Q) :
    tLc (tIt G E m) (tG G g sl) (tT G E0w t) (tI G E0w e) own σ H Q := by
  obtain ⟨as, st, env, s, er, p⟩ := h
  refine ⟨as, st, env, s, er, (p.bind s.len).mono fun iv as1 st1 H1 e1 s1 p1 J SJ Dl hD => ?_⟩
  have er1 := er.ext e1 s.len
  have eD : Ext as1 st1 H1 as1 st1 (upd H1 Dl (.lst [])) := Ext.lay hD
  have sD := s1.lay (o := .lst []) hD
  have cD : CellR G as1 (fun b => Live as1 st1 b ∨ b = Dl) (upd H1 Dl (.lst [])) Dl (.lst []) := ⟨[], upd_same, .nil⟩
  have sR := sD.reg (notLive s1 hD) cD
  have eR : Ext as1 st1 H1 (as1 ++ [Dl]) (st1 ++ [some (.lst [])]) (upd H1 Dl (.lst [])) := eD.regAt s1.len s1.len hD
  have hk : (as1 ++ [Dl])[st1.length]? = some Dl := by
    rw [List.getElem?_append_right (by have := s1.len; omega), show st1.length - as1.length = 0 by have := s1.len; omega]; rfl
  let Rf : List D → Store → Prop := fun acc st3 => Post G (eAt E σ) as1 st1 H1 (if cutOk st1 st3 = true ∧ refsLts st1.length acc = true then Res.ok (Wv.new (.lst acc)) (st3.take st1.length) else .stuck) fun w as4 st4 H4 => ∀ v, RelW G H as4 st4 H4 w v → Q v H4
  refine ⟨fun i m' H' => i ≤ iv.items.length ∧ m' = iv.items.length - i ∧ ∃ as2 st2 acc, Ext as1 st1 H1 as2 st2 H' ∧ StR G as2 st2 H' ∧ as2[st1.length]? = some Dl ∧
      Post G (eAt E σ) as2 st2 H' (lcGo iv g t e st1.length (iv.items.drop i) acc (wipeD env own) st2) fun acc as3 st3 H3 => Rf acc st3, ?_, ?_⟩
  · refine ⟨iv.items.length, by omega, by omega, _, _, [], eR, sR, hk, ?_⟩
    rw [List.drop_zero]
    cases qr : lcGo iv g t e st1.length iv.items [] (wipeD env own) (st1 ++ [some (.lst [])]) with
    | ok acc st2 =>
      rw [qr] at p1
      intro as3 H3 e3 s3
      exact p1
    | exc x st2 =>
      rw [qr] at p1
      intro as3 H3 cv xd e3 s3 r3
      exact p1 as3 H3 cv xd (eR.trans e3 s1.len) s3 r3
    | stuck => rw [qr] at p1; exact p1
  · rintro i m' H' ⟨hi, rfl, as2, st2, acc, e2, s2, hk2, p2⟩
    have erw : ∀ {as3 st3 H3}, Ext as1 st1 H1 as3 st3 H3 → EnvR G as3 (Live as3 st3) H3 (wipeD env own) (wipe σ own) := fun e3 => (er1.ext e3 s1.len).wipe own
    by_cases hlt : i < iv.items.length
    · rw [List.drop_eq_getElem_cons hlt] at p2
      unfold lcGo at p2
      by_cases ok : srcOk iv st2 = true ∧ st2[st1.length]? = some (some (.lst acc))
      · rw [if_pos ok] at p2
        obtain ⟨hgo, hy⟩ := SJ.go as2 st2 H' e2 s2 ok.1 i iv.items[i] (List.getElem?_eq_getElem hlt)
        refine .inr ⟨hgo, fun H3 => ∃ as3 st3 acc3, Ext as1 st1 H1 as3 st3 H3 ∧ StR G as3 st3 H3 ∧ as3[st1.length]? = some Dl ∧
          Post G (eAt E σ) as3 st3 H3 (lcGo iv g t e st1.length (iv.items.drop (i + 1)) acc3 (wipeD env own) st3) fun acc as3 st3 H3 => Rf acc st3,
          fun H3 ⟨as3, st3, acc3, q⟩ => ⟨iv.items.length - (i + 1), by omega, by omega, rfl, as3, st3, acc3, q⟩, fun x H2 hx => ?_⟩
        obtain ⟨e3, s3, r3⟩ := hy x H2 hx
        cases q : g iv.items[i] (wipeD env own) with
        | none => simp only [q] at p2; exact p2.elim
        | some env3 =>
          simp only [q] at p2
          have e12 := e2.trans e3 s1.len
          refine ⟨as2, st2, wipeD env own, iv.items[i], env3, s3, erw e12, r3, q, fun σ3 er3 sb => ⟨(sb own hsl).trans (wipe_twice σ own), as2, st2, env3, s3, er3, ?_⟩⟩
          have p3 := (Post.at e3 s2.len p2)
          refine (Post.noX (p3.bind s3.len)).mono fun b as4 st4 H4 e4 s4 p4 => ?_
          have hk4 : as4[st1.length]? = some Dl := pre_get e4.pre hk2
          cases b with
          | false =>
            rw [if_neg Bool.false_ne_true] at p4
            exact ⟨as4, st4, acc, e12.trans e4 s1.len, s4, hk4, p4⟩
          | true =>
            rw [if_pos rfl] at p4
            show tI G E0w e σ3 H4 _
            refine ⟨as4, st4, env3, s4, er3.ext e4 s3.len, (Post.noX (p4.bind s4.len)).mono fun w as5 st5 H5 e5 s5 p5 v5 r5 => ?_⟩
            have hk5 : as5[st1.length]? = some Dl := pre_get e5.pre hk4
            by_cases c : st5[st1.length]? = some (some (.lst acc)) ∧ acc.length < 100000
            · rw [if_pos c] at p5
              obtain ⟨a, ha, vs, hv, rv⟩ := s5.cells _ _ c.1
              rw [hk5] at ha; cases ha
              refine ⟨vs, hv, ?_, ?_⟩
              · rw [← rv.length]; exact Nat.lt_of_lt_of_le c.2 (by decide)
              · have live : Live as5 st5 Dl := ⟨_, _, hk5, c.1⟩
                have kp : ∀ b o, H5 b = some o → (¬ Live as5 st5 b ∨ notMut o = true) → upd H5 Dl (.lst (vs ++ [v5])) b = some o := fun b o eb k => by
                  have ne : b ≠ Dl := fun z => by
                    subst z
                    rcases k with k | k
                    · exact k live
                    · rw [hv] at eb; cases eb; cases k
                  rw [upd_ne ne]; exact eb
                have r5' : RelD G as5 (Live as5 st5) (upd H5 Dl (.lst (vs ++ [v5]))) w.d v5 := r5.d.mono (List.prefix_refl _) (fun _ _ n => n) kp
                have rv' : RelDs G as5 (Live as5 st5) (upd H5 Dl (.lst (vs ++ [v5]))) acc vs := rv.mono (List.prefix_refl _) (fun _ _ n => n) kp
                obtain ⟨a1, a2⟩ := s5.write (d := .lst (acc ++ [w.d])) (o := .lst (vs ++ [v5])) c.1 hk5 ⟨_, upd_same, rv'.append (.cons r5' .nil)⟩
                exact ⟨as5, _, _, ((e12.trans e4 s1.len).trans e5 s1.len).trans a2 s1.len, a1, hk5, Post.at a2 s5.len p5⟩
            · rw [if_neg c] at p5; exact p5.elim
      · rw [if_neg ok] at p2; exact p2.elim
    · rw [List.drop_of_length_le (by omega)] at p2
      unfold lcGo at p2
      by_cases ok : srcOk iv st2 = true ∧ st2[st1.length]? = some (some (.lst acc))
      · rw [if_pos ok] at p2
        refine .inl ⟨SJ.stop as2 st2 H' e2 s2 ok.1 i (by omega), ?_⟩
        have p3 : Rf acc st2 := p2.now s2
        by_cases c : cutOk st1 st2 = true ∧ refsLts st1.length acc = true
        · simp only [Rf, if_pos c] at p3
          obtain ⟨a, ha, cr⟩ := s2.cells _ _ ok.2
          rw [hk2] at ha; cases ha
          have q : refsLt st1.length (.lst acc) = true := by simp only [refsLt]; exact c.2
          have sc := s1.cut s2 c.1
          have la : Live as2 st2 Dl := ⟨_, _, hk2, ok.2⟩
          refine p3 (as2.take st1.length) H' (e2.cut s1) (sc.less fun b z => live_cut z) (.ref Dl) ⟨Dl, rfl, e1.fresh hD, fun i hi => ?_, (cr.cut q).lessL fun b z => z.elim live_cut fun z => z ▸ la, sc.less fun b z => z.elim live_cut fun z => z ▸ la⟩
          by_cases hk : i < st1.length
          · rw [List.getElem?_take_of_lt hk] at hi
            obtain ⟨h1, e1'⟩ := List.getElem?_eq_some_iff.mp hk2
            obtain ⟨h2, e2'⟩ := List.getElem?_eq_some_iff.mp hi
            have := (List.getElem_inj s2.nd).mp (e1'.trans e2'.symm)
            omega
          · rw [List.getElem?_take_eq_none (by omega)] at hi; cases hi
        · simp only [Rf, if_neg c] at p3; exact p3.elim
      · rw [if_neg ok] at p2; exact p2.elim
theorem pI_lc {elt tg iter : Expr} {ifs : List Expr} {scope : Scope} {own : List (Str × Nat)} {pos : Pos} {m : IM} {g : GD} {sl : List Nat} {t : TM} {e : EM} (hc : X.calm = true) (hN : X.N.Nodup) (hi : PI X tg iter (tIt G E m)) (ok : BlkOk X.N X.env.scope scope own)
    (hg : ∀ (s : Shared) (H : Hp) (C : Addr) (cl : List (Str × Addr)) (fp : List Addr), PG (X.blk s H scope (compEnvC scope cl C X.env) fp) tg (tG G g sl)) (ht : ∀ (s : Shared) (H : Hp) (C : Addr) (cl : List (Str × Addr)) (fp : List Addr), PTs (X.blk s H scope (compEnvC scope cl C X.env) fp) ifs (tT G E0w t))
    (he : ∀ (s : Shared) (H : Hp) (C : Addr) (cl : List (Str × Addr)) (fp : List Addr), PE (X.blk s H scope (compEnvC scope cl C X.env) fp) elt (tI G E0w e)) (hsl : ∀ i ∈ sl, i ∈ own.map (·.2)) (hs : ∀ x, foldedSetIterable iter X.env x = pure x := by intro _; rfl) :
    PE X (.ListComp elt [⟨tg, iter, ifs, 0⟩] scope pos) (tI G E (evLc (own.map (·.2)) m g t e)) := (pe_lc hc hN hi ok hg ht he hs).vi fun _ _ _ => tI_lc hsl
theorem pTs_nil : PTs X [] (tT G E tvYes) := ⟨fun pins s σ H Q I h => pts_nil.run pins s σ H Q I (by
  obtain ⟨as, st, env, sr, er, p⟩ := h
  exact p.now sr)⟩
theorem pTs_one {c : Expr} {t : TM} (h : PT X c (tT G E t)) : PTs X [c] (tT G E t) := pts_one h
end
end VI
namespace VI
open PySem PySem.Spec PyProof.Rows L2
/-! ### machine-level rules that the layer lacks -/
section
variable {X : Cx}
def rCatL (K : PySem.W.Frag) : R2 := fun x y H Q => ∃ l b xs zs, x = .ref l ∧ y = .ref b ∧ SqL K H l xs ∧ SqL K H b zs ∧ xs.length + zs.length ≤ sizeLine ∧ ∀ p, H p = none → Q (.ref p) (upd H p (.lst (xs ++ zs)))
theorem op_catL : OpR X (binaryOp .Add) (rCatL X.K) := by
  intro pins s σ H x y v u Q I rx ry h
  obtain ⟨l, b, xs, zs, rfl, rfl, hH, hB, hz, q⟩ := h
  cases rx
  cases ry
  obtain ⟨its, r, ⟨⟨c1, d1, t1, s1⟩, n1, e1, ec1, ed1, et1⟩, z1⟩ := I.list hH
  obtain ⟨its2, r2, ⟨⟨c2, d2, t2, s2⟩, n2, e2, ec2, ed2, et2⟩, z2⟩ := I.list hB
  simp only at ec1 ed1 et1 ec2 ed2 et2
  subst ec1 ed1 et1 ec2 ed2 et2
  have ea : its.toArray ++ its2.toArray = (its ++ its2).toArray := by simp
  refine concat_meets ⟨_, e1, rfl⟩ ⟨_, e2, rfl⟩ noFill_list_add seq_list_add PySem.F.slot_list_add PySem.F.entry_list_add (PySem.F.args_list_add_2 _ _) (list_addW l b its.toArray its2.toArray n1 n2 none none s1 s2 (by rw [List.size_toArray, List.size_toArray, ← r.length, ← r2.length]; exact hz)) ⟨e1, e2, ?_⟩
  rw [ea]
  exact ⟨.ref _, _, I.lnew (t' := s.toks) (r.append r2) (by rw [List.length_append]; omega), rfl, q _ I.fresh⟩
end

/-! ### pure data, compared -/
mutual
def toPy : D → PyData
  | .non => .none
  | .bl b => .bool b
  | .int i => .int i
  | .str x => .str x
  | .tup ds => .tuple (toPys ds)
  | .lst ds => .list (toPys ds)
  | _ => .none
def toPys : List D → List PyData
  | [] => []
  | d :: ds => toPy d :: toPys ds
end
mutual
/-- none, truths, numbers, texts, tuples and lists of such -/
def isPy : D → Bool
  | .non => true
  | .bl _ => true
  | .int _ => true
  | .str _ => true
  | .tup ds => isPys ds
  | .lst ds => isPys ds
  | _ => false
def isPys : List D → Bool
  | [] => true
  | d :: ds => isPy d && isPys ds
end
def eqD (a b : D) : Bool := PyData.eqv (toPy a) (toPy b)
section
variable {G : Gx} {E : WX} {as as' : List Addr} {st st' : Store} {H : Hp} {L : Addr → Prop}
mutual
theorem RelD.dp : ∀ {d : D} {v : V}, RelD G as L H d v → isPy d = true → Dp G.K H v (toPy d)
  | _, _, .non, _ => by simp only [toPy]; exact .non
  | _, _, .bl b, _ => by simp only [toPy]; exact .bl b
  | _, _, .int i, _ => by simp only [toPy]; exact .int i
  | _, _, .str x, _ => by simp only [toPy]; exact .str x
  | _, _, .ty n, q => by simp [isPy] at q
  | _, _, .cl h, q => by simp [isPy] at q
  | _, _, .ref h, q => by simp [isPy] at q
  | _, _, .tup h r, q => by simp only [toPy]; exact .tup h (RelDs.dp r (by simpa only [isPy] using q))
  | _, _, .lst h n r, q => by simp only [toPy]; exact .lst (.inl h) (RelDs.dp r (by simpa only [isPy] using q))
  | _, _, .lstK h r, q => by simp only [toPy]; exact .lst (.inr h) (RelDs.dp r (by simpa only [isPy] using q))
  | _, _, .err c h n, q => by simp [isPy] at q
  | _, _, .errR c h n hp np r, q => by simp [isPy] at q
  | _, _, .dic h n, q => by simp [isPy] at q
  | _, _, .obj c h1 h2 n r, q => by simp [isPy] at q
theorem RelDs.dp : ∀ {d : List D} {v : List V}, RelDs G as L H d v → isPys d = true → DpAll G.K H v (toPys d)
  | _, _, .nil, _ => by simp only [toPys]; exact .nil
  | _, _, .cons r t, q => by
    simp only [isPys, Bool.and_eq_true] at q
    simp only [toPys]; exact .cons (RelD.dp r q.1) (RelDs.dp t q.2)
end
mutual
theorem toPy_plain : ∀ d : D, (toPy d).plain = true
  | .non => by simp [toPy, PyData.plain]
  | .bl _ => by simp [toPy, PyData.plain]
  | .int _ => by simp [toPy, PyData.plain]
  | .str _ => by simp [toPy, PyData.plain]
  | .ty _ => by simp [toPy, PyData.plain]
  | .cl _ => by simp [toPy, PyData.plain]
  | .ref _ => by simp [toPy, PyData.plain]
  | .tup ds => by simp only [toPy, PyData.plain]; exact toPys_plain ds
  | .lst ds => by simp only [toPy, PyData.plain]; exact toPys_plain ds
  | .dic _ => by simp [toPy, PyData.plain]
  | .obj _ _ => by simp [toPy, PyData.plain]
theorem toPys_plain : ∀ ds : List D, PyData.plainAll (toPys ds) = true
  | [] => by simp [toPys, PyData.plainAll]
  | d :: ds => by simp only [toPys, PyData.plainAll, toPy_plain d, toPys_plain ds, Bool.and_self]
end
/-- a value, a cell's list as the list -/
def unref (d : D) (st : Store) : D := match d with
  | .ref n => match st[n]? with
    | some (some (.lst ds)) => .lst ds
    | _ => .ref n
  | d => d
theorem unref_dp (s : StR G as st H) {d : D} {v : V} (r : RelD G as (Live as st) H d v) (q : isPy (unref d st) = true) : Dp G.K H v (toPy (unref d st)) := by
  cases d with
  | ref n =>
    cases e : st[n]? with
    | none => simp [unref, e, isPy] at q
    | some o =>
      cases o with
      | none => simp [unref, e, isPy] at q
      | some d =>
        cases d with
        | lst ds =>
          simp only [unref, e] at q ⊢
          cases r with
          | @ref _ a ha =>
            obtain ⟨a', ha', vs, hv, rr⟩ := s.cells n _ e
            rw [ha] at ha'; cases ha'
            simp only [toPy]
            exact .lst (.inl (.inl hv)) (rr.dp (by simpa only [isPy] using q))
        | _ => simp [unref, e, isPy] at q
  | _ => exact r.dp q
end
def shallow (a b : D) : Bool := decide (min (toPy a).depth (toPy b).depth ≤ 60)
def fEq (neg : Bool) (a b : D) (st : Store) : Res Wv :=
  if (isPy (unref a st) && isPy (unref b st) && shallow (unref a st) (unref b st)) = true then .ok (.val (.bl (if neg then !eqD (unref a st) (unref b st) else eqD (unref a st) (unref b st)))) st else .stuck
def rEqP (K : PySem.W.Frag) (neg : Bool) : R2 := fun x y H Q => ∃ d e, Dp K H x d ∧ Dp K H y e ∧ d.plain = true ∧ e.plain = true ∧ min d.depth e.depth ≤ 60 ∧ Q (.bl (if neg then !PyData.eqv d e else PyData.eqv d e)) H
section
variable {X : Cx} {G : Gx} {E : WX}
theorem op_eqP (hu : X.A.units + 64 < cLine) : OpR X (compareOp .Eq) (rEqP X.K false) := by
  intro pins s σ H x y v u Q I rx ry h
  obtain ⟨d, e, hd, he, sd, se, hm, q⟩ := h
  obtain ⟨as, r1⟩ := Dp.reads I d x v hd rx
  obtain ⟨bs, r2⟩ := Dp.reads I e y u he ry
  exact SeqAt.eq_plain r1 r2 sd se (by omega) ⟨.bl _, H, I, rfl, q⟩
theorem op_neP (hu : X.A.units + 64 < cLine) : OpR X (compareOp .NotEq) (rEqP X.K true) := by
  intro pins s σ H x y v u Q I rx ry h
  obtain ⟨d, e, hd, he, sd, se, hm, q⟩ := h
  obtain ⟨as, r1⟩ := Dp.reads I d x v hd rx
  obtain ⟨bs, r2⟩ := Dp.reads I e y u he ry
  exact SeqAt.ne_plain r1 r2 sd se (by omega) ⟨.bl _, H, I, rfl, q⟩
theorem opS_eq {neg : Bool} : OpS G E (fEq neg) (rEqP G.K neg) := by
  intro E' as st H d1 d2 x y Q s r1 r2 p
  unfold fEq at p
  split at p
  · rename_i c
    simp only [Bool.and_eq_true, shallow, decide_eq_true_eq] at c
    exact ⟨_, _, unref_dp s r1 c.1.1, unref_dp s r2 c.1.2, toPy_plain _, toPy_plain _, c.2, p.now s _ (.bl _)⟩
  · exact p.elim

/-! ### + -/
def catOk {α : Type} (a b : List α) : Bool := decide (a.length + b.length ≤ 100000)
def fAdd (a b : D) (st : Store) : Res Wv := match a, b with
  | .int i, .int j => .ok (.val (.int (i + j))) st
  | .str x, .str y => if x.length + y.length ≤ 100000 then .ok (.val (.str (x ++ y))) st else .stuck
  | .tup x, .tup y => if catOk x y = true then .ok (.val (.tup (x ++ y))) st else .stuck
  | a, b => match lstOf a st, lstOf b st with
    | some (x, _), some (y, _) => if catOk x y = true then .ok (.new (.lst (x ++ y))) st else .stuck
    | _, _ => .stuck
def rAddA (K : PySem.W.Frag) : R2 := fun x y H Q => (∃ i j, x = .int i ∧ y = .int j ∧ Q (.int (i + j)) H) ∨ (∃ i j, x = .str i ∧ y = .str j ∧ i.length + j.length ≤ sizeLine ∧ Q (.str (i ++ j)) H) ∨ rCatA K x y H Q ∨ rCatL K x y H Q
theorem op_addA : OpR X (binaryOp .Add) (rAddA X.K) := OpR.or op_add (OpR.or op_add_str (OpR.or op_catA op_catL))
theorem catOk_len {α : Type} {a b : List α} (h : catOk a b = true) : a.length + b.length ≤ sizeLine := szl (by simpa [catOk] using h)
theorem opS_add : OpS G E fAdd (rAddA G.K) := by
  intro E' as st H d1 d2 x y Q s r1 r2 p
  unfold fAdd at p
  split at p
  · cases r1; cases r2
    exact .inl ⟨_, _, rfl, rfl, p.now s _ (.int _)⟩
  · cases r1; cases r2
    split at p
    · rename_i h
      exact .inr (.inl ⟨_, _, rfl, rfl, szl h, p.now s _ (.str _)⟩)
    · exact p.elim
  · split at p
    · rename_i h
      cases r1 with
      | @tup a p1 vs h1 hr1 =>
      cases r2 with
      | @tup b p2 ws h2 hr2 =>
      have hl := catOk_len h
      rw [hr1.length, hr2.length] at hl
      refine .inr (.inr (.inl ⟨p1, p2, vs, ws, rfl, rfl, h1, h2, hl, fun e => ?_, fun e1 e => ?_, fun e1 e2 t ht => ?_⟩))
      · subst e
        cases hr1
        exact p.now s _ (.tup h2 hr2)
      · subst e
        cases hr2
        rw [List.append_nil] at p
        exact p.now s _ (.tup h1 hr1)
      · exact p as _ (Ext.lay ht) (s.laid ht) _ (RelD.newTup s (hr1.append hr2) ht)
    · exact p.elim
  · cases q1 : lstOf d1 st with
    | none => simp only [q1] at p; exact p.elim
    | some o1 =>
      obtain ⟨a, sa⟩ := o1
      cases q2 : lstOf d2 st with
      | none => simp only [q1, q2] at p; exact p.elim
      | some o2 =>
        obtain ⟨b, sb⟩ := o2
        simp only [q1, q2] at p
        split at p
        · rename_i h
          obtain ⟨p1, vs, rfl, h1, hr1⟩ := lstOf_sq s r1 q1
          obtain ⟨p2, ws, rfl, h2, hr2⟩ := lstOf_sq s r2 q2
          have hl := catOk_len h
          rw [hr1.length, hr2.length] at hl
          exact .inr (.inr (.inr ⟨p1, p2, vs, ws, rfl, rfl, h1, h2, hl, fun t ht => p as _ (Ext.lay ht) (s.laid ht) _ (RelW.newLst s (hr1.append hr2) ht)⟩))
        · exact p.elim

/-! ### ints -/
def fSub (a b : D) (st : Store) : Res Wv := match a, b with
  | .int i, .int j => .ok (.val (.int (i - j))) st
  | _, _ => .stuck
def smallF (i : Int) : Bool := decide (-(2 ^ 64) < i) && decide (i < 2 ^ 64)
def fMod (a b : D) (st : Store) : Res Wv := match a, b with
  | .int i, .int j => if 0 < j then .ok (.val (.int (i % j))) st else .stuck
  | _, _ => .stuck
def fDiv (a b : D) (st : Store) : Res Wv := match a, b with
  | .int i, .int j => if 0 < j ∧ j < 1073741824 then .ok (.val (.int (i / j))) st else .stuck
  | _, _ => .stuck
def fPow (a b : D) (st : Store) : Res Wv := match a, b with
  | .int i, .int j => if 0 ≤ j ∧ j ≤ 1000000 ∧ i.natAbs < 2 ^ 64 then .ok (.val (.int (i ^ j.toNat))) st else .stuck
  | _, _ => .stuck
def fNeg (a : D) (st : Store) : Res Wv := match a with
  | .int i => .ok (.val (.int (-i))) st
  | _ => .stuck
theorem opS_sub : OpS G E fSub (rI0 fun i j => .int (i - j)) := by
  intro E' as st H d1 d2 x y Q s r1 r2 p
  unfold fSub at p
  split at p
  · cases r1; cases r2
    exact ⟨_, _, rfl, rfl, p.now s _ (.int _)⟩
  · exact p.elim
theorem opS_mod : OpS G E fMod (rI (fun _ j => 0 < j) fun i j => .int (i % j)) := by
  intro E' as st H d1 d2 x y Q s r1 r2 p
  unfold fMod at p
  split at p
  · cases r1; cases r2
    split at p
    · rename_i h
      exact ⟨_, _, rfl, rfl, h, p.now s _ (.int _)⟩
    · exact p.elim
  · exact p.elim
theorem opS_div : OpS G E fDiv (rI CDiv fun i j => .int (i / j)) := by
  intro E' as st H d1 d2 x y Q s r1 r2 p
  unfold fDiv at p
  split at p
  · cases r1; cases r2
    split at p
    · rename_i h
      exact ⟨_, _, rfl, rfl, h, p.now s _ (.int _)⟩
    · exact p.elim
  · exact p.elim
theorem opS_pow : OpS G E fPow (rI CPow fun i j => .int (i ^ j.toNat)) := by
  intro E' as st H d1 d2 x y Q s r1 r2 p
  unfold fPow at p
  split at p
  · cases r1; cases r2
    split at p
    · rename_i h
      exact ⟨_, _, rfl, rfl, h, p.now s _ (.int _)⟩
    · exact p.elim
  · exact p.elim
theorem unS_neg : UnS G E fNeg (rU fun i => .int (-i)) := by
  intro E' as st H d x Q s r p
  unfold fNeg at p
  split at p
  · cases r
    exact ⟨_, rfl, p.now s _ (.int _)⟩
  · exact p.elim
/-! ### * : ints (one small), a list or a tuple or a text times an int -/
def fMul (a b : D) (st : Store) : Res Wv := match a, b with
  | .int i, .int j => if (smallF i || smallF j) = true then .ok (.val (.int (i * j))) st else .stuck
  | _, _ => .stuck
theorem opS_mul : OpS G E fMul (rI CMul fun i j => .int (i * j)) := by
  intro E' as st H d1 d2 x y Q s r1 r2 p
  unfold fMul at p
  split at p
  · cases r1; cases r2
    split at p
    · rename_i h
      simp only [smallF, Bool.or_eq_true, Bool.and_eq_true, decide_eq_true_eq] at h
      exact ⟨_, _, rfl, rfl, h, p.now s _ (.int _)⟩
    · exact p.elim
  · exact p.elim
/-! ### order of ints -/
def fCmp (f : Int → Int → Bool) (a b : D) (st : Store) : Res Wv := match a, b with
  | .int i, .int j => .ok (.val (.bl (f i j))) st
  | _, _ => .stuck
abbrev fLt := fCmp fun i j => decide (i < j)
abbrev fLe := fCmp fun i j => decide (i ≤ j)
abbrev fGt := fCmp fun i j => decide (j < i)
abbrev fGe := fCmp fun i j => decide (j ≤ i)
theorem opS_cmp {f : Int → Int → Bool} : OpS G E (fCmp f) (rI0 fun i j => .bl (f i j)) := by
  intro E' as st H d1 d2 x y Q s r1 r2 p
  unfold fCmp at p
  split at p
  · cases r1; cases r2
    exact ⟨_, _, rfl, rfl, p.now s _ (.bl _)⟩
  · exact p.elim
/-! ### is -/
def fIsB (a b : D) (st : Store) : Res Wv := match a, b with
  | .bl i, .bl j => .ok (.val (.bl (decide (i = j)))) st
  | _, _ => .stuck
theorem opS_isB : OpS G E fIsB (fun x y H Q => ∃ a b, x = .bl a ∧ y = .bl b ∧ Q (.bl (decide (a = b))) H) := by
  intro E' as st H d1 d2 x y Q s r1 r2 p
  unfold fIsB at p
  split at p
  · cases r1; cases r2
    exact ⟨_, _, rfl, rfl, p.now s _ (.bl _)⟩
  · exact p.elim
def noneD : D → Bool
  | .non => true
  | _ => false
def fIsN (neg : Bool) (a b : D) (st : Store) : Res Wv := match b with
  | .non => .ok (.val (.bl (if neg then !noneD a else noneD a))) st
  | _ => .stuck
theorem RelD.isNon_eq {as : List Addr} {L : Addr → Prop} {H : Hp} {d : D} {v : V} (r : RelD G as L H d v) : decide (v = .non) = noneD d := by
  cases r <;> simp [noneD]
theorem opS_isN : OpS G E (fIsN false) (fun x y H Q => y = .non ∧ Q (.bl (decide (x = .non))) H) := by
  intro E' as st H d1 d2 x y Q s r1 r2 p
  unfold fIsN at p
  split at p
  · cases r2
    refine ⟨rfl, ?_⟩
    rw [r1.isNon_eq]
    exact p.now s _ (.bl _)
  · exact p.elim
theorem opS_isNn : OpS G E (fIsN true) (fun x y H Q => y = .non ∧ Q (.bl (!decide (x = .non))) H) := by
  intro E' as st H d1 d2 x y Q s r1 r2 p
  unfold fIsN at p
  split at p
  · cases r2
    refine ⟨rfl, ?_⟩
    rw [r1.isNon_eq]
    exact p.now s _ (.bl _)
  · exact p.elim
end
end VI
namespace VI
open PySem PySem.Spec PyProof.Rows L2
/-! ### in -/
section
variable {X : Cx} {G : Gx} {E : WX}
def rInP (K : PySem.W.Frag) (neg : Bool) : R2 := fun x y H Q => ∃ d ds, Dp K H x d ∧ (Dp K H y (.list ds) ∨ Dp K H y (.tuple ds)) ∧ d.plain = true ∧ PyData.plainAll ds = true ∧ min (PyData.depthAll ds) d.depth ≤ 60 ∧ Q (.bl (if neg then !(ds.any fun z => PyData.eqv z d) else ds.any fun z => PyData.eqv z d)) H
theorem op_inP (hu : X.A.units + 64 < cLine) : OpR X (compareOp .In) (rInP X.K false) := by
  intro pins s σ H x y v u Q I rx ry h
  obtain ⟨d, ds, hd, he, sd, se, hm, q⟩ := h
  obtain ⟨as, r1⟩ := Dp.reads I d x v hd rx
  rcases he with he | he
  · obtain ⟨bs, r2⟩ := Dp.reads I _ y u he ry
    exact SeqAt.in_list_data r2 r1 se sd (by omega) ⟨.bl _, H, I, rfl, q⟩
  · obtain ⟨bs, r2⟩ := Dp.reads I _ y u he ry
    exact SeqAt.in_tuple_data r2 r1 se sd (by omega) ⟨.bl _, H, I, rfl, q⟩
theorem op_ninP (hu : X.A.units + 64 < cLine) : OpR X (compareOp .NotIn) (rInP X.K true) := by
  intro pins s σ H x y v u Q I rx ry h
  obtain ⟨d, ds, hd, he, sd, se, hm, q⟩ := h
  obtain ⟨as, r1⟩ := Dp.reads I d x v hd rx
  rcases he with he | he
  · obtain ⟨bs, r2⟩ := Dp.reads I _ y u he ry
    exact SeqAt.notIn_list_data r2 r1 se sd (by omega) ⟨.bl _, H, I, rfl, q⟩
  · obtain ⟨bs, r2⟩ := Dp.reads I _ y u he ry
    exact SeqAt.notIn_tuple_data r2 r1 se sd (by omega) ⟨.bl _, H, I, rfl, q⟩
def strIn (i j : Str) : Bool := !(Builtin.Str.occurrences j i 0 j.length 1).isEmpty
def inDs (d : D) (ds : List D) : Bool := ds.any fun z => eqD z d
def shallowIn (d : D) (ds : List D) : Bool := decide (min (PyData.depthAll (toPys ds)) (toPy d).depth ≤ 60)
theorem toPys_map : ∀ ds : List D, toPys ds = ds.map toPy
  | [] => by simp [toPys]
  | d :: ds => by simp only [toPys, List.map_cons, toPys_map ds]
theorem inDs_py (d : D) (ds : List D) : ((toPys ds).any fun z => PyData.eqv z (toPy d)) = inDs d ds := by
  rw [toPys_map, List.any_map]; rfl
def fIn (neg : Bool) (a b : D) (st : Store) : Res Wv := match a, b with
  | .str i, .str j => .ok (.val (.bl (if neg then !strIn i j else strIn i j))) st
  | a, b => match unref b st with
    | .lst ds => if (isPy a && isPys ds && shallowIn a ds) = true then .ok (.val (.bl (if neg then !inDs a ds else inDs a ds))) st else .stuck
    | .tup ds => if (isPy a && isPys ds && shallowIn a ds) = true then .ok (.val (.bl (if neg then !inDs a ds else inDs a ds))) st else .stuck
    | _ => .stuck
def rInA (K : PySem.W.Frag) (neg : Bool) : R2 := fun x y H Q => (∃ i j, x = .str i ∧ y = .str j ∧ Q (.bl (if neg then !strIn i j else strIn i j)) H) ∨ rInP K neg x y H Q
theorem op_inA (hu : X.A.units + 64 < cLine) : OpR X (compareOp .In) (rInA X.K false) := OpR.or op_in_str (op_inP hu)
theorem op_ninA (hu : X.A.units + 64 < cLine) : OpR X (compareOp .NotIn) (rInA X.K true) := OpR.or op_notin_str (op_ninP hu)
theorem opS_in {neg : Bool} : OpS G E (fIn neg) (rInA G.K neg) := by
  intro E' as st H d1 d2 x y Q s r1 r2 p
  unfold fIn at p
  split at p
  · cases r1; cases r2
    exact .inl ⟨_, _, rfl, rfl, p.now s _ (.bl _)⟩
  · refine .inr ?_
    split at p
    · rename_i ds e
      split at p
      · rename_i c
        simp only [Bool.and_eq_true, shallowIn, decide_eq_true_eq] at c
        have h := unref_dp s r2 (by rw [e]; simp only [isPy]; exact c.1.2)
        rw [e] at h
        simp only [toPy] at h
        refine ⟨toPy d1, toPys ds, r1.dp c.1.1, .inl h, toPy_plain _, toPys_plain _, c.2, ?_⟩
        rw [inDs_py]
        exact p.now s _ (.bl _)
      · exact p.elim
    · rename_i ds e
      split at p
      · rename_i c
        simp only [Bool.and_eq_true, shallowIn, decide_eq_true_eq] at c
        have h := unref_dp s r2 (by rw [e]; simp only [isPy]; exact c.1.2)
        rw [e] at h
        simp only [toPy] at h
        refine ⟨toPy d1, toPys ds, r1.dp c.1.1, .inr h, toPy_plain _, toPys_plain _, c.2, ?_⟩
        rw [inDs_py]
        exact p.now s _ (.bl _)
      · exact p.elim
    · exact p.elim
end
/-! ### x[i], x[a:b] -/
def cutD {α : Type} (xs : List α) (lo hi : Option Int) : List α := (xs.drop (HT.sIx xs.length 0 lo)).take (HT.sIx xs.length xs.length hi - HT.sIx xs.length 0 lo)
def fIx (a b : D) (st : Store) : Res Wv := match a, b with
  | .str z, .int i => if z.length ≤ 100000 then (match atI z.cps.toList i with
    | some c => .ok (.val (.str ⟨#[c]⟩)) st
    | none => .stuck) else .stuck
  | .tup ds, .int i => match atI ds i with
    | some d => .ok (.val d) st
    | none => .stuck
  | a, .int i => match lstOf a st with
    | some (ds, _) => match atI ds i with
      | some d => .ok (.val d) st
      | none => .stuck
    | none => .stuck
  | _, _ => .stuck
def fSl (a : D) (lo hi : Option Int) (st : Store) : Res Wv := match a with
  | .str z => if z.length ≤ 100000 then .ok (.val (.str (cutS z lo hi))) st else .stuck
  | .tup ds => .ok (.val (.tup (cutD ds lo hi))) st
  | a => match lstOf a st with
    | some (ds, _) => .ok (.new (.lst (cutD ds lo hi))) st
    | none => .stuck
abbrev BM := DEnv → Store → Res (Option Int)
def bNone : BM := fun _ st => .ok none st
def bSome (m : EM) : BM := fun env st => (m env st).bind fun w st1 => match w.d with
  | .int i => .ok (some i) st1
  | _ => .stuck
def evSl (e : EM) (lo hi : BM) : EM := fun env st => (e env st).bind fun w st1 => (lo env st1).bind fun l st2 => (hi env st2).bind fun h st3 => fSl w.d l h st3
def tOI (G : Gx) (E : WX) (m : BM) : TO := fun σ H Q => ∃ as st env, StR G as st H ∧ EnvR G as (Live as st) H env σ ∧ Post G (eAt E σ) as st H (m env st) fun o as' st' H' => Q o H'
theorem _root_.L2.PO.vi {X : Cx} {e : Option Expr} {t t' : TO} (h : PO X e t) (k : ∀ σ H Q, t' σ H Q → t σ H Q) : PO X e t' := ⟨fun pins s σ H Q I q => h.run pins s σ H Q I (k σ H Q q)⟩
section
variable {X : Cx} {G : Gx} {E : WX} {as as' : List Addr} {st st' : Store} {H : Hp} {L : Addr → Prop}
theorem RelDs.take : ∀ {ds : List D} {vs : List V} (n : Nat), RelDs G as L H ds vs → RelDs G as L H (ds.take n) (vs.take n)
  | _, _, 0, _ => .nil
  | _, _, _ + 1, .nil => .nil
  | _, _, n + 1, .cons r t => .cons r (RelDs.take n t)
theorem RelDs.drop : ∀ {ds : List D} {vs : List V} (n : Nat), RelDs G as L H ds vs → RelDs G as L H (ds.drop n) (vs.drop n)
  | _, _, 0, r => r
  | _, _, _ + 1, .nil => .nil
  | _, _, n + 1, .cons _ t => RelDs.drop n t
theorem RelDs.cutV {ds : List D} {vs : List V} {lo hi : Option Int} (r : RelDs G as L H ds vs) : RelDs G as L H (cutD ds lo hi) (cutV vs lo hi) := by
  unfold cutD L2.cutV
  rw [r.length]
  exact (r.drop _).take _
theorem RelDs.atI {ds : List D} {vs : List V} {i : Int} {d : D} (r : RelDs G as L H ds vs) (h : L2.atI ds i = some d) : ∃ v, L2.atI vs i = some v ∧ RelD G as L H d v := by
  unfold L2.atI at h ⊢
  rw [r.length] at h
  cases q : ixN vs.length i with
  | none => rw [q] at h; cases h
  | some j =>
    rw [q] at h
    exact r.get h
theorem opS_ix : OpS G E fIx (rIx G.K) := by
  intro E' as st H d1 d2 x y Q s r1 r2 p
  unfold fIx at p
  split at p
  · cases r1; cases r2
    split at p
    · rename_i hl
      split at p
      · rename_i c hc
        exact .inr (.inr ⟨_, _, _, rfl, rfl, szl hl, hc, p.now s _ (.str _)⟩)
      · exact p.elim
    · exact p.elim
  · cases r2
    cases r1 with
    | @tup ds pa vs h1 hr =>
    split at p
    · rename_i d hd
      obtain ⟨v, hv, rv⟩ := hr.atI hd
      exact .inr (.inl ⟨_, _, _, _, rfl, rfl, h1, hv, p.now s _ rv⟩)
    · exact p.elim
  · cases r2
    split at p
    · rename_i ds src hl
      split at p
      · rename_i d hd
        obtain ⟨pa, vs, rfl, h1, hr⟩ := lstOf_sq s r1 hl
        obtain ⟨v, hv, rv⟩ := hr.atI hd
        exact .inl ⟨_, _, _, _, rfl, rfl, h1, hv, p.now s _ rv⟩
      · exact p.elim
    · exact p.elim
  · exact p.elim
def rSl (K : PySem.W.Frag) : V → Option Int → Option Int → Hp → VK → Prop := fun x lo hi H Q => rSlS x lo hi H Q ∨ rSlA K x lo hi H Q ∨ rSlL K x lo hi H Q
theorem sl_all : SlR X (rSl X.K) := SlR.or sl_str (SlR.or sl_tupA sl_list)
theorem slS {d : D} {x : V} {lo hi : Option Int} {Q : VK} (s : StR G as st H) (r : RelD G as (Live as st) H d x) {E' : XK} (p : Post G E' as st H (fSl d lo hi st) (fun w as' st' H' => ∀ v, RelW G H as' st' H' w v → Q v H')) : rSl G.K x lo hi H Q := by
  unfold fSl at p
  split at p
  · cases r
    split at p
    · rename_i hl
      exact .inl ⟨_, rfl, szl hl, p.now s _ (.str _)⟩
    · exact p.elim
  · rename_i dd
    cases r with
    | @tup _ pa vs h1 hr =>
    refine .inr (.inl ⟨_, _, rfl, h1, fun ⟨e1, e2⟩ => ?_, fun _ t ht => p as _ (Ext.lay ht) (s.laid ht) _ (RelD.newTup s hr.cutV ht)⟩)
    have e : cutD dd lo hi = dd := by
      unfold cutD
      rw [hr.length, e1, e2]
      simp [← hr.length]
    rw [e] at p
    exact p.now s _ (.tup h1 hr)
  · split at p
    · rename_i ds src hl
      obtain ⟨pa, vs, rfl, h1, hr⟩ := lstOf_sq s r hl
      exact .inr (.inr ⟨_, _, rfl, h1, fun t ht => p as _ (Ext.lay ht) (s.laid ht) _ (RelW.newLst s hr.cutV ht)⟩)
    · exact p.elim
theorem pO_none : PO X none (tOI G E bNone) := po_none.vi fun σ H Q ⟨as, st, env, s, er, p⟩ => p.now s
theorem pO_some {e : Expr} {m : EM} (h : PE X e (tI G E m)) : PO X (some e) (tOI G E (bSome m)) := (po_some h).vi fun σ H Q ⟨as, st, env, s, er, p⟩ =>
  ⟨as, st, env, s, er, (p.bind s.len).mono fun w as1 st1 H1 e1 s1 p1 v1 r1 => by
    have r := r1.d
    cases q : w.d with
    | int b =>
      simp only [q] at p1
      rw [q] at r
      exact ⟨b, r.isInt, p1.now s1⟩
    | _ => simp only [q] at p1; exact p1.elim⟩
theorem pI_slice {e : Expr} {lo hi : Option Expr} {pos p2 : Pos} {m : EM} {bl bh : BM} (he : PE X e (tI G E m)) (hl : PO X lo (tOI G E bl)) (hh : PO X hi (tOI G E bh)) (hK : G.K = X.K) : PE X (.Subscript e (.Slice lo hi none p2) pos) (tI G E (evSl m bl bh)) := by
  refine (pe_slice sl_all he hl hh).vi fun σ H Q h => ?_
  obtain ⟨as, st, env, s, er, p⟩ := h
  refine ⟨as, st, env, s, er, (p.bind s.len).mono fun w as1 st1 H1 e1 s1 p1 v r => ?_⟩
  refine ⟨as1, st1, env, s1, er.ext e1 s.len, (p1.bind s1.len).mono fun o as2 st2 H2 e2 s2 p2 => ?_⟩
  refine ⟨as2, st2, env, s2, (er.ext e1 s.len).ext e2 s1.len, (p2.bind s2.len).mono fun o2 as3 st3 H3 e3 s3 p3 => ?_⟩
  rw [← hK]
  exact slS s3 ((r.d.ext e2 s1.len).ext e3 s2.len) (p3.mono fun w as4 st4 H4 e4 s4 q v rv => q v (rv.from fun x hx => e1.fresh (e2.fresh (e3.fresh hx))))
end
/-! ### built-in functions -/
def fLen (ds : List D) (st : Store) : Res Wv := match ds with
  | [.str z] => if z.length ≤ 100000 then .ok (.val (.int z.length)) st else .stuck
  | [.tup ds] => .ok (.val (.int ds.length)) st
  | [d] => match lstOf d st with
    | some (ds, _) => .ok (.val (.int ds.length)) st
    | none => .stuck
  | _ => .stuck
def fAbs (ds : List D) (st : Store) : Res Wv := match ds with
  | [.int i] => .ok (.val (.int (if i < 0 then -i else i))) st
  | _ => .stuck
def blsOf : List D → Option (List Bool)
  | [] => some []
  | .bl b :: ds => (blsOf ds).map fun bs => b :: bs
  | _ => none
def fAll (ds : List D) (st : Store) : Res Wv := match ds with
  | [d] => match lstOf d st with
    | some (ds, _) => match blsOf ds with
      | some bs => .ok (.val (.bl (bs.all id))) st
      | none => .stuck
    | none => .stuck
  | _ => .stuck
def fAny (ds : List D) (st : Store) : Res Wv := match ds with
  | [d] => match lstOf d st with
    | some (ds, _) => match blsOf ds with
      | some bs => .ok (.val (.bl (bs.any id))) st
      | none => .stuck
    | none => .stuck
  | _ => .stuck
def fList (ds : List D) (st : Store) : Res Wv := match ds with
  | [.tup ds] => .ok (.new (.lst ds)) st
  | [d] => match lstOf d st with
    | some (ds, _) => .ok (.new (.lst ds)) st
    | none => .stuck
  | _ => .stuck
def fTuple (ds : List D) (st : Store) : Res Wv := match ds with
  | [.tup ds] => .ok (.val (.tup ds)) st
  | [d] => match lstOf d st with
    | some (ds, _) => .ok (.val (.tup ds)) st
    | none => .stuck
  | _ => .stuck
section
variable {X : Cx} {G : Gx} {E : WX} {as as' : List Addr} {st st' : Store} {H : Hp} {L : Addr → Prop}
theorem callS_len : CallS G E fLen (fun xs H Q => ∃ x n, xs = [x] ∧ LenV G.K x H n ∧ Q (.int n) H) := by
  intro E' as st H ds xs Q s r p
  unfold fLen at p
  split at p
  · cases r with
    | cons r t =>
    cases t; cases r
    split at p
    · rename_i h
      exact ⟨_, _, rfl, ⟨szl h, rfl⟩, p.now s _ (.int _)⟩
    · exact p.elim
  · cases r with
    | cons r t =>
    cases t
    cases r with
    | @tup ds pa vs h1 hr =>
    refine ⟨_, vs.length, rfl, .inr ⟨vs, h1, rfl⟩, ?_⟩
    rw [← hr.length]
    exact p.now s _ (.int _)
  · cases r with
    | cons r t =>
    cases t
    split at p
    · rename_i ds src hl
      obtain ⟨pa, vs, rfl, h1, hr⟩ := lstOf_sq s r hl
      refine ⟨_, vs.length, rfl, .inl ⟨vs, h1, rfl⟩, ?_⟩
      rw [← hr.length]
      exact p.now s _ (.int _)
    · exact p.elim
  · exact p.elim
theorem callS_abs : CallS G E fAbs (fun xs H Q => ∃ i, xs = [.int i] ∧ Q (.int (if i < 0 then -i else i)) H) := by
  intro E' as st H ds xs Q s r p
  unfold fAbs at p
  split at p
  · cases r with
    | cons r t =>
    cases t; cases r
    exact ⟨_, rfl, p.now s _ (.int _)⟩
  · exact p.elim
theorem blsOf_rel : ∀ {ds : List D} {vs : List V} {bs : List Bool}, RelDs G as L H ds vs → blsOf ds = some bs → vs = bs.map V.bl
  | _, _, _, .nil, h => by cases h; rfl
  | _, _, bs, .cons (ds := ds) r t, h => by
    cases r with
    | bl b =>
      simp only [blsOf] at h
      cases q : blsOf ds with
      | none => rw [q] at h; cases h
      | some bs' =>
        rw [q] at h
        cases h
        rw [blsOf_rel t q]; rfl
    | _ => simp only [blsOf] at h; cases h
theorem callS_all : CallS G E fAll (rAll G.K) := by
  intro E' as st H ds xs Q s r p
  unfold fAll at p
  split at p
  · cases r with
    | cons r t =>
    cases t
    split at p
    · rename_i ds src hl
      split at p
      · rename_i bs hb
        obtain ⟨pa, vs, rfl, h1, hr⟩ := lstOf_sq s r hl
        rw [blsOf_rel hr hb] at h1
        exact ⟨pa, bs, rfl, h1, p.now s _ (.bl _)⟩
      · exact p.elim
    · exact p.elim
  · exact p.elim
theorem callS_any : CallS G E fAny (rAny G.K) := by
  intro E' as st H ds xs Q s r p
  unfold fAny at p
  split at p
  · cases r with
    | cons r t =>
    cases t
    split at p
    · rename_i ds src hl
      split at p
      · rename_i bs hb
        obtain ⟨pa, vs, rfl, h1, hr⟩ := lstOf_sq s r hl
        rw [blsOf_rel hr hb] at h1
        exact ⟨pa, bs, rfl, h1, p.now s _ (.bl _)⟩
      · exact p.elim
    · exact p.elim
  · exact p.elim
theorem callS_list : CallS G E fList (fun xs H Q => ∃ p ys, xs = [.ref p] ∧ (SqL G.K H p ys ∨ SqT G.K H p ys) ∧ ∀ l, H l = none → Q (.ref l) (upd H l (.lst ys))) := by
  intro E' as st H ds xs Q s r p
  unfold fList at p
  split at p
  · cases r with
    | cons r t =>
    cases t
    cases r with
    | @tup ds pa vs h1 hr =>
    exact ⟨_, vs, rfl, .inr h1, fun t ht => p as _ (Ext.lay ht) (s.laid ht) _ (RelW.newLst s hr ht)⟩
  · cases r with
    | cons r t =>
    cases t
    split at p
    · rename_i ds src hl
      obtain ⟨pa, vs, rfl, h1, hr⟩ := lstOf_sq s r hl
      exact ⟨_, vs, rfl, .inl h1, fun t ht => p as _ (Ext.lay ht) (s.laid ht) _ (RelW.newLst s hr ht)⟩
    · exact p.elim
  · exact p.elim
theorem callS_tuple : CallS G E fTuple (fun xs H Q => ∃ p ys, xs = [.ref p] ∧ ((SqL G.K H p ys ∧ ∀ l, H l = none → Q (.ref l) (upd H l (.tup ys))) ∨ (SqT G.K H p ys ∧ Q (.ref p) H))) := by
  intro E' as st H ds xs Q s r p
  unfold fTuple at p
  split at p
  · cases r with
    | cons r t =>
    cases t
    cases r with
    | @tup ds pa vs h1 hr => exact ⟨_, vs, rfl, .inr ⟨h1, p.now s _ (.tup h1 hr)⟩⟩
  · cases r with
    | cons r t =>
    cases t
    split at p
    · rename_i ds src hl
      obtain ⟨pa, vs, rfl, h1, hr⟩ := lstOf_sq s r hl
      exact ⟨_, vs, rfl, .inl ⟨h1, fun t ht => p as _ (Ext.lay ht) (s.laid ht) _ (RelD.newTup s hr ht)⟩⟩
    · exact p.elim
  · exact p.elim
end
/-! ### isinstance of built-in classes -/
/-- a dict whose keys are ints and texts -/
def kKeys (kvs : List (D × D)) : Bool := kvs.all fun kv => match kv.1 with
  | .int _ => true
  | .str _ => true
  | _ => false
theorem DicR.isK {G : Gx} {as : List Addr} {L : Addr → Prop} {H : Hp} {kvs : List (D × D)} {a : Addr} (h : DicR G as L H kvs a) (q : kKeys kvs = true) : ∃ ws, H a = some (.dK ws) := by
  cases h with
  | k e _ _ => exact ⟨_, e⟩
  | @n kvs xs vs a e z k r1 _ _ =>
    exfalso
    cases kvs with
    | nil => exact z rfl
    | cons kv kvs =>
      cases xs with
      | nil => simp at k
      | cons x xs =>
        simp only [List.map_cons, List.cons.injEq] at k
        obtain ⟨kd, vd⟩ := kv
        cases r1 with
        | cons r _ =>
          have r : RelD G as L H kd (.ref x.2.1) := r
          simp only [kKeys, List.all_cons, Bool.and_eq_true] at q
          have q1 := q.1
          cases kd with
          | int i => cases r
          | str z => cases r
          | _ => cases q1
def tyD (d : D) (st : Store) : Option String := match d with
  | .non => some "NoneType"
  | .bl _ => some "bool"
  | .int _ => some "int"
  | .str _ => some "str"
  | .tup _ => some "tuple"
  | .lst _ => some "list"
  | .dic kvs => if kKeys kvs = true then some "dict" else none
  | .ref n => match st[n]? with
    | some (some (.lst _)) => some "list"
    | some (some (.dic kvs)) => if kKeys kvs = true then some "dict" else none
    | _ => none
  | _ => none
def isiTab (a T : String) : Bool := a == T || (a == "bool" && T == "int")
def knownTy : List String := ["NoneType", "bool", "int", "str", "tuple", "list", "dict"]
theorem isiTab_kit : (knownTy.all fun a => ["bool", "int", "str", "tuple", "list", "dict"].all fun T => decide (kitB a T = some (isiTab a T))) = true := by decide +kernel
def okTy (T : String) : Bool := ["bool", "int", "str", "tuple", "list", "dict"].contains T
theorem tyD_known {d : D} {st : Store} {a : String} (h : tyD d st = some a) : a ∈ knownTy := by
  cases d with
  | ref n =>
    simp only [tyD] at h
    split at h
    · cases h; simp [knownTy]
    · split at h
      · cases h; simp [knownTy]
      · cases h
    · cases h
  | dic kvs =>
    simp only [tyD] at h
    split at h
    · cases h; simp [knownTy]
    · cases h
  | _ => simp only [tyD] at h <;> cases h <;> simp [knownTy]
theorem kit_known {a T : String} (ha : a ∈ knownTy) (hT : okTy T = true) : kitB a T = some (isiTab a T) := by
  have h := isiTab_kit
  rw [List.all_eq_true] at h
  have h2 := h a ha
  rw [List.all_eq_true] at h2
  exact of_decide_eq_true (h2 T (by simpa [okTy] using hT))
def tysOf : List D → Option (List String)
  | [] => some []
  | .ty T :: ds => if okTy T = true then (tysOf ds).map fun ts => T :: ts else none
  | _ => none
def fIsi (ds : List D) (st : Store) : Res Wv := match ds with
  | [d, .ty T] => match tyD d st with
    | some a => if okTy T = true then .ok (.val (.bl (isiTab a T))) st else .stuck
    | none => .stuck
  | [d, .tup cs] => match tyD d st, tysOf cs with
    | some a, some ts => .ok (.val (.bl (ts.any fun T => isiTab a T))) st
    | _, _ => .stuck
  | _ => .stuck
def rIsiS (K : PySem.W.Frag) : List V → Hp → VK → Prop := fun xs H Q => ∃ (x : V) (tp : Addr) (cs : List V) (t : Value) (us : List Value) (b : Bool), xs = [x, .ref tp] ∧ SqT K H tp cs ∧ Paired ClsV cs us ∧ TyX K H x t ∧ PySem.W.kitAny K t us = some b ∧ Q (.bl b) H
theorem call_isiS {X : Cx} : CallR X (.builtin "isinstance") (rIsiS X.K) := by
  intro pins s σ H xs us Q I r h
  obtain ⟨x, tp, cs, t, ws, b, rfl, hT, k, ty, e, q⟩ := h
  obtain ⟨u1, u2, rfl, r1, r2⟩ : ∃ u1 u2, us = [u1, u2] ∧ RelV x u1 ∧ RelV (V.ref tp) u2 := by
    cases r with
    | cons r1 r =>
    cases r with
    | cons r2 r =>
    cases r
    exact ⟨_, _, rfl, r1, r2⟩
  cases (show u2 = Value.ref tp from r2)
  obtain ⟨P, Z, p, hx⟩ := kit_of I r1 ty
  obtain ⟨its, rv, ⟨o, h1, h2, n, h3⟩, _⟩ := I.tuple hT
  have e3 := ClsV.all k rv
  subst e3
  obtain ⟨oc, od, dt, sl⟩ := o
  simp only at h2 h3
  subst h2 h3
  exact PySem.W.kia_tup Z I.kIn p h1 e hx fun tk => ⟨.bl b, H, I.tok tk, rfl, q⟩
def rIsi2 (K : PySem.W.Frag) : List V → Hp → VK → Prop := fun xs H Q => rIsi K xs H Q ∨ rIsiS K xs H Q
section
variable {X : Cx} {G : Gx} {E : WX} {as as' : List Addr} {st st' : Store} {H : Hp} {L : Addr → Prop}
theorem call_isi2 : CallR X (.builtin "isinstance") (rIsi2 X.K) := CallR.or call_isi call_isiS
theorem tyD_x (s : StR G as st H) {d : D} {v : V} {a : String} (r : RelD G as (Live as st) H d v) (h : tyD d st = some a) : TyX G.K H v (.type a) := by
  cases r with
  | non => cases h; exact .base .non
  | bl b => cases h; exact .base (.bl b)
  | int b => cases h; exact .base (.int b)
  | str b => cases h; exact .base (.str b)
  | ty n => cases h
  | cl _ => cases h
  | @ref n ad ha =>
    simp only [tyD] at h
    split at h
    · rename_i ds e
      cases h
      obtain ⟨a', ha', vs, hv, _⟩ := s.cells _ _ e
      rw [ha] at ha'; cases ha'
      exact .base (.lst hv)
    · rename_i kvs e
      split at h
      · rename_i hk
        cases h
        obtain ⟨a', ha', c⟩ := s.cells _ _ e
        rw [ha] at ha'; cases ha'
        obtain ⟨ws, c⟩ := (show DicR G as _ H kvs ad from c).isK hk
        exact .base (.dK c)
      · cases h
    · cases h
  | tup h1 _ =>
    cases h
    rcases h1 with (h1 | ⟨o, h1⟩) | ⟨o, its, n, hk, hc, _⟩
    · exact .base (.tup h1)
    · exact .fTuple h1
    · exact .kTuple hk hc
  | lst h1 _ _ =>
    cases h
    rcases h1 with h1 | ⟨o, h1⟩
    · exact .base (.lst h1)
    · exact .base (.frz h1)
  | lstK h1 _ =>
    cases h
    obtain ⟨o, its, n, hk, hc, _⟩ := h1
    exact .kList hk hc
  | err _ _ _ => simp [tyD, kKeys] at h
  | errR _ _ _ _ _ _ => simp [tyD, kKeys] at h
  | dic h1 _ =>
    simp only [tyD] at h
    split at h
    · rename_i hk
      cases h
      obtain ⟨ws, c⟩ := h1.isK hk
      exact .base (.dK c)
    · cases h
  | obj _ _ _ _ _ => cases h
theorem tysOf_rel : ∀ {ds : List D} {vs : List V} {ts : List String}, RelDs G as L H ds vs → tysOf ds = some ts → vs = ts.map V.ty ∧ ∀ T ∈ ts, okTy T = true
  | _, _, _, .nil, h => by cases h; exact ⟨rfl, by simp⟩
  | _, _, ts, .cons (ds := ds) r t, h => by
    cases r with
    | ty T =>
      simp only [tysOf] at h
      split at h
      · rename_i ok
        cases q : tysOf ds with
        | none => rw [q] at h; cases h
        | some ts' =>
          rw [q] at h
          cases h
          obtain ⟨e, a⟩ := tysOf_rel t q
          refine ⟨by rw [e]; rfl, fun U hU => ?_⟩
          rcases List.mem_cons.mp hU with rfl | hU
          · exact ok
          · exact a U hU
      · cases h
    | _ => simp only [tysOf] at h; cases h
theorem paired_ty : ∀ ts : List String, Paired ClsV (ts.map V.ty) (ts.map Value.type)
  | [] => .nil
  | T :: ts => .cons (.ty T) (paired_ty ts)
theorem kitAny_ty {K : PySem.W.Frag} {a : String} (ha : a ∈ knownTy) : ∀ ts : List String, (∀ T ∈ ts, okTy T = true) → PySem.W.kitAny K (.type a) (ts.map Value.type) = some (ts.any fun T => isiTab a T)
  | [], _ => rfl
  | T :: ts, h => by
    have h1 : PySem.W.kitOne K (.type a) (.type T) = some (isiTab a T) := kit_ty (kit_known ha (h T List.mem_cons_self))
    have h2 := kitAny_ty (K := K) ha ts fun U hU => h U (List.mem_cons_of_mem _ hU)
    show PySem.W.kitAny K (.type a) (Value.type T :: ts.map Value.type) = _
    unfold PySem.W.kitAny
    rw [h1]
    cases q : isiTab a T with
    | true => simp [q]
    | false => simp only [List.any_cons, q, Bool.false_or]; exact h2
theorem callS_isi : CallS G E fIsi (rIsi2 G.K) := by
  intro E' as st H ds xs Q s r p
  unfold fIsi at p
  split at p
  · cases r with
    | cons r t =>
    cases t with
    | cons r2 t =>
    cases t; cases r2
    split at p
    · rename_i a ha
      split at p
      · rename_i ok
        exact .inl ⟨_, _, _, _, _, rfl, .ty _, tyD_x s r ha, kit_ty (kit_known (tyD_known ha) ok), p.now s _ (.bl _)⟩
      · exact p.elim
    · exact p.elim
  · cases r with
    | cons r t =>
    cases t with
    | cons r2 t =>
    cases t
    split at p
    · rename_i a ts ha hts
      cases r2 with
      | @tup cs pa vs h1 hr =>
      obtain ⟨e, ok⟩ := tysOf_rel hr hts
      subst e
      exact .inr ⟨_, pa, _, _, _, _, rfl, h1, paired_ty ts, tyD_x s r ha, kitAny_ty (tyD_known ha) ts ok, p.now s _ (.bl _)⟩
    · exact p.elim
  · exact p.elim
end
end VI
namespace VI
open PySem PySem.Spec PyProof.Rows L2
/-! ### methods of built-in types -/
def evMt (T : String) (f : D → List D → Store → Res Wv) (o : EM) (a : AM) : EM := fun env st => (o env st).bind fun w st1 => if tyD w.d st1 = some T ∧ (T = "str" ∨ T = "list" ∨ T = "dict") then (a env st1).bind fun ds st2 => f w.d ds st2 else .stuck
def fAppend (o : D) (ds : List D) (st : Store) : Res Wv := match o, ds with
  | .ref n, [d] => match st[n]? with
    | some (some (.lst xs)) => if xs.length < 100000 then .ok (.val .non) (st.set n (some (.lst (xs ++ [d])))) else .stuck
    | _ => .stuck
  | _, _ => .stuck
def strsOf : List D → Option (List Str)
  | [] => some []
  | .str x :: ds => (strsOf ds).map fun xs => x :: xs
  | _ => none
def fJoin (o : D) (ds : List D) (st : Store) : Res Wv := match o, ds with
  | .str a, [.tup ds] => match strsOf ds with
    | some ys => if (ys.map (·.length)).sum + ys.length * a.length ≤ 100000 then .ok (.val (.str (Txt.join a ys))) st else .stuck
    | none => .stuck
  | .str a, [d] => match lstOf d st with
    | some (ds, _) => match strsOf ds with
      | some ys => if (ys.map (·.length)).sum + ys.length * a.length ≤ 100000 then .ok (.val (.str (Txt.join a ys))) st else .stuck
      | none => .stuck
    | none => .stuck
  | _, _ => .stuck
section
variable {X : Cx} {G : Gx} {E : WX} {as as' : List Addr} {st st' : Store} {H : Hp} {L : Addr → Prop}
theorem tyD_v (s : StR G as st H) {d : D} {v : V} {T : String} (r : RelD G as (Live as st) H d v) (h : tyD d st = some T) (hT : T = "str" ∨ T = "list" ∨ T = "dict") : tyV G.K T v H := by
  cases r with
  | non => cases h; simp at hT
  | bl b => cases h; simp at hT
  | int b => cases h; simp at hT
  | str b => cases h; exact rfl
  | ty n => cases h
  | cl _ => cases h
  | @ref n ad ha =>
    simp only [tyD] at h
    split at h
    · rename_i ds e
      cases h
      obtain ⟨a', ha', vs, hv, _⟩ := s.cells _ _ e
      rw [ha] at ha'; cases ha'
      exact .inl ⟨rfl, vs, .inl (.inl hv)⟩
    · rename_i kvs e
      split at h
      · rename_i hk
        cases h
        obtain ⟨a', ha', c⟩ := s.cells _ _ e
        rw [ha] at ha'; cases ha'
        obtain ⟨ws, c⟩ := (show DicR G as _ H kvs _ from c).isK hk
        exact .inr (.inr (.inl ⟨rfl, .inl ⟨ws, c⟩⟩))
      · cases h
    · cases h
  | tup h1 _ => cases h; simp at hT
  | @lst ds p vs h1 _ _ => cases h; exact .inl ⟨rfl, vs, .inl h1⟩
  | @lstK ds p vs h1 _ => cases h; exact .inl ⟨rfl, vs, .inr h1⟩
  | err _ _ _ => simp [tyD, kKeys] at h
  | errR _ _ _ _ _ _ => simp [tyD, kKeys] at h
  | dic h1 _ =>
    simp only [tyD] at h
    split at h
    · rename_i hk
      cases h
      obtain ⟨ws, c⟩ := h1.isK hk
      exact .inr (.inr (.inl ⟨rfl, .inl ⟨ws, c⟩⟩))
    · cases h
  | obj _ _ _ _ _ => cases h
theorem tI_evMt {T : String} {f : D → List D → Store → Res Wv} {r : V → List V → Hp → VK → Prop} {mo : EM} {ma : AM} {σ : L2.St} {Q : VK} (hs : MtS' G E f r) (h : tI G E (evMt T f mo ma) σ H Q) : tBM G.K T r (tI G E mo) (tAr G E ma) σ H Q := by
  obtain ⟨as, st, env, s, er, p⟩ := h
  refine ⟨as, st, env, s, er, (p.bind s.len).mono fun w as1 st1 H1 e1 s1 p1 v1 r1 => ?_⟩
  split at p1
  · rename_i c
    refine ⟨tyD_v s1 r1.d c.1 c.2, as1, st1, env, s1, er.ext e1 s.len, (p1.bind s1.len).mono fun ds as2 st2 H2 e2 s2 p2 vs r2 => ?_⟩
    exact hs _ as2 st2 H2 _ _ _ _ _ s2 (r1.d.ext e2 s1.len) r2 (p2.mono fun w as3 st3 H3 e3 s3 q v rv => q v (rv.from fun x hx => e1.fresh (e2.fresh hx)))
  · exact p1.elim
theorem pI_bm {T id : String} {o e : Expr} {es : List Expr} {name : Str} {apos cpos : Pos} {f : D → List D → Store → Res Wv} {r : V → List V → Hp → VK → Prop} {mo : EM} {ma : AM} (hK : G.K = X.K) (pa : PlainAttrs T) (slot : Slot T name id) (hty : typeOf (.builtin id) = pure (.type "method_descriptor")) (hm : MtR X id r) (hs : MtS' G E f r) (ho : PE X o (tI G E mo)) (ha : PA X (e :: es) (tAr G E ma))
    (hbase : attributeBase o name X.env (eval o X.env) = eval o X.env := by rfl)
    (hfew : ((backTo cpos (starEach (e :: es) X.env)).all (fun x => !x.1) && (backToKw cpos (keywordEach [] X.env)).all (fun x => x.1.isSome)
      && decide ((e :: es).length + ([] : List Keyword).length + (if ([] : List Keyword).isEmpty then 0 else 1) < 30)) = true := by rfl)
    (hline : (apos.endLine == cpos.line) = true := by rfl) (hst : starEach (e :: es) X.env = (false, eval e X.env) :: starEach es X.env := by rfl) (hplain : (backTo cpos (starEach es X.env)).any (·.1) = false := by rfl) :
    PE X (.Call (.Attribute o name apos) (e :: es) [] cpos) (tI G E (evMt T f mo ma)) :=
  (pe_bm pa slot hty hm ho ha hbase hfew hline hst hplain).vi fun σ H Q h => by rw [← hK]; exact tI_evMt hs h
theorem mtS_append : MtS' G E fAppend rAppend := by
  intro E' as st H d ds x xs Q s r rs p
  unfold fAppend at p
  split at p
  · cases rs with
    | cons r2 t =>
    cases t
    split at p
    · rename_i zs e
      split at p
      · rename_i hl
        cases r with
        | @ref _ a ha =>
        obtain ⟨a', ha', vs, hv, rr⟩ := s.cells _ _ e
        rw [ha] at ha'; cases ha'
        have live : Live as st a := ⟨_, _, ha, e⟩
        refine ⟨a, vs, _, rfl, rfl, hv, Nat.lt_of_lt_of_le (by rw [← rr.length]; exact hl) (by decide : 100000 ≤ sizeLine), ?_⟩
        have kp : ∀ b o, H b = some o → (¬ Live as st b ∨ notMut o = true) → ∀ u, upd H a u b = some o := fun b o eb k u => by
          have ne : b ≠ a := fun z => by
            subst z
            rcases k with k | k
            · exact k live
            · rw [hv] at eb; cases eb; cases k
          rw [upd_ne ne]; exact eb
        obtain ⟨a1, a2⟩ := s.write (d := .lst (zs ++ [_])) (o := .lst (vs ++ [_])) e ha ⟨_, upd_same, (rr.mono (List.prefix_refl _) (fun _ _ n => n) fun b o eb k => kp b o eb k _).append (.cons (r2.mono (List.prefix_refl _) (fun _ _ n => n) fun b o eb k => kp b o eb k _) .nil)⟩
        exact p _ _ a2 a1 _ .non
      · exact p.elim
    · exact p.elim
  · exact p.elim
theorem strsOf_rel : ∀ {ds : List D} {vs : List V} {ys : List Str}, RelDs G as L H ds vs → strsOf ds = some ys → vs = ys.map V.str
  | _, _, _, .nil, h => by cases h; rfl
  | _, _, bs, .cons (ds := ds) r t, h => by
    cases r with
    | str b =>
      simp only [strsOf] at h
      cases q : strsOf ds with
      | none => rw [q] at h; cases h
      | some bs' =>
        rw [q] at h
        cases h
        rw [strsOf_rel t q]; rfl
    | _ => simp only [strsOf] at h; cases h
theorem mtS_join : MtS' G E fJoin (fun x xs H Q => ∃ a p, ∃ ys : List Str, x = .str a ∧ xs = [.ref p] ∧ (SqL G.K H p (ys.map V.str) ∨ SqT G.K H p (ys.map V.str)) ∧ (ys.map (·.length)).sum + ys.length * a.length ≤ 16777216 ∧ Q (.str (Txt.join a ys)) H) := by
  intro E' as st H d ds x xs Q s r rs p
  unfold fJoin at p
  split at p
  · cases r
    cases rs with
    | cons r2 t =>
    cases t
    split at p
    · rename_i ys e
      split at p
      · rename_i hl
        cases r2 with
        | @tup _ pa vs h1 hr =>
        rw [strsOf_rel hr e] at h1
        exact ⟨_, pa, ys, rfl, rfl, .inr h1, by omega, p.now s _ (.str _)⟩
      · exact p.elim
    · exact p.elim
  · cases r
    cases rs with
    | cons r2 t =>
    cases t
    split at p
    · rename_i zs src hz
      split at p
      · rename_i ys e
        split at p
        · rename_i hl
          obtain ⟨pa, vs, rfl, h1, hr⟩ := lstOf_sq s r2 hz
          rw [strsOf_rel hr e] at h1
          exact ⟨_, pa, ys, rfl, rfl, .inl h1, by omega, p.now s _ (.str _)⟩
        · exact p.elim
      · exact p.elim
    · exact p.elim
  · exact p.elim
end
/-! ### x[i] = e -/
def fSetL (o i v : D) (st : Store) : Option Store := match o, i with
  | .ref n, .int k => match st[n]? with
    | some (some (.lst xs)) => (ixN xs.length k).map fun j => st.set n (some (.lst (xs.set j v)))
    | _ => none
  | _, _ => none
def sSetIx (f : D → D → D → Store → Option Store) (e o i : EM) : SM := fun env st => SRes.of env (e env st) fun w1 st1 => SRes.of env (o env st1) fun w2 st2 => SRes.of env (i env st2) fun w3 st3 => match f w2.d w3.d w1.d st3 with
  | some st4 => .nx env st4
  | none => .stuck
def SetS (G : Gx) (f : D → D → D → Store → Option Store) (t : TSet) : Prop := ∀ as st H d1 d2 d3 x y z Q st4, StR G as st H → RelD G as (Live as st) H d1 x → RelD G as (Live as st) H d2 y → RelD G as (Live as st) H d3 z → f d1 d2 d3 st = some st4 →
  (∀ as' H', Ext as st H as' st4 H' → StR G as' st4 H' → Q H') → t x y z H Q
section
variable {X : Cx} {G : Gx} {E : WX} {De : Ends} {as as' : List Addr} {st st' : Store} {H : Hp} {L : Addr → Prop} {σ : L2.St} {pos : Pos}
theorem RelDs.set : ∀ {ds : List D} {vs : List V} {d : D} {v : V} (i : Nat), RelDs G as L H ds vs → RelD G as L H d v → RelDs G as L H (ds.set i d) (vs.set i v)
  | _, _, _, _, _, .nil, _ => .nil
  | _, _, _, _, 0, .cons _ t, r => .cons r t
  | _, _, _, _, i + 1, .cons q t, r => .cons q (RelDs.set i t r)
theorem setS_list : SetS G fSetL rSetL := by
  intro as st H d1 d2 d3 x y z Q st4 s r1 r2 r3 h k
  unfold fSetL at h
  split at h
  · cases r2
    cases r1 with
    | @ref _ a ha =>
    split at h
    · rename_i xs e
      cases q : ixN xs.length _ with
      | none => rw [q] at h; cases h
      | some j =>
        rw [q] at h
        cases h
        obtain ⟨a', ha', vs, hv, rr⟩ := s.cells _ _ e
        rw [ha] at ha'; cases ha'
        have live : Live as st a := ⟨_, _, ha, e⟩
        rw [rr.length] at q
        have kp : ∀ b o, H b = some o → (¬ Live as st b ∨ notMut o = true) → ∀ u, upd H a u b = some o := fun b o eb k u => by
          have ne : b ≠ a := fun z => by
            subst z
            rcases k with k | k
            · exact k live
            · rw [hv] at eb; cases eb; cases k
          rw [upd_ne ne]; exact eb
        obtain ⟨a1, a2⟩ := s.write (d := .lst (xs.set j d3)) (o := .lst (vs.set j z)) e ha ⟨_, upd_same, (rr.mono (List.prefix_refl _) (fun _ _ n => n) fun b o eb k => kp b o eb k _).set j (r3.mono (List.prefix_refl _) (fun _ _ n => n) fun b o eb k => kp b o eb k _)⟩
        exact ⟨a, vs, _, j, rfl, rfl, hv, q, k _ _ a2 a1⟩
    · cases h
  · cases h
theorem tS_setIx {f : D → D → D → Store → Option Store} {t : TSet} {e o i : EM} (hs : SetS G f t) (h : tS G E (sSetIx f e o i) De σ H) : tAsg (tI G E e) (gSub (tI G E o) (tI G E i) t) De σ H := by
  obtain ⟨as, st, env, s, er, p⟩ := h
  refine ⟨as, st, env, s, er, (SPost.of s.len er p).mono fun w as1 st1 H1 e1 s1 p1 v1 r1 => ?_⟩
  have p1 := p1.from s.len e1
  refine ⟨as1, st1, env, s1, er.ext e1 s.len, (SPost.of (σ := σ) s1.len (er.ext e1 s.len) p1).mono fun w2 as2 st2 H2 e2 s2 p2 v2 r2 => ?_⟩
  have p2 := p2.from s1.len e2
  refine ⟨as2, st2, env, s2, (er.ext e1 s.len).ext e2 s1.len, (SPost.of (σ := σ) s2.len ((er.ext e1 s.len).ext e2 s1.len) p2).mono fun w3 as3 st3 H3 e3 s3 p3 v3 r3 => ?_⟩
  have p3 := p3.from s2.len e3
  cases q : f w2.d w3.d w.d st3 with
  | none => simp only [q] at p3; exact p3.elim
  | some st4 =>
    simp only [q] at p3
    exact hs as3 st3 H3 _ _ _ _ _ _ _ st4 s3 (r2.d.ext e3 s2.len) r3.d ((r1.d.ext e2 s1.len).ext e3 s2.len) q fun as4 H4 e4 s4 => p3 as4 H4 σ e4 s4 ((((er.ext e1 s.len).ext e2 s1.len).ext e3 s2.len).ext e4 s3.len)
/-! ### statements -/
theorem pSs_nil : PSs X [] (tS G E sNext) := pss_nil.vi fun _ _ _ => tS_next
theorem pSs_cons {st : Stmt} {rest : List Stmt} {a b : SM} (h1 : PS X st (tS G E a)) (h2 : PSs X rest (tS G E b)) : PSs X (st :: rest) (tS G E (sSeq a b)) := (pss_cons h1 h2).vi fun _ _ _ => tS_seq
theorem pSs_one {st : Stmt} {a : SM} (h1 : PS X st (tS G E a)) : PSs X [st] (tS G E a) := pss_one h1
theorem pS_pass : PS X (.Pass pos) (tS G E sNext) := ps_pass.vi fun _ _ _ => tS_next
theorem pS_break : PS X (.Break pos) (tS G E sBreak) := ps_break.vi fun _ _ _ => tS_brk
theorem pS_cont : PS X (.Continue pos) (tS G E sCont) := ps_continue.vi fun _ _ _ => tS_cnt
theorem pS_expr {e : Expr} {m : EM} (he : PE X e (tI G E m)) (hs : swapsWith e none pos.line X.env = pure false := by rfl) : PS X (.Expr e pos) (tS G E (sDrop m)) := (ps_expr he hs).vi fun _ _ _ => tS_drop
theorem pS_ret {e : Expr} {m : EM} (he : PE X e (tI G E m)) : PS X (.Return (some e) pos) (tS G E (sRet m)) := (ps_ret he).vi fun _ _ _ => tS_ret
theorem pS_retN : PS X (.Return none pos) (tS G E sRetN) := ps_retN.vi fun _ _ _ => tS_retN
theorem pS_if {c : Expr} {a b : List Stmt} {t : TM} {ma mb : SM} (hc : PT X c (tT G E t)) (ha : PSs X a (tS G E ma)) (hb : PSs X b (tS G E mb)) : PS X (.If c a b pos) (tS G E (sIf t ma mb)) := (ps_if hc ha hb).vi fun _ _ _ => tS_if
theorem pS_set {i : Nat} {x : Str} {e : Expr} {m : EM} {pos' : Pos} (hN : X.N.Nodup) (hi : X.N[i]? = some x) (hx : Loc X.env.scope x) (he : PE X e (tI G E m)) (hs : swapsWith e (some (.Name x pos')) pos.line X.env = pure false := by rfl) (hf : X.fn x = true ∨ X.env.scope.names.lookup x = some .local := by first | exact .inl rfl | exact .inr rfl | assumption) :
    PS X (.Assign [.Name x pos'] e pos) (tS G E (sSet i m)) := (ps_set hN hi hx he hs hf).vi fun _ _ _ => tS_set
theorem pS_reg {i : Nat} {x : Str} {e : Expr} {m : EM} {pos' : Pos} (hN : X.N.Nodup) (hi : X.N[i]? = some x) (hx : Loc X.env.scope x) (he : PE X e (tI G E m)) (hs : swapsWith e (some (.Name x pos')) pos.line X.env = pure false := by rfl) (hf : X.fn x = true ∨ X.env.scope.names.lookup x = some .local := by first | exact .inl rfl | exact .inr rfl | assumption) :
    PS X (.Assign [.Name x pos'] e pos) (tS G E (sReg i m)) := (ps_set hN hi hx he hs hf).vi fun _ _ _ => tS_reg
theorem pS_asg {tg e : Expr} {m : EM} {g : GD} {sl : List Nat} (he : PE X e (tI G E m)) (hg : PG X tg (tG G g sl)) (hs : swapsWithSole [tg] e pos.line X.env = pure false := by rfl) (hw : swappedStores [tg] e X.env = pure none := by rfl)
    (h1 : (assignEach [tg] X.env).map (·.2) = [assign tg X.env] := by rfl) : PS X (.Assign [tg] e pos) (tS G E (sAsg g m)) := (ps_asg he hg hs hw h1).vi fun _ _ _ => tS_asg
theorem pS_setIx {o i e : Expr} {f : D → D → D → Store → Option Store} {t : TSet} {me mo mi : EM} {pos' : Pos} (hset : PSet X t) (hf : SetS G f t) (he : PE X e (tI G E me)) (ho : PE X o (tI G E mo)) (hi : PE X i (tI G E mi))
    (ha : ∀ v, assign (.Subscript o i pos') X.env v = (do
      let ov ← holding [v] (eval o X.env)
      let iv ← holding [v, ov] (eval i X.env)
      standAt pos'
      holding [v, ov, iv] (setItem ov iv v)
      release [v, ov, iv] []) := by intro _; rfl)
    (hs : swapsWithSole [.Subscript o i pos'] e pos.line X.env = pure false := by rfl) (hw : swappedStores [.Subscript o i pos'] e X.env = pure none := by rfl)
    (h1 : (assignEach [.Subscript o i pos'] X.env).map (·.2) = [assign (.Subscript o i pos') X.env] := by rfl) : PS X (.Assign [.Subscript o i pos'] e pos) (tS G E (sSetIx f me mo mi)) :=
  (ps_asg he (pg_sub ho hi hset ha) hs hw h1).vi fun _ _ _ => tS_setIx hf
theorem pS_par {i j : Nat} {x y : Str} {a b : Expr} {m : AM} {px py pt : Pos} {kt k2 pt2} (hc : X.calm = true) (hN : X.N.Nodup) (hi : X.N[i]? = some x) (hj : X.N[j]? = some y) (hij : i ≠ j)
    (hx : X.env.scope.names.lookup x = some .local) (hy : X.env.scope.names.lookup y = some .local) (ha : PA X [a, b] (tAr G E m))
    (hw : swappedStores [.Tuple [.Name x px, .Name y py] kt pt] (.Tuple [a, b] k2 pt2) X.env = pure (some [x, y]))
    (hs : swapsWithSole [.Tuple [.Name x px, .Name y py] kt pt] (.Tuple [a, b] k2 pt2) pos.line X.env = pure false := by rfl) :
    PS X (.Assign [.Tuple [.Name x px, .Name y py] kt pt] (.Tuple [a, b] k2 pt2) pos) (tS G E (sPar i j m)) := (ps_par hc hN hi hj hij hx hy ha hw hs).vi fun _ _ _ => tS_par
def sAug (i : Nat) (f : D → D → Store → Res Wv) (e : EM) : SM := fun env st => match env[i]? with
  | some (some d) => SRes.of env (e env st) fun w st1 => SRes.of env (f d w.d st1) fun w2 st2 => .nx (env.set i (some w2.d)) st2
  | _ => .stuck
theorem tS_aug {i : Nat} {f : D → D → Store → Res Wv} {r : R2} {e : EM} (hs : OpS G E f r) (h : tS G E (sAug i f e) De σ H) : tAug i (tI G E e) r De σ H := by
  obtain ⟨as, st, env, s, er, p⟩ := h
  unfold sAug at p
  cases q : env[i]? with
  | none => simp only [q] at p; exact p.elim
  | some o =>
    cases o with
    | none => simp only [q] at p; exact p.elim
    | some d =>
      simp only [q] at p
      obtain ⟨v, hv, rv⟩ := er.2 i d q
      refine ⟨v, hv, as, st, env, s, er, (SPost.of s.len er p).mono fun w as1 st1 H1 e1 s1 p1 v1 r1 => ?_⟩
      have p1 := p1.from s.len e1
      refine hs _ as1 st1 H1 _ _ _ _ _ s1 (rv.ext e1 s.len) r1.d ((SPost.of (σ := σ) s1.len (er.ext e1 s.len) p1).mono fun w2 as2 st2 H2 e2 s2 p2 v2 r2 => ?_)
      exact p2 as2 H2 _ e2 s2 (((er.ext e1 s.len).ext e2 s1.len).set r2.d i)
theorem pS_aug {i : Nat} {x : Str} {e : Expr} {m : EM} {op : Operator} {f : D → D → Store → Res Wv} {r : R2} {pos' : Pos} (hN : X.N.Nodup) (hi : X.N[i]? = some x) (hx : Loc X.env.scope x) (he : PE X e (tI G E m)) (ho : OpR X (inplaceOp op) r) (hs : OpS G E f r) (hf : X.fn x = true ∨ X.env.scope.names.lookup x = some .local := by first | exact .inl rfl | exact .inr rfl | assumption) :
    PS X (.AugAssign (.Name x pos') op e pos) (tS G E (sAug i f m)) := (ps_aug (ti := r) hN hi hx he ho hf).vi fun _ _ _ => tS_aug hs
theorem pS_for {iter tg : Expr} {body : List Stmt} {m : IM} {g : GD} {sl : List Nat} {b : SM} (hp : PassesOwn (model X.prog X.w) X.A X.env X.xe) (hc : X.calm = true) (hi : PI X tg iter (tIt G E m)) (hg : PG X tg (tG G g sl)) (hb : PSs X body (tS G E b))
    (hs : ∀ x, foldedSetIterable iter X.env x = pure x := by intro _; rfl) : PS X (.For tg iter body [] pos) (tS G E (sFor m g b)) := (ps_for hp hc hi hg hb hs).vi fun _ _ _ => tS_for
theorem pS_setLc {i : Nat} {y : Str} {py : Pos} {elt tg iter : Expr} {ifs : List Expr} {scope : Scope} {own : List (Str × Nat)} {pos spos : Pos} {m : IM} {g : GD} {sl : List Nat} {t : TM} {e : EM} (hc : X.calm = true) (hN : X.N.Nodup) (hy : X.N[i]? = some y) (hyl : X.env.scope.names.lookup y = some .local)
    (hsw : swapsWith (.ListComp elt [⟨tg, iter, ifs, 0⟩] scope pos) (some (.Name y py)) spos.line X.env = pure true) (hi : PI X tg iter (tIt G E m)) (ok : BlkOk X.N X.env.scope scope own)
    (hg : ∀ (s : Shared) (H : Hp) (C : Addr) (cl : List (Str × Addr)) (fp : List Addr), PG (X.blk s H scope (compEnvC scope cl C X.env) fp) tg (tG G g sl)) (ht : ∀ (s : Shared) (H : Hp) (C : Addr) (cl : List (Str × Addr)) (fp : List Addr), PTs (X.blk s H scope (compEnvC scope cl C X.env) fp) ifs (tT G E0w t))
    (he : ∀ (s : Shared) (H : Hp) (C : Addr) (cl : List (Str × Addr)) (fp : List Addr), PE (X.blk s H scope (compEnvC scope cl C X.env) fp) elt (tI G E0w e)) (hsl : ∀ i ∈ sl, i ∈ own.map (·.2)) (hs : ∀ x, foldedSetIterable iter X.env x = pure x := by intro _; rfl) :
    PS X (.Assign [.Name y py] (.ListComp elt [⟨tg, iter, ifs, 0⟩] scope pos) spos) (tS G E (sSet i (evLc (own.map (·.2)) m g t e))) :=
  (ps_setLc hc hN hy hyl hsw hi ok hg ht he hs).vi fun De σ H h => tI_lc hsl (tS_set h)
theorem pS_regLc {i : Nat} {y : Str} {py : Pos} {elt tg iter : Expr} {ifs : List Expr} {scope : Scope} {own : List (Str × Nat)} {pos spos : Pos} {m : IM} {g : GD} {sl : List Nat} {t : TM} {e : EM} (hc : X.calm = true) (hN : X.N.Nodup) (hy : X.N[i]? = some y) (hyl : X.env.scope.names.lookup y = some .local)
    (hsw : swapsWith (.ListComp elt [⟨tg, iter, ifs, 0⟩] scope pos) (some (.Name y py)) spos.line X.env = pure true) (hi : PI X tg iter (tIt G E m)) (ok : BlkOk X.N X.env.scope scope own)
    (hg : ∀ (s : Shared) (H : Hp) (C : Addr) (cl : List (Str × Addr)) (fp : List Addr), PG (X.blk s H scope (compEnvC scope cl C X.env) fp) tg (tG G g sl)) (ht : ∀ (s : Shared) (H : Hp) (C : Addr) (cl : List (Str × Addr)) (fp : List Addr), PTs (X.blk s H scope (compEnvC scope cl C X.env) fp) ifs (tT G E0w t))
    (he : ∀ (s : Shared) (H : Hp) (C : Addr) (cl : List (Str × Addr)) (fp : List Addr), PE (X.blk s H scope (compEnvC scope cl C X.env) fp) elt (tI G E0w e)) (hsl : ∀ i ∈ sl, i ∈ own.map (·.2)) (hs : ∀ x, foldedSetIterable iter X.env x = pure x := by intro _; rfl) :
    PS X (.Assign [.Name y py] (.ListComp elt [⟨tg, iter, ifs, 0⟩] scope pos) spos) (tS G E (sReg i (evLc (own.map (·.2)) m g t e))) :=
  (ps_setLc hc hN hy hyl hsw hi ok hg ht he hs).vi fun De σ H h => tI_lc hsl (tS_reg h)
/-! ### what a for walks -/
theorem pIt_seq {tg e : Expr} {m : EM} (hK : G.K = X.K) (h : PE X e (tI G E m)) : PI X tg e (tIt G E (itSeq m)) := by
  refine (L2.PI.viOr (pi_list (tg := tg) h) (L2.PI.viOr (pi_tup (tg := tg) h) (pi_str (tg := tg) h))).vi fun σ H R q => ?_
  obtain ⟨as, st, env, s, er, p⟩ := q
  unfold itSeq at p
  cases q : m env st with
  | stuck => rw [q] at p; exact p.elim
  | exc x st1 =>
    rw [q] at p
    refine .inl ⟨as, st, env, s, er, ?_⟩
    rw [q]; exact p
  | ok w st1 =>
    rw [q] at p
    have p : Post G (eAt E σ) as st H (match seqOf w.d st1 with | some (ds, src) => Res.ok (IterV.mk ds src) st1 | none => .stuck) _ := p
    cases qd : w.d with
    | tup ds =>
      rw [qd] at p
      refine .inr (.inl ⟨as, st, env, s, er, ?_⟩)
      rw [q]
      intro as1 H1 e1 s1 v r
      have rd := r.d
      rw [qd] at rd
      cases rd with
      | @tup _ pa vs h1 hr => exact ⟨pa, rfl, ⟨vs, by rw [← hK]; exact h1⟩, by rw [← hK]; exact p as1 H1 e1 s1 _ (src_tup s1 h1 hr)⟩
    | str x =>
      rw [qd] at p
      refine .inr (.inr ⟨as, st, env, s, er, ?_⟩)
      rw [q]
      intro as1 H1 e1 s1 v r
      have rd := r.d
      rw [qd] at rd
      cases rd
      exact ⟨x, rfl, p as1 H1 e1 s1 _ src_str⟩
    | _ =>
      refine .inl ⟨as, st, env, s, er, ?_⟩
      rw [q]
      intro as1 H1 e1 s1 v r
      have rd := r.d
      rw [qd] at rd p
      simp only [seqOf] at p
      split at p
      · rename_i ds src hl
        obtain ⟨pa, vs, rfl, h1, hr⟩ := lstOf_sq s1 rd hl
        exact ⟨pa, rfl, ⟨vs, by rw [← hK]; exact h1⟩, by rw [← hK]; exact p as1 H1 e1 s1 _ (src_lst s1 rd hl)⟩
      · exact p.elim
theorem okR_b {i : Int} (h : okR i = true) : -(2 ^ 62) ≤ i ∧ i < 2 ^ 62 := by simpa [okR] using h
theorem pIt_r1 {tg a : Expr} {m : AM} {p pos : Pos} (hg : Gl X "range") (hm : X.mg "range" = none) (ha : PA X [a] (tAr G E m)) (hs : starEach [a] X.env = [(false, eval a X.env)] := by rfl) : PI X tg (.Call (.Name "range" p) [a] [] pos) (tIt G E (itR1 m)) :=
  (pi_range1 hg hm ha hs).vi fun σ H R ⟨as, st, env, s, er, p⟩ => ⟨as, st, env, s, er, (p.bind s.len).mono fun ds as1 st1 H1 e1 s1 p1 vs r1 => by
    split at p1
    · rename_i j
      cases r1 with
      | cons r t =>
      cases t
      cases r
      split at p1
      · rename_i ok
        obtain ⟨b1, b2⟩ := okR_b ok
        exact ⟨j, rfl, b1, b2, p1.now s1 _ src_rng⟩
      · exact p1.elim
    · exact p1.elim⟩
theorem pIt_r2 {tg a b : Expr} {m : AM} {p pos : Pos} (hg : Gl X "range") (hm : X.mg "range" = none) (ha : PA X [a, b] (tAr G E m)) (hs : starEach [a, b] X.env = [(false, eval a X.env), (false, eval b X.env)] := by rfl) (hs2 : starEach [b] X.env = [(false, eval b X.env)] := by rfl) : PI X tg (.Call (.Name "range" p) [a, b] [] pos) (tIt G E (itR2 m)) :=
  (pi_range2 hg hm ha hs hs2).vi fun σ H R ⟨as, st, env, s, er, p⟩ => ⟨as, st, env, s, er, (p.bind s.len).mono fun ds as1 st1 H1 e1 s1 p1 vs r1 => by
    split at p1
    · rename_i i j
      cases r1 with
      | cons r t =>
      cases t with
      | cons r2 t =>
      cases t
      cases r
      cases r2
      split at p1
      · rename_i ok
        rw [Bool.and_eq_true] at ok
        obtain ⟨b1, b2⟩ := okR_b ok.1
        obtain ⟨b3, b4⟩ := okR_b ok.2
        exact ⟨i, j, rfl, ⟨b1, b2, b3, b4⟩, p1.now s1 _ src_rng⟩
      · exact p1.elim
    · exact p1.elim⟩
theorem pIt_enum {e : Expr} {m : AM} {p pos tpos : Pos} {elts : List Expr} {kk : Nat} (hK : G.K = X.K) (hg : Gl X "enumerate") (hm : X.mg "enumerate" = none) (ha : PA X [e] (tAr G E m)) (hs : starEach [e] X.env = [(false, eval e X.env)] := by rfl) :
    PI X (.Tuple elts kk tpos) (.Call (.Name "enumerate" p) [e] [] pos) (tIt G E (itEnum m)) :=
  (pi_enum hg hm ha hs).vi fun σ H R ⟨as, st, env, s, er, p⟩ => ⟨as, st, env, s, er, (p.bind s.len).mono fun ds as1 st1 H1 e1 s1 p1 vs r1 => by
    split at p1
    · cases r1 with
      | cons r t =>
      cases t
      split at p1
      · rename_i xs hl
        obtain ⟨pa, ws, rfl, h1, hr⟩ := lstOf_sq s1 r hl
        exact ⟨pa, ws, rfl, by rw [← hK]; exact h1, by rw [← hK]; exact p1.now s1 _ (src_enum s1 r hl)⟩
      · exact p1.elim
    · exact p1.elim⟩
theorem pIt_zip {e e2 : Expr} {m : AM} {p pos tpos : Pos} {elts : List Expr} {kk : Nat} (hK : G.K = X.K) (hg : Gl X "zip") (hm : X.mg "zip" = none) (ha : PA X [e, e2] (tAr G E m))
    (hs : starEach [e, e2] X.env = (false, eval e X.env) :: starEach [e2] X.env := by rfl) (hpl : (backTo pos (starEach [e2] X.env)).any (·.1) = false := by rfl) :
    PI X (.Tuple elts kk tpos) (.Call (.Name "zip" p) [e, e2] [] pos) (tIt G E (itZip m)) :=
  (RZ.pi_zipA hg hm ha hs hpl).vi fun σ H R ⟨as, st, env, s, er, p⟩ => ⟨as, st, env, s, er, (p.bind s.len).mono fun ds as1 st1 H1 e1 s1 p1 vs r1 => by
    split at p1
    · cases r1 with
      | cons r t =>
      cases t with
      | cons r2 t =>
      cases t
      cases r with
      | @tup _ pa ws h1 hr =>
      cases r2 with
      | @tup _ pb zs h2 hr2 =>
      exact ⟨pa, pb, ws, zs, rfl, .inr ⟨by rw [← hK]; exact h1, by rw [← hK]; exact h2, by rw [← hK]; exact p1.now s1 _ (src_zipT s1 h1 h2 hr hr2)⟩⟩
    · cases r1 with
      | cons r t =>
      cases t with
      | cons r2 t =>
      cases t
      obtain ⟨pa, ws, rfl, h1, hr⟩ := lstOf_sq s1 r (src := none) rfl
      obtain ⟨pb, zs, rfl, h2, hr2⟩ := lstOf_sq s1 r2 (src := none) rfl
      exact ⟨pa, pb, ws, zs, rfl, .inl ⟨by rw [← hK]; exact h1, by rw [← hK]; exact h2, by rw [← hK]; exact p1.now s1 _ (src_zipL s1 r r2)⟩⟩
    · exact p1.elim⟩
theorem pIt_rev {tg e : Expr} {m : EM} {p pos : Pos} (hK : G.K = X.K) (hg : Gl X "reversed") (hm : X.mg "reversed" = none) (he : PE X e (tI G E m)) (hs : starEach [e] X.env = (false, eval e X.env) :: starEach [] X.env := by rfl) : PI X tg (.Call (.Name "reversed" p) [e] [] pos) (tIt G E (itRev m)) :=
  (RT.pi_revA hg hm he hs).vi fun σ H R ⟨as, st, env, s, er, p⟩ => ⟨as, st, env, s, er, (p.bind s.len).mono fun w as1 st1 H1 e1 s1 p1 v r1 => by
    have r := r1.d
    cases q : w.d with
    | tup ds =>
      simp only [q] at p1
      rw [q] at r
      cases r with
      | @tup _ pa ws h1 hr => exact ⟨pa, ws, rfl, .inr ⟨by rw [← hK]; exact h1, by rw [← hK]; exact p1.now s1 _ (src_revT s1 h1 hr)⟩⟩
    | lst ds =>
      simp only [q] at p1
      rw [q] at r
      obtain ⟨pa, ws, rfl, h1, hr⟩ := lstOf_sq s1 r (src := none) rfl
      exact ⟨pa, ws, rfl, .inl ⟨by rw [← hK]; exact h1, by rw [← hK]; exact p1.now s1 _ (src_revL s1 r h1 hr)⟩⟩
    | _ => simp only [q] at p1; exact p1.elim⟩
end
/-! ### defs -/
/-- a def that raises nothing -/
def spN (G : Gx) (n : Nat) (f : FnSem) : Sp := fun vs H Q _ => spI G n f vs H Q E0
section
variable {P : Program} {w : World} {K : PySem.W.Frag} {mg : Str → Option Value} {base : Heap} {G : Gx} {E : WX} {X : Cx}
theorem fn_ok {x qual : Str} {st : Stmt} {f : Addr} {fd : FuncData} {N ps : List Str} {k n : Nat} {m : SM} (F : Fun K x qual st f fd) (S : FnScope N ps (defScope st)) (hn : N.length = n)
    (hb : ∀ (cdv : Value) (A : Around) (outer : List Env) (s : Shared) (H : Hp) (Ex : XK), Room k (A.deeper (envOfC qual (defScope st) s.heap.objs.size f cdv)) →
      PSs (cxOf CX0 P w K mg base N qual (defScope st) f cdv A outer s H Ex).nox (defBody st) (tS G E0w m)) : FnOk P w K mg base CX0 (k + 1) f fd ps (spN G ps.length (runP n m)) := by
  refine F.ok S (fun vs H Q E h => h.1) (fun cdv A outer s H vs Q Ex hr h => ⟨_, hb cdv A outer s H Ex hr, ?_⟩)
  exact run_body hn h.2
variable {CX : CXT} {k : Nat} {f : Addr} {fd : FuncData} {ps : List Str} {x : Str} {p pos : Pos} {e : Expr} {es : List Expr} {m : AM} {fs : FnSem} {n : Nat}
theorem RelDs.len_of {as : List Addr} {L : Addr → Prop} {H : Hp} {ds : List D} {vs : List V} (r : RelDs G as L H ds vs) (h : ds.length = n) : vs.length = n := by rw [← r.length]; exact h
/-- a call of such a def -/
def evCall (n : Nat) (f : FnSem) (a : AM) : EM := fun env st => (a env st).bind fun ds st1 => if ds.length = n then noX (f ds st1) else .stuck
theorem pI_call (F : FnOk X.prog X.w X.K X.mg X.base CX0 k f fd ps (spN G n fs)) (hr : Room k X.A) (hg : Gl X x) (hm : X.mg x = some (.ref f)) (hk : PySem.W.keepIn X.K (.ref f) = true) (hb : Binds X.K fd ps []) (ha : PA X (e :: es) (tAr G E m))
    (hdb : (x == ("__debug__" : Str)) = false := by decide) (he : starEach (e :: es) X.env = (false, eval e X.env) :: starEach es X.env := by rfl) (hpl : (backTo pos (starEach es X.env)).any (·.1) = false := by rfl) : PE X (.Call (.Name x p) (e :: es) [] pos) (tI G E (evCall n fs m)) := by
  refine (pe_call (E := fun _ _ _ => False) F hr hg hm hk hb .nil (fun _ _ _ _ _ _ _ h => h.elim) ha hdb he hpl).vi fun σ H Q h => ?_
  obtain ⟨as, st, env, s, er, p⟩ := h
  refine ⟨as, st, env, s, er, (p.bind s.len).mono fun ds as1 st1 H1 e1 s1 p1 vs r1 => ?_⟩
  split at p1
  · rename_i hn
    refine ⟨by rw [List.append_nil]; exact r1.len_of hn, as1, st1, ds, s1, by rw [List.append_nil]; exact r1, ?_⟩
    exact Post.noX (p1.mono fun w as3 st3 H3 e3 s3 q v rv => q v (rv.from (fresh_of e1)))
  · exact p1.elim
theorem pI_call0 (F : FnOk X.prog X.w X.K X.mg X.base CX0 k f fd ps (spN G 0 fs)) (hr : Room k X.A) (hg : Gl X x) (hm : X.mg x = some (.ref f)) (hk : PySem.W.keepIn X.K (.ref f) = true) (hb : Binds X.K fd ps [])
    (hdb : (x == ("__debug__" : Str)) = false := by decide) : PE X (.Call (.Name x p) [] [] pos) (tI G E (evCall 0 fs anil)) := by
  refine (pe_call0 (E := fun _ _ _ => False) F hr hg hm hk hb .nil (fun _ _ _ _ _ _ _ h => h.elim) hdb).vi fun σ H Q h => ?_
  obtain ⟨as, st, env, s, er, p⟩ := h
  have p : Post G (eAt E σ) as st H (noX (fs [] st)) _ := p
  exact ⟨rfl, as, st, [], s, .nil, Post.noX p⟩
end
end VI
namespace VI
open PySem PySem.Spec PyProof.Rows L2
/-- where a def of the text stands -/
def At (K : PySem.W.Frag) (mg : Str → Option Value) (x qual : Str) (st : Stmt) (ps : List Str) : Prop := ∃ a fd, Fun K x qual st a fd ∧ Binds K fd ps [] ∧ mg x = some (.ref a)
def Ok (P : Program) (w : World) (K : PySem.W.Frag) (mg : Str → Option Value) (base : Heap) (G : Gx) (k : Nat) (x : Str) (n : Nat) (fs : FnSem) : Prop :=
  ∃ a fd ps, FnOk P w K mg base CX0 k a fd ps (spN G n fs) ∧ PySem.W.keepIn K (.ref a) = true ∧ Binds K fd ps [] ∧ mg x = some (.ref a)
section
variable {P : Program} {w : World} {K : PySem.W.Frag} {mg : Str → Option Value} {base : Heap} {G : Gx} {E : WX} {X : Cx}
theorem ok_of {x qual : Str} {st : Stmt} {N ps : List Str} {k n nn : Nat} {m : SM} (D : At K mg x qual st ps) (S : FnScope N ps (defScope st)) (hn : N.length = nn) (hp : ps.length = n)
    (hb : ∀ (f : Addr) (cdv : Value) (A : Around) (outer : List Env) (s : Shared) (H : Hp) (Ex : XK), Room k (A.deeper (envOfC qual (defScope st) s.heap.objs.size f cdv)) →
      PSs (cxOf CX0 P w K mg base N qual (defScope st) f cdv A outer s H Ex).nox (defBody st) (tS G E0w m)) : Ok P w K mg base G (k + 1) x n (runP nn m) := by
  obtain ⟨a, fd, F, b, g⟩ := D
  subst hp
  exact ⟨a, fd, ps, fn_ok F S hn (hb a), F.kp, b, g⟩
theorem pI_callO {k n : Nat} {x : Str} {p pos : Pos} {e : Expr} {es : List Expr} {m : AM} {fs : FnSem} (O : Ok X.prog X.w X.K X.mg X.base G k x n fs) (hr : Room k X.A) (hg : Gl X x) (ha : PA X (e :: es) (tAr G E m))
    (hdb : (x == ("__debug__" : Str)) = false := by decide) (he : starEach (e :: es) X.env = (false, eval e X.env) :: starEach es X.env := by rfl) (hpl : (backTo pos (starEach es X.env)).any (·.1) = false := by rfl) : PE X (.Call (.Name x p) (e :: es) [] pos) (tI G E (evCall n fs m)) := by
  obtain ⟨a, fd, ps, F, kp, b, g⟩ := O
  exact pI_call F hr hg g kp b ha hdb he hpl
theorem pI_callO0 {k : Nat} {x : Str} {p pos : Pos} {fs : FnSem} (O : Ok X.prog X.w X.K X.mg X.base G k x 0 fs) (hr : Room k X.A) (hg : Gl X x)
    (hdb : (x == ("__debug__" : Str)) = false := by decide) : PE X (.Call (.Name x p) [] [] pos) (tI G E (evCall 0 fs anil)) := by
  obtain ⟨a, fd, ps, F, kp, b, g⟩ := O
  exact pI_call0 F hr hg g kp b hdb
theorem _root_.L2.PG.viOr {e : Expr} {t t' : TG} (h : PG X e t) (h' : PG X e t') : PG X e (fun v σ H Q => t v σ H Q ∨ t' v σ H Q) := ⟨fun pins s σ H v u Q I r q => q.elim (h.run pins s σ H v u Q I r) (h'.run pins s σ H v u Q I r)⟩
/-- a tuple or a list, unpacked -/
def gdUn (gs : List GD) : GD := fun d env => match d with
  | .tup ds => gdSeq gs ds env
  | .lst ds => gdSeq gs ds env
  | _ => none
theorem pG_un {es : List Expr} {k : Nat} {gs : List GD} {sl : List Nat} {n : Nat} {pos : Pos} (hK : G.K = X.K) (hc : X.calm = true) (h : PGs X es (tGs G gs sl)) (hgs : gs.length = n)
    (hn : (assignEach es X.env).length = n := by rfl) (hst : (assignEach es X.env).findIdx? (·.1) = none := by rfl) : PG X (.Tuple es k pos) (tG G (gdUn gs) sl) :=
  (L2.PG.viOr (pG_tup (k := k) (pos := pos) hK hc h hgs hn hst) (pG_lst (k := k) (pos := pos) hK hc h hgs hn hst)).vi fun v σ H Q ⟨as, st, env, d, env', s, er, r, q, kk⟩ => by
    cases d with
    | tup ds => exact .inl ⟨as, st, env, _, env', s, er, r, q, kk⟩
    | lst ds => exact .inr ⟨as, st, env, _, env', s, er, r, q, kk⟩
    | _ => cases q
def fIAdd (a b : D) (st : Store) : Res Wv := match a, b with
  | .int i, .int j => .ok (.val (.int (i + j))) st
  | .str x, .str y => if x.length + y.length ≤ 100000 then .ok (.val (.str (x ++ y))) st else .stuck
  | _, _ => .stuck
def rIAdd : R2 := fun x y H Q => (∃ i j, x = .int i ∧ y = .int j ∧ Q (.int (i + j)) H) ∨ (∃ i j, x = .str i ∧ y = .str j ∧ i.length + j.length ≤ sizeLine ∧ Q (.str (i ++ j)) H)
theorem iop_addA : OpR X (inplaceOp .Add) rIAdd := OpR.or iop_add iop_add_str
theorem opS_iadd : OpS G E fIAdd rIAdd := by
  intro E' as st H d1 d2 x y Q s r1 r2 p
  unfold fIAdd at p
  split at p
  · cases r1; cases r2
    exact .inl ⟨_, _, rfl, rfl, p.now s _ (.int _)⟩
  · cases r1; cases r2
    split at p
    · rename_i h
      exact .inr ⟨_, _, rfl, rfl, szl h, p.now s _ (.str _)⟩
    · exact p.elim
  · exact p.elim
/-! ### the law -/
def spLaw (K : PySem.W.Frag) : Sp := fun vs H Q _ => ∃ (a : Addr) (ns : List Int), vs = [.ref a] ∧ SqL K H a (ns.map V.int) ∧ ns.length ≤ 63 ∧ ∀ H', Q (.bl true) H'
theorem rel_ints {as : List Addr} {L : Addr → Prop} {H : Hp} : ∀ ns : List Int, RelDs G as L H (ns.map D.int) (ns.map V.int)
  | [] => .nil
  | n :: ns => .cons (.int n) (rel_ints ns)
theorem law_imp {fs : FnSem} (hG : G.K = K) (h : ∀ ns : List Int, ns.length ≤ 63 → fs [.lst (ns.map D.int)] [] = .ok (.val (.bl true)) []) : ∀ vs H Q E, spLaw K vs H Q E → spN G 1 fs vs H Q E := by
  rintro vs H Q E ⟨a, ns, rfl, hs, hl, q⟩
  refine ⟨rfl, [], [], [.lst (ns.map D.int)], ⟨rfl, List.nodup_nil, fun i d h => by simp at h, fun i a h => by simp at h⟩, .cons ?_ .nil, ?_⟩
  · subst hG
    rcases hs with hs | hs
    · exact .lst hs (fun ⟨i, d, h, _⟩ => by simp at h) (rel_ints ns)
    · exact .lstK hs (rel_ints ns)
  · rw [h ns hl]
    intro as' H' e s v r
    cases (show RelD G as' _ H' (.bl true) v from r)
    exact q H'
end
end VI
namespace VI
open PySem PySem.Spec PyProof.Rows L2
def evDic0 : EM := fun _ st => .ok (.new (.dic [])) st
theorem pI_dic0 {X : Cx} {G : Gx} {E : WX} {pos : Pos} : PE X (.Dict [] [] pos) (tI G E evDic0) := pe_dnewK.vi fun σ H Q ⟨as, st, env, s, er, p⟩ => by
  intro x hx
  exact p as _ (Ext.lay hx) (s.laid hx) _ ⟨x, rfl, hx, notLive s hx, DicR.k (ks := []) (vs := []) upd_same rfl .nil, s.lay hx⟩
end VI
namespace VI
open PySem PySem.Spec PyProof.Rows L2
/-! ### equations, for simp -/
section
variable {α β : Type} {a : α} {st st1 : Store} {k : α → Store → Res β} {ks : α → Store → SRes} {env env1 : DEnv} {x : EX} {w : Wv} {d d1 d2 : D} {i : Nat}
def onBl {γ : Type} (d : D) (x y : Res γ) : Res γ := match d with
  | .bl true => x
  | .bl false => y
  | _ => .stuck
@[simp] theorem onBl_bl {γ : Type} {b : Bool} {x y : Res γ} : onBl (.bl b) x y = if b = true then x else y := by cases b <;> rfl
@[simp] theorem bind_ok : (Res.ok a st).bind k = k a st := rfl
@[simp] theorem bind_exc : (Res.exc x st : Res α).bind k = .exc x st := rfl
@[simp] theorem bind_stuck : (Res.stuck : Res α).bind k = .stuck := rfl
@[simp] theorem bind_ite {c : Prop} [Decidable c] {p q : Res α} : (if c then p else q).bind k = if c then p.bind k else q.bind k := by split <;> rfl
@[simp] theorem sof_ok : SRes.of env (Res.ok a st) ks = ks a st := rfl
@[simp] theorem sof_exc : SRes.of env (Res.exc x st : Res α) ks = .exc env x st := rfl
@[simp] theorem sof_stuck : SRes.of env (Res.stuck : Res α) ks = .stuck := rfl
@[simp] theorem sof_ite {c : Prop} [Decidable c] {p q : Res α} : SRes.of env (if c then p else q) ks = if c then SRes.of env p ks else SRes.of env q ks := by split <;> rfl
@[simp] theorem sbind_nx {b : SM} : (SRes.nx env st).bind b = b env st := rfl
@[simp] theorem sbind_ret {b : SM} : (SRes.ret w st).bind b = .ret w st := rfl
@[simp] theorem sbind_brk {b : SM} : (SRes.brk env st).bind b = .brk env st := rfl
@[simp] theorem sbind_cnt {b : SM} : (SRes.cnt env st).bind b = .cnt env st := rfl
@[simp] theorem sbind_exc {b : SM} : (SRes.exc env x st).bind b = .exc env x st := rfl
@[simp] theorem sbind_stuck {b : SM} : (SRes.stuck).bind b = .stuck := rfl
@[simp] theorem sbind_ite {c : Prop} [Decidable c] {p q : SRes} {b : SM} : (if c then p else q).bind b = if c then p.bind b else q.bind b := by split <;> rfl
@[simp] theorem val_d : (Wv.val d).d = d := rfl
@[simp] theorem new_d : (Wv.new d).d = d := rfl
theorem evVar_some (h : env[i]? = some (some d)) : evVar i env st = .ok (.val d) st := by unfold evVar; rw [h]
@[simp] theorem evVar_s : evVar i env st = (match env[i]? with | some (some d) => .ok (.val d) st | _ => .stuck) := rfl
@[simp] theorem evC_s : evC d env st = .ok (.val d) st := rfl
variable {m ma mb mc : EM} {am : AM} {t u : TM} {f g : D → D → Store → Res Wv} {f1 : D → Store → Res Wv} {fa : List D → Store → Res Wv} {fm : D → List D → Store → Res Wv}
@[simp] theorem ev1_s : ev1 f1 m env st = (m env st).bind fun w st1 => f1 w.d st1 := rfl
@[simp] theorem ev2_s : ev2 f ma mb env st = (ma env st).bind fun w st1 => (mb env st1).bind fun w2 st2 => f w.d w2.d st2 := rfl
@[simp] theorem evA_s : evA fa am env st = (am env st).bind fun ds st1 => fa ds st1 := rfl
@[simp] theorem anil_s : anil env st = .ok [] st := rfl
@[simp] theorem acons_s : acons m am env st = (m env st).bind fun w st1 => (am env st1).bind fun ds st2 => .ok (w.d :: ds) st2 := rfl
@[simp] theorem tvB_s : tvB m env st = (m env st).bind fun w st1 => match w.d with | .bl b => .ok b st1 | _ => .stuck := rfl
@[simp] theorem tvNot_s : tvNot t env st = (t env st).bind fun b st1 => .ok (!b) st1 := rfl
@[simp] theorem tvAnd_s : tvAnd t u env st = (t env st).bind fun b st1 => if b = true then u env st1 else .ok false st1 := rfl
@[simp] theorem tvOr_s : tvOr t u env st = (t env st).bind fun b st1 => if b = true then .ok true st1 else u env st1 := rfl
@[simp] theorem tvYes_s : tvYes env st = .ok true st := rfl
@[simp] theorem evNot_s : evNot m env st = (m env st).bind fun w st1 => match w.d with | .bl b => .ok (.val (.bl (!b))) st1 | _ => .stuck := rfl
@[simp] theorem evAnd_s : evAnd ma mb env st = (ma env st).bind fun w st1 => onBl w.d (mb env st1) (.ok (.val (.bl false)) st1) := rfl
@[simp] theorem evOr_s : evOr ma mb env st = (ma env st).bind fun w st1 => onBl w.d (.ok (.val (.bl true)) st1) (mb env st1) := rfl
@[simp] theorem evIf_s : evIf t ma mb env st = (t env st).bind fun c st1 => if c = true then ma env st1 else mb env st1 := rfl
@[simp] theorem evCh_s : evCh f g ma mb mc env st = (ma env st).bind fun w1 st1 => (mb env st1).bind fun w2 st2 => (f w1.d w2.d st2).bind fun w3 st3 => onBl w3.d ((mc env st3).bind fun w4 st4 => g w2.d w4.d st4) (.ok (.val (.bl false)) st3) := rfl
@[simp] theorem evTup_s : evTup am env st = (am env st).bind fun ds st1 => if ds.length ≤ 100000 then .ok (.val (.tup ds)) st1 else .stuck := rfl
@[simp] theorem evLst_s : evLst am env st = (am env st).bind fun ds st1 => if ds.length ≤ 100000 then .ok (.new (.lst ds)) st1 else .stuck := rfl
@[simp] theorem evDic0_s : evDic0 env st = .ok (.new (.dic [])) st := rfl
@[simp] theorem sNext_s : sNext env st = .nx env st := rfl
@[simp] theorem sBreak_s : sBreak env st = .brk env st := rfl
@[simp] theorem sCont_s : sCont env st = .cnt env st := rfl
@[simp] theorem sSeq_s {p q : SM} : sSeq p q env st = (p env st).bind q := rfl
@[simp] theorem sDrop_s : sDrop m env st = SRes.of env (m env st) fun _ st1 => .nx env st1 := rfl
@[simp] theorem sRet_s : sRet m env st = SRes.of env (m env st) fun w st1 => .ret w st1 := rfl
@[simp] theorem sRetN_s : sRetN env st = .ret (.val .non) st := rfl
@[simp] theorem sIf_s {p q : SM} : sIf t p q env st = SRes.of env (t env st) fun c st1 => if c = true then p env st1 else q env st1 := rfl
@[simp] theorem sSet_s : sSet i m env st = SRes.of env (m env st) fun w st1 => .nx (env.set i (some w.d)) st1 := rfl
@[simp] theorem sReg_s : sReg i m env st = SRes.of env (m env st) fun w st1 => match w with | .new d => .nx (env.set i (some (.ref st1.length))) (st1 ++ [some d]) | .val _ => .stuck := rfl
@[simp] theorem sPar_s {j : Nat} : sPar i j am env st = SRes.of env (am env st) fun ds st1 => match ds with | [d, e] => .nx ((env.set i (some d)).set j (some e)) st1 | _ => .stuck := rfl
@[simp] theorem sAsg_s {gd : GD} : sAsg gd m env st = SRes.of env (m env st) fun w st1 => match gd w.d env with | some env1 => .nx env1 st1 | none => .stuck := rfl
@[simp] theorem gdName_s : gdName i d env = some (env.set i (some d)) := rfl
@[simp] theorem gdUn_tup {gs : List GD} {ds : List D} : gdUn gs (.tup ds) env = gdSeq gs ds env := rfl
@[simp] theorem gdUn_lst {gs : List GD} {ds : List D} : gdUn gs (.lst ds) env = gdSeq gs ds env := rfl
@[simp] theorem gdSeq_nil : gdSeq [] [] env = some env := rfl
@[simp] theorem gdSeq_cons {g : GD} {gs : List GD} {ds : List D} : gdSeq (g :: gs) (d :: ds) env = (g d env).bind fun env1 => gdSeq gs ds env1 := rfl
@[simp] theorem sAug_s : sAug i f m env st = (match env[i]? with | some (some d) => SRes.of env (m env st) fun w st1 => SRes.of env (f d w.d st1) fun w2 st2 => .nx (env.set i (some w2.d)) st2 | _ => .stuck) := rfl
@[simp] theorem sSetIx_s {fs : D → D → D → Store → Option Store} : sSetIx fs ma mb mc env st = SRes.of env (ma env st) fun w1 st1 => SRes.of env (mb env st1) fun w2 st2 => SRes.of env (mc env st2) fun w3 st3 => match fs w2.d w3.d w1.d st3 with | some st4 => .nx env st4 | none => .stuck := rfl
@[simp] theorem sFor_s {im : IM} {gd : GD} {b : SM} : sFor im gd b env st = SRes.of env (im env st) fun iv st1 => forGo iv gd b iv.items env st1 := rfl
@[simp] theorem evSl_s {lo hi : BM} : evSl m lo hi env st = (m env st).bind fun w st1 => (lo env st1).bind fun l st2 => (hi env st2).bind fun h st3 => fSl w.d l h st3 := rfl
@[simp] theorem bNone_s : bNone env st = .ok none st := rfl
@[simp] theorem bSome_s : bSome m env st = (m env st).bind fun w st1 => match w.d with | .int i => .ok (some i) st1 | _ => .stuck := rfl
@[simp] theorem evMt_s {T : String} : evMt T fm m am env st = (m env st).bind fun w st1 => if tyD w.d st1 = some T ∧ (T = "str" ∨ T = "list" ∨ T = "dict") then (am env st1).bind fun ds st2 => fm w.d ds st2 else .stuck := rfl
@[simp] theorem evCall_s {n : Nat} {fs : FnSem} : evCall n fs am env st = (am env st).bind fun ds st1 => if ds.length = n then noX (fs ds st1) else .stuck := rfl
@[simp] theorem noX_ok : noX (Res.ok a st) = .ok a st := rfl
@[simp] theorem itSeq_s : itSeq m env st = (m env st).bind fun w st1 => match seqOf w.d st1 with | some (ds, src) => .ok ⟨ds, src⟩ st1 | none => .stuck := rfl
@[simp] theorem itR1_s : itR1 am env st = (am env st).bind fun ds st1 => match ds with | [.int j] => if okR j = true then .ok ⟨rangeD 0 j.toNat, none⟩ st1 else .stuck | _ => .stuck := rfl
@[simp] theorem itR2_s : itR2 am env st = (am env st).bind fun ds st1 => match ds with | [.int i, .int j] => if (okR i && okR j) = true then .ok ⟨rangeD i (j - i).toNat, none⟩ st1 else .stuck | _ => .stuck := rfl
@[simp] theorem seqOf_tup {ds : List D} : seqOf (.tup ds) st = some (ds, none) := rfl
@[simp] theorem seqOf_lst {ds : List D} : seqOf (.lst ds) st = some (ds, none) := rfl
@[simp] theorem seqOf_str {z : Str} : seqOf (.str z) st = some (z.cps.toList.map (fun c => D.str ⟨#[c]⟩), none) := rfl
@[simp] theorem lstOf_lst {ds : List D} : lstOf (.lst ds) st = some (ds, none) := rfl
@[simp] theorem srcOk_none {ds : List D} : srcOk ⟨ds, none⟩ st = true := rfl
end
/-! ### what functions do -/
section
variable {st : Store}
@[simp] theorem fAdd_int {i j : Int} : fAdd (.int i) (.int j) st = .ok (.val (.int (i + j))) st := rfl
@[simp] theorem fAdd_lst {a b : List D} : fAdd (.lst a) (.lst b) st = if catOk a b = true then .ok (.new (.lst (a ++ b))) st else .stuck := rfl
@[simp] theorem fAdd_tup {a b : List D} : fAdd (.tup a) (.tup b) st = if catOk a b = true then .ok (.val (.tup (a ++ b))) st else .stuck := rfl
@[simp] theorem fAdd_str {a b : Str} : fAdd (.str a) (.str b) st = if a.length + b.length ≤ 100000 then .ok (.val (.str (a ++ b))) st else .stuck := rfl
@[simp] theorem fSub_int {i j : Int} : fSub (.int i) (.int j) st = .ok (.val (.int (i - j))) st := rfl
@[simp] theorem fMod_int {i j : Int} : fMod (.int i) (.int j) st = if 0 < j then .ok (.val (.int (i % j))) st else .stuck := rfl
@[simp] theorem fDiv_int {i j : Int} : fDiv (.int i) (.int j) st = if 0 < j ∧ j < 1073741824 then .ok (.val (.int (i / j))) st else .stuck := rfl
@[simp] theorem fPow_int {i j : Int} : fPow (.int i) (.int j) st = if 0 ≤ j ∧ j ≤ 1000000 ∧ i.natAbs < 2 ^ 64 then .ok (.val (.int (i ^ j.toNat))) st else .stuck := rfl
@[simp] theorem fMul_int {i j : Int} : fMul (.int i) (.int j) st = if (smallF i || smallF j) = true then .ok (.val (.int (i * j))) st else .stuck := rfl
@[simp] theorem fNeg_int {i : Int} : fNeg (.int i) st = .ok (.val (.int (-i))) st := rfl
@[simp] theorem fCmp_int {f : Int → Int → Bool} {i j : Int} : fCmp f (.int i) (.int j) st = .ok (.val (.bl (f i j))) st := rfl
@[simp] theorem fIsB_bl {i j : Bool} : fIsB (.bl i) (.bl j) st = .ok (.val (.bl (decide (i = j)))) st := rfl
@[simp] theorem fAbs_int {i : Int} : fAbs [.int i] st = .ok (.val (.int (if i < 0 then -i else i))) st := rfl
@[simp] theorem fLen_str {z : Str} : fLen [.str z] st = if z.length ≤ 100000 then .ok (.val (.int z.length)) st else .stuck := rfl
@[simp] theorem fLen_tup {ds : List D} : fLen [.tup ds] st = .ok (.val (.int ds.length)) st := rfl
@[simp] theorem fLen_lst {ds : List D} : fLen [.lst ds] st = .ok (.val (.int ds.length)) st := rfl
@[simp] theorem fList_tup {ds : List D} : fList [.tup ds] st = .ok (.new (.lst ds)) st := rfl
@[simp] theorem fList_lst {ds : List D} : fList [.lst ds] st = .ok (.new (.lst ds)) st := rfl
@[simp] theorem fTuple_tup {ds : List D} : fTuple [.tup ds] st = .ok (.val (.tup ds)) st := rfl
@[simp] theorem fTuple_lst {ds : List D} : fTuple [.lst ds] st = .ok (.val (.tup ds)) st := rfl
@[simp] theorem fAll_lst {ds : List D} : fAll [.lst ds] st = (match blsOf ds with | some bs => .ok (.val (.bl (bs.all id))) st | none => .stuck) := rfl
@[simp] theorem fAny_lst {ds : List D} : fAny [.lst ds] st = (match blsOf ds with | some bs => .ok (.val (.bl (bs.any id))) st | none => .stuck) := rfl
@[simp] theorem fIx_tup {ds : List D} {i : Int} : fIx (.tup ds) (.int i) st = (match atI ds i with | some d => .ok (.val d) st | none => .stuck) := rfl
@[simp] theorem fIx_lst {ds : List D} {i : Int} : fIx (.lst ds) (.int i) st = (match atI ds i with | some d => .ok (.val d) st | none => .stuck) := rfl
@[simp] theorem fIx_str {z : Str} {i : Int} : fIx (.str z) (.int i) st = if z.length ≤ 100000 then (match atI z.cps.toList i with | some c => .ok (.val (.str ⟨#[c]⟩)) st | none => .stuck) else .stuck := rfl
@[simp] theorem fSl_str {z : Str} {lo hi : Option Int} : fSl (.str z) lo hi st = if z.length ≤ 100000 then .ok (.val (.str (cutS z lo hi))) st else .stuck := rfl
@[simp] theorem fSl_lst {ds : List D} {lo hi : Option Int} : fSl (.lst ds) lo hi st = .ok (.new (.lst (cutD ds lo hi))) st := rfl
@[simp] theorem fSl_tup {ds : List D} {lo hi : Option Int} : fSl (.tup ds) lo hi st = .ok (.val (.tup (cutD ds lo hi))) st := rfl
@[simp] theorem fIn_str {neg : Bool} {i j : Str} : fIn neg (.str i) (.str j) st = .ok (.val (.bl (if neg then !strIn i j else strIn i j))) st := rfl
@[simp] theorem fEq_bl {neg a b : Bool} : fEq neg (.bl a) (.bl b) st = .ok (.val (.bl (if neg then !(a == b) else a == b))) st := by
  simp only [fEq, unref, isPy, shallow, toPy, PyData.depth, eqD, PyData.eqv]; simp
@[simp] theorem fEq_int {neg : Bool} {a b : Int} : fEq neg (.int a) (.int b) st = .ok (.val (.bl (if neg then !(a == b) else a == b))) st := by
  simp only [fEq, unref, isPy, shallow, toPy, PyData.depth, eqD, PyData.eqv]; simp
@[simp] theorem fEq_str {neg : Bool} {a b : Str} : fEq neg (.str a) (.str b) st = .ok (.val (.bl (if neg then !(a == b) else a == b))) st := by
  simp only [fEq, unref, isPy, shallow, toPy, PyData.depth, eqD, PyData.eqv]; simp
/-- a list against the empty one -/
theorem fEq_nil {neg : Bool} {ds : List D} (h : isPys ds = true) : fEq neg (.lst ds) (.lst []) st = .ok (.val (.bl (if neg then !ds.isEmpty else ds.isEmpty))) st := by
  cases ds with
  | nil => simp [fEq, unref, isPy, isPys, shallow, toPy, toPys, PyData.depth, PyData.depthAll, eqD, PyData.eqv, PyData.eqvAll]
  | cons d ds =>
    have hm : min (PyData.depthAll (toPys (d :: ds)) + 1) (PyData.depthAll [] + 1) ≤ 60 := by simp only [PyData.depthAll]; omega
    have c : (isPy (unref (.lst (d :: ds)) st) && isPy (unref (.lst []) st) && shallow (unref (.lst (d :: ds)) st) (unref (.lst []) st)) = true := by
      simp only [unref, isPy, h, shallow, toPy, PyData.depth, Bool.and_eq_true, decide_eq_true_eq]
      refine ⟨⟨trivial, by simp [isPys]⟩, ?_⟩
      simpa only [toPys] using hm
    unfold fEq
    rw [if_pos c]
    simp only [unref, eqD, toPy, toPys, PyData.eqv, PyData.eqvAll]
    simp
@[simp] theorem blsOf_map (bs : List Bool) : blsOf (bs.map D.bl) = some bs := by
  induction bs with
  | nil => rfl
  | cons b bs ih => simp [blsOf, ih]
@[simp] theorem strsOf_map (bs : List Str) : strsOf (bs.map D.str) = some bs := by
  induction bs with
  | nil => rfl
  | cons b bs ih => simp [strsOf, ih]
@[simp] theorem blsOf_map' {α : Type} (f : α → Bool) (xs : List α) : blsOf (xs.map fun x => D.bl (f x)) = some (xs.map f) := by
  have := blsOf_map (xs.map f)
  rw [List.map_map] at this; exact this
@[simp] theorem strsOf_map' {α : Type} (f : α → Str) (xs : List α) : strsOf (xs.map fun x => D.str (f x)) = some (xs.map f) := by
  have := strsOf_map (xs.map f)
  rw [List.map_map] at this; exact this
end
/-! ### running a def -/
theorem cutOk_self (st more : Store) : cutOk st (st ++ more) = true := by
  unfold cutOk
  simp
/-- it hands back a value, the store as it was -/
theorem fin_val {st more : Store} {d : D} (h : refsLt st.length d = true) (hr : ∀ n, d ≠ .ref n) : fin st (.val d) (st ++ more) = .ok (.val d) st := by
  unfold fin
  rw [if_pos (cutOk_self st more)]
  cases d with
  | ref n => exact absurd rfl (hr n)
  | _ => simp [h]
theorem fin_new {st more : Store} {d : D} (h : refsLt st.length d = true) : fin st (.new d) (st ++ more) = .ok (.new d) st := by
  unfold fin
  rw [if_pos (cutOk_self st more)]
  simp [h]
/-- a local cell -/
theorem fin_ref {st more : Store} {n : Nat} {d : D} (hn : st.length ≤ n) (hc : (st ++ more)[n]? = some (some d)) (h : refsLt st.length d = true) : fin st (.val (.ref n)) (st ++ more) = .ok (.new d) st := by
  unfold fin
  rw [if_pos (cutOk_self st more)]
  simp [show ¬ n < st.length by omega, hc, h]
/-! ### comprehensions whose elements are pure -/
mutual
theorem refsLt_mono {k j : Nat} (h : k ≤ j) : ∀ d : D, refsLt k d = true → refsLt j d = true
  | .non, _ => by simp [refsLt]
  | .bl _, _ => by simp [refsLt]
  | .int _, _ => by simp [refsLt]
  | .str _, _ => by simp [refsLt]
  | .ty _, _ => by simp [refsLt]
  | .cl _, _ => by simp [refsLt]
  | .ref n, q => by
    simp only [refsLt, decide_eq_true_eq] at q ⊢
    omega
  | .tup ds, q => by simp only [refsLt] at q ⊢; exact refsLts_mono h ds q
  | .lst ds, q => by simp only [refsLt] at q ⊢; exact refsLts_mono h ds q
  | .dic ds, q => by simp only [refsLt] at q ⊢; exact refsLtK_mono h ds q
  | .obj c ds, q => by simp only [refsLt] at q ⊢; exact refsLtF_mono h ds q
theorem refsLts_mono {k j : Nat} (h : k ≤ j) : ∀ d : List D, refsLts k d = true → refsLts j d = true
  | [], _ => by simp [refsLts]
  | d :: ds, q => by
    simp only [refsLts, Bool.and_eq_true] at q ⊢
    exact ⟨refsLt_mono h d q.1, refsLts_mono h ds q.2⟩
theorem refsLtK_mono {k j : Nat} (h : k ≤ j) : ∀ d : List (D × D), refsLtK k d = true → refsLtK j d = true
  | [], _ => by simp [refsLtK]
  | (a, b) :: ds, q => by
    simp only [refsLtK, Bool.and_eq_true] at q ⊢
    exact ⟨⟨refsLt_mono h a q.1.1, refsLt_mono h b q.1.2⟩, refsLtK_mono h ds q.2⟩
theorem refsLtF_mono {k j : Nat} (h : k ≤ j) : ∀ d : List (Str × D), refsLtF k d = true → refsLtF j d = true
  | [], _ => by simp [refsLtF]
  | (_, b) :: ds, q => by
    simp only [refsLtF, Bool.and_eq_true] at q ⊢
    exact ⟨refsLt_mono h b q.1, refsLtF_mono h ds q.2⟩
end
theorem refsLts_all {k : Nat} {ds : List D} : refsLts k ds = true ↔ ∀ d ∈ ds, refsLt k d = true := by
  induction ds with
  | nil => simp [refsLts]
  | cons d ds ih => simp [refsLts, ih]
theorem lcGo_map {α : Type} {g : GD} {t : TM} {e : EM} {env : DEnv} {iv : IterV} (hs : iv.src = none) (inj : α → D) (c : α → Bool) (f : α → D) (e1 : α → DEnv) (st : Store) : ∀ (items : List α) (acc : List D), items.length + acc.length ≤ 100000 →
    (∀ d ∈ items, g (inj d) env = some (e1 d) ∧ ∀ more : Store, t (e1 d) (st ++ more) = .ok (c d) (st ++ more) ∧ (c d = true → ∃ w, e (e1 d) (st ++ more) = .ok w (st ++ more) ∧ w.d = f d)) →
    lcGo iv g t e st.length (items.map inj) acc env (st ++ [some (.lst acc)]) = .ok (acc ++ (items.filter c).map f) (st ++ [some (.lst (acc ++ (items.filter c).map f))])
  | [], acc, _, _ => by
    unfold lcGo
    have : srcOk iv (st ++ [some (.lst acc)]) = true := by unfold srcOk; rw [hs]
    simp [this]
  | d :: items, acc, hl, h => by
    have ok : srcOk iv (st ++ [some (.lst acc)]) = true := by unfold srcOk; rw [hs]
    obtain ⟨h1, h2⟩ := h d List.mem_cons_self
    obtain ⟨h3, h4⟩ := h2 [some (D.lst acc)]
    have hc : (st ++ [some (.lst acc)])[st.length]? = some (some (.lst acc)) := by simp
    rw [List.map_cons]
    unfold lcGo
    rw [if_pos ⟨ok, hc⟩]
    simp only [h1, h3, noX_ok, bind_ok]
    simp only [List.length_cons] at hl
    cases q : c d with
    | true =>
      obtain ⟨w, hw, hd⟩ := h4 q
      rw [if_pos rfl, hw]
      simp only [noX_ok, bind_ok]
      rw [if_pos ⟨hc, by omega⟩, hd]
      have e2 : (st ++ [some (D.lst acc)]).set st.length (some (D.lst (acc ++ [f d]))) = st ++ [some (D.lst (acc ++ [f d]))] := by
        rw [List.set_append_right _ _ (Nat.le_refl _)]; simp
      rw [e2, lcGo_map hs inj c f e1 st items (acc ++ [f d]) (by simp; omega) fun x hx => h x (List.mem_cons_of_mem _ hx)]
      simp [List.filter_cons, q]
    | false =>
      rw [if_neg Bool.false_ne_true, lcGo_map hs inj c f e1 st items acc (by omega) fun x hx => h x (List.mem_cons_of_mem _ hx)]
      simp [List.filter_cons, q]
theorem evLc_map {α : Type} {own : List Nat} {m : IM} {g : GD} {t : TM} {e : EM} {env : DEnv} {st : Store} {items : List α} (inj : α → D) (c : α → Bool) (f : α → D) (e1 : α → DEnv) (hm : m env st = .ok ⟨items.map inj, none⟩ st) (hl : items.length ≤ 100000)
    (h : ∀ d ∈ items, g (inj d) (wipeD env own) = some (e1 d) ∧ ∀ more : Store, t (e1 d) (st ++ more) = .ok (c d) (st ++ more) ∧ (c d = true → ∃ w, e (e1 d) (st ++ more) = .ok w (st ++ more) ∧ w.d = f d))
    (hr : ∀ d ∈ items, c d = true → refsLt 0 (f d) = true) :
    evLc own m g t e env st = .ok (.new (.lst ((items.filter c).map f))) st := by
  unfold evLc
  rw [hm]
  simp only [bind_ok]
  rw [lcGo_map rfl inj c f e1 st items [] (by simpa using hl) h]
  simp only [bind_ok, List.nil_append]
  have hr' : refsLts st.length ((items.filter c).map f) = true := by
    rw [refsLts_all]
    intro d hd
    obtain ⟨x, hx, rfl⟩ := List.mem_map.mp hd
    obtain ⟨h1, h2⟩ := List.mem_filter.mp hx
    exact refsLt_mono (Nat.zero_le _) _ (hr x h1 h2)
  have e2 : (st ++ [some (D.lst ((items.filter c).map f))]).take st.length = st := by simp
  rw [if_pos ⟨cutOk_self _ _, hr'⟩, e2]
/-- .. without a test -/
theorem evLc_map1 {α : Type} {own : List Nat} {m : IM} {g : GD} {e : EM} {env : DEnv} {st : Store} {items : List α} (inj : α → D) (f : α → D) (e1 : α → DEnv) (hm : m env st = .ok ⟨items.map inj, none⟩ st) (hl : items.length ≤ 100000)
    (h : ∀ d ∈ items, g (inj d) (wipeD env own) = some (e1 d) ∧ ∀ more : Store, ∃ w, e (e1 d) (st ++ more) = .ok w (st ++ more) ∧ w.d = f d)
    (hr : ∀ d ∈ items, refsLt 0 (f d) = true) :
    evLc own m g tvYes e env st = .ok (.new (.lst (items.map f))) st := by
  have q := evLc_map (own := own) (t := tvYes) (e := e) (c := fun _ => true) inj f e1 hm hl (fun d hd => ⟨(h d hd).1, fun more => ⟨rfl, fun _ => (h d hd).2 more⟩⟩) (fun d hd _ => hr d hd)
  rw [q, List.filter_eq_self.mpr (fun _ _ => rfl)]
theorem cutOk_refl (st : Store) : cutOk st st = true := by
  have := cutOk_self st []
  rwa [List.append_nil] at this
theorem fin_val0 {st : Store} {d : D} (h : refsLt st.length d = true) (hr : ∀ n, d ≠ .ref n) : fin st (.val d) st = .ok (.val d) st := by
  have := fin_val (more := []) h hr
  rwa [List.append_nil] at this
theorem fin_new0 {st : Store} {d : D} (h : refsLt st.length d = true) : fin st (.new d) st = .ok (.new d) st := by
  have := fin_new (more := []) h
  rwa [List.append_nil] at this
@[simp] theorem fin_bl {st more : Store} {b : Bool} : fin st (.val (.bl b)) (st ++ more) = .ok (.val (.bl b)) st := fin_val (by simp [refsLt]) (fun _ => nofun)
@[simp] theorem fin_bl0 {st : Store} {b : Bool} : fin st (.val (.bl b)) st = .ok (.val (.bl b)) st := fin_val0 (by simp [refsLt]) (fun _ => nofun)
@[simp] theorem fin_int {st more : Store} {b : Int} : fin st (.val (.int b)) (st ++ more) = .ok (.val (.int b)) st := fin_val (by simp [refsLt]) (fun _ => nofun)
@[simp] theorem fin_int0 {st : Store} {b : Int} : fin st (.val (.int b)) st = .ok (.val (.int b)) st := fin_val0 (by simp [refsLt]) (fun _ => nofun)
@[simp] theorem fin_str {st more : Store} {b : Str} : fin st (.val (.str b)) (st ++ more) = .ok (.val (.str b)) st := fin_val (by simp [refsLt]) (fun _ => nofun)
@[simp] theorem fin_str0 {st : Store} {b : Str} : fin st (.val (.str b)) st = .ok (.val (.str b)) st := fin_val0 (by simp [refsLt]) (fun _ => nofun)
@[simp] theorem fin_non {st more : Store} : fin st (.val .non) (st ++ more) = .ok (.val .non) st := fin_val (by simp [refsLt]) (fun _ => nofun)
@[simp] theorem fin_non0 {st : Store} : fin st (.val .non) st = .ok (.val .non) st := fin_val0 (by simp [refsLt]) (fun _ => nofun)
theorem fIsi_ty {d : D} {st : Store} {a T : String} (h : tyD d st = some a) (hT : okTy T = true) : fIsi [d, .ty T] st = .ok (.val (.bl (isiTab a T))) st := by
  simp only [fIsi, h, hT, if_true]
@[simp] theorem fIsi_non {st : Store} {T : String} : fIsi [.non, .ty T] st = if okTy T = true then .ok (.val (.bl (isiTab "NoneType" T))) st else .stuck := rfl
@[simp] theorem fIsi_bl {st : Store} {b : Bool} {T : String} : fIsi [.bl b, .ty T] st = if okTy T = true then .ok (.val (.bl (isiTab "bool" T))) st else .stuck := rfl
@[simp] theorem fIsi_int {st : Store} {b : Int} {T : String} : fIsi [.int b, .ty T] st = if okTy T = true then .ok (.val (.bl (isiTab "int" T))) st else .stuck := rfl
@[simp] theorem fIsi_str {st : Store} {b : Str} {T : String} : fIsi [.str b, .ty T] st = if okTy T = true then .ok (.val (.bl (isiTab "str" T))) st else .stuck := rfl
@[simp] theorem fIsi_tup {st : Store} {b : List D} {T : String} : fIsi [.tup b, .ty T] st = if okTy T = true then .ok (.val (.bl (isiTab "tuple" T))) st else .stuck := rfl
@[simp] theorem fIsi_lst {st : Store} {b : List D} {T : String} : fIsi [.lst b, .ty T] st = if okTy T = true then .ok (.val (.bl (isiTab "list" T))) st else .stuck := rfl
@[simp] theorem fIsi_dic {st : Store} {T : String} : fIsi [.dic [], .ty T] st = if okTy T = true then .ok (.val (.bl (isiTab "dict" T))) st else .stuck := rfl
@[simp] theorem okTy1 : okTy "str" = true := by decide
@[simp] theorem okTy2 : okTy "int" = true := by decide
@[simp] theorem okTy3 : okTy "bool" = true := by decide
@[simp] theorem okTy4 : okTy "tuple" = true := by decide
@[simp] theorem okTy5 : okTy "list" = true := by decide
@[simp] theorem okTy6 : okTy "dict" = true := by decide
/-! ### loops -/
/-- each turn goes on: what holds behind so many items -/
theorem forGo_inv {iv : IterV} {g : GD} {body : SM} (hs : iv.src = none) (I : Nat → DEnv → Store → Prop) : ∀ (items : List D) (k : Nat) (env : DEnv) (st : Store), I k env st →
    (∀ i d env st, items[i]? = some d → I (k + i) env st → ∃ env1 env2 st2, g d env = some env1 ∧ (body env1 st = .nx env2 st2 ∨ body env1 st = .cnt env2 st2) ∧ I (k + i + 1) env2 st2) →
    ∃ env2 st2, forGo iv g body items env st = .nx env2 st2 ∧ I (k + items.length) env2 st2
  | [], k, env, st, h0, _ => by
    refine ⟨env, st, ?_, by simpa using h0⟩
    unfold forGo
    rw [if_pos (by unfold srcOk; rw [hs])]
  | d :: items, k, env, st, h0, h => by
    obtain ⟨env1, env2, st2, h1, h2, h3⟩ := h 0 d env st rfl (by simpa using h0)
    obtain ⟨env3, st3, h4, h5⟩ := forGo_inv hs I items (k + 1) env2 st2 (by simpa using h3) fun i d' env st hi hI => by
      have e : k + 1 + i = k + (i + 1) := by omega
      rw [e] at hI ⊢
      exact h (i + 1) d' env st (by simpa using hi) hI
    refine ⟨env3, st3, ?_, by simp only [List.length_cons]; rw [show k + (items.length + 1) = k + 1 + items.length by omega]; exact h5⟩
    unfold forGo
    rw [if_pos (by unfold srcOk; rw [hs])]
    simp only [h1]
    rcases h2 with h2 | h2 <;> simp only [h2] <;> exact h4
end VI
namespace VI
open PySem PySem.Spec PyProof.Rows L2
section
variable {st : Store}
@[simp] theorem tyD_ref {n : Nat} : tyD (.ref n) st = (match st[n]? with | some (some (.lst _)) => some "list" | some (some (.dic kvs)) => (if kKeys kvs = true then some "dict" else none) | _ => none) := rfl
@[simp] theorem tyD_str {z : Str} : tyD (.str z) st = some "str" := rfl
@[simp] theorem tyD_lst {z : List D} : tyD (.lst z) st = some "list" := rfl
@[simp] theorem fAppend_ref {n : Nat} {d : D} : fAppend (.ref n) [d] st = (match st[n]? with | some (some (.lst xs)) => if xs.length < 100000 then .ok (.val .non) (st.set n (some (.lst (xs ++ [d])))) else .stuck | _ => .stuck) := rfl
@[simp] theorem set_last {α : Type} (l : List α) (a b : α) : (l ++ [a]).set l.length b = l ++ [b] := by
  rw [List.set_append_right _ _ (Nat.le_refl _)]; simp
@[simp] theorem fSetL_ref {n : Nat} {k : Int} {d : D} : fSetL (.ref n) (.int k) d st = (match st[n]? with | some (some (.lst xs)) => (ixN xs.length k).map fun j => st.set n (some (.lst (xs.set j d))) | _ => none) := rfl
@[simp] theorem fJoin_lst {a : Str} {ds : List D} : fJoin (.str a) [.lst ds] st = (match strsOf ds with | some ys => if (ys.map (·.length)).sum + ys.length * a.length ≤ 100000 then .ok (.val (.str (Txt.join a ys))) st else .stuck | none => .stuck) := rfl
@[simp] theorem lstOf_ref {n : Nat} : lstOf (.ref n) st = (match st[n]? with | some (some (.lst ds)) => some (ds, some n) | _ => none) := rfl
theorem fTuple_ref {n : Nat} {ds : List D} (h : st[n]? = some (some (.lst ds))) : fTuple [.ref n] st = .ok (.val (.tup ds)) st := by simp [fTuple, lstOf, h]
theorem fLen_ref {n : Nat} {ds : List D} (h : st[n]? = some (some (.lst ds))) : fLen [.ref n] st = .ok (.val (.int ds.length)) st := by simp [fLen, lstOf, h]
theorem fIx_ref {n : Nat} {ds : List D} {i : Int} (h : st[n]? = some (some (.lst ds))) : fIx (.ref n) (.int i) st = (match atI ds i with | some d => .ok (.val d) st | none => .stuck) := by simp only [fIx, lstOf, h] <;> cases atI ds i <;> rfl
end
theorem isPys_all {ds : List D} : isPys ds = true ↔ ∀ d ∈ ds, isPy d = true := by
  induction ds with
  | nil => simp [isPys]
  | cons d ds ih => simp [isPys, ih]
/-- an index that lies within -/
theorem atI_in {α : Type} {xs : List α} {i : Int} (h0 : 0 ≤ i) (h1 : i < xs.length) : ∃ v, atI xs i = some v ∧ v ∈ xs := by
  have hj : i.toNat < xs.length := by omega
  refine ⟨xs[i.toNat], ?_, List.getElem_mem hj⟩
  have := atI_nat (List.getElem?_eq_getElem hj)
  rwa [Int.toNat_of_nonneg h0] at this
theorem ixN_in {n : Nat} {i : Int} (h0 : 0 ≤ i) (h1 : i < n) : ixN n i = some i.toNat := by
  unfold ixN
  rw [if_pos h0, if_pos h1]
theorem okR_small {i : Int} (h0 : -1000000 ≤ i) (h1 : i ≤ 1000000000) : okR i = true := by
  simp only [okR, Bool.and_eq_true, decide_eq_true_eq]; omega
theorem rangeD_map (n : Nat) : rangeD 0 n = (List.range n).map fun (i : Nat) => D.int (i : Int) := by
  unfold rangeD; simp
theorem cutD_len {α : Type} (xs : List α) (lo hi : Option Int) : (cutD xs lo hi).length ≤ xs.length := by
  unfold cutD; simp; omega
theorem cutD_mem {α : Type} {xs : List α} {lo hi : Option Int} {x : α} (h : x ∈ cutD xs lo hi) : x ∈ xs := by
  unfold cutD at h
  exact List.mem_of_mem_drop (List.mem_of_mem_take h)
theorem cutS_len (z : Str) (lo hi : Option Int) : (cutS z lo hi).length ≤ z.length := by
  unfold cutS Str.length
  simp
  omega
/-- fin of a local cell that stands alone behind the store -/
theorem fin_cell {st : Store} {d : D} (h : refsLt 0 d = true) : fin st (.val (.ref st.length)) (st ++ [some d]) = .ok (.new d) st :=
  fin_ref (Nat.le_refl _) (by simp) (refsLt_mono (Nat.zero_le _) _ h)
theorem refs_ints (ns : List Int) (k : Nat) : refsLts k (ns.map D.int) = true := by
  rw [refsLts_all]; intro d hd; obtain ⟨n, _, rfl⟩ := List.mem_map.mp hd; simp [refsLt]
theorem refs_strs (ns : List Str) (k : Nat) : refsLts k (ns.map D.str) = true := by
  rw [refsLts_all]; intro d hd; obtain ⟨n, _, rfl⟩ := List.mem_map.mp hd; simp [refsLt]
end VI
namespace VI
open PySem PySem.Spec PyProof.Rows L2
/-! ### tables of any of the sizes that come: each slot is met -/
def orb (m : Nat) : Nat → Nat → List Nat
  | 0, _ => []
  | n + 1, x => x :: orb m n ((x * 5 + 1) % (m + 1))
theorem orb_mem (m : Nat) : ∀ (n a j : Nat), j ∈ orb m n (lcgN m a) → ∃ b, b < a + n ∧ lcgN m b = j
  | 0, _, _, h => nomatch h
  | n + 1, a, j, h => by
    rcases List.mem_cons.mp h with e | h
    · exact ⟨a, by omega, e.symm⟩
    · obtain ⟨b, hb, e⟩ := orb_mem m n (a + 1) j h
      exact ⟨b, by omega, e⟩
structure Full (m : Nat) : Prop where
  all : ∀ j, j ≤ m → ∃ b, b ≤ m ∧ lcgN m b = j
  round : lcgN m (m + 1) = 0
  odd : m % 2 = 1
theorem full_of {m : Nat} (h : ((List.range (m + 1)).all fun j => (orb m (m + 1) 0).contains j) = true) (r : lcgN m (m + 1) = 0) (o : m % 2 = 1) : Full m := by
  refine ⟨fun j hj => ?_, r, o⟩
  have q := List.all_eq_true.mp h j (List.mem_range.mpr (Nat.lt_succ_of_le hj))
  have q2 : j ∈ orb m (m + 1) 0 := by simpa using q
  obtain ⟨b, hb, e⟩ := orb_mem m (m + 1) 0 j q2
  exact ⟨b, by omega, e⟩
theorem full7 : Full 7 := full_of (by decide +kernel) (by decide +kernel) rfl
theorem full31 : Full 31 := full_of (by decide +kernel) (by decide +kernel) rfl
theorem full127 : Full 127 := full_of (by decide +kernel) (by decide +kernel) rfl
theorem full511 : Full 511 := full_of (by decide +kernel) (by decide +kernel) rfl
section
variable {m : Nat}
theorem Full.again (F : Full m) : ∀ k, lcgN m (m + 1 + k) = lcgN m k
  | 0 => F.round
  | k + 1 => congrArg (fun x => (x * 5 + 1) % (m + 1)) (F.again k)
theorem Full.any (F : Full m) {i j : Nat} (hi : i ≤ m) (hj : j ≤ m) : ∃ k, k ≤ m ∧ lcgI m i k = j := by
  obtain ⟨a, ha, rfl⟩ := F.all i hi
  obtain ⟨b, hb, rfl⟩ := F.all j hj
  by_cases c : a ≤ b
  · exact ⟨b - a, by omega, by rw [lcgN_add, Nat.add_sub_of_le c]⟩
  · refine ⟨b + (m + 1) - a, by omega, ?_⟩
    rw [lcgN_add, show a + (b + (m + 1) - a) = m + 1 + b by omega]
    exact F.again b
theorem Full.run (F : Full m) (h : Int) {j : Nat} (hj : j ≤ m) : ∃ n, n ≤ m + 12 ∧ runI m (SetTable.bits h) n = j := by
  obtain ⟨k, hk, e⟩ := F.any (runI_le m (SetTable.bits h) 12) hj
  exact ⟨12 + k, by omega, (runI_tail (bits_lt h) k).trans e⟩
theorem Full.meets (F : Full m) (h : Int) {j : Nat} (hj : j ≤ m) : ∃ k, k < 10 * SetTable.turns m ∧ way m h k = j := by
  obtain ⟨n, hn, e⟩ := F.run h hj
  obtain ⟨k, hk, e2⟩ := run_nth m (SetTable.bits h) n
  exact ⟨k, by simp only [SetTable.turns]; omega, (congrArg SetTable.Probe.j e2).trans e⟩
theorem way_in (m : Nat) (h : Int) (k : Nat) : way m h k ≤ m := by
  have hi : SetTable.bits h % (m + 1) ≤ m := Nat.le_of_lt_succ (Nat.mod_lt _ (Nat.succ_pos _))
  have r := (runEnd_bd hi).1
  have s := (runEnd_bd hi).2.1
  have q := nth_in k (runAt m (SetTable.bits h % (m + 1)) (SetTable.bits h)) (show SetTable.bits h % (m + 1) + (SetTable.runEnd m (SetTable.bits h % (m + 1)) - SetTable.bits h % (m + 1)) ≤ m by omega)
  exact Nat.le_trans (Nat.le_add_right _ _) q
end
/-- each entry is found on its hash's way -/
structure TabF (t : SetTable) (hs : List Int) : Prop where
  ris : Ris t.place.toList
  dm : t.dummies = #[]
  sz : t.place.toList.length = hs.length
  full : Full t.mask
  bd : ∀ x ∈ t.place.toList, x ≤ t.mask
  reach : ∀ (i : Nat) (h : Int) (j : Nat), hs[i]? = some h → t.place.toList[i]? = some j → ∃ k, way t.mask h k = j ∧ ∀ q, q < k → way t.mask h q ∈ t.place.toList
section
variable {t : SetTable} {hs : List Int}
theorem TabF.gap (T : TabF t hs) (hl : hs.length ≤ t.mask) (h : Int) : ∃ K, K < 10 * SetTable.turns t.mask ∧ way t.mask h K ∉ t.place.toList ∧ ∀ k, k < K → way t.mask h k ∈ t.place.toList := by
  obtain ⟨j, hj, hn⟩ := st_missing t.place.toList (t.mask + 1) (by rw [T.sz]; omega)
  obtain ⟨k, hk, e⟩ := T.full.meets h (Nat.le_of_lt_succ hj)
  obtain ⟨K, h1, h2, h3⟩ := st_least (p := fun k => way t.mask h k ∉ t.place.toList) k (by rw [e]; exact hn)
  exact ⟨K, Nat.lt_of_le_of_lt h1 hk, h2, fun q hq => Classical.not_not.mp (h3 q hq)⟩
theorem TabF.ahead (T : TabF t hs) {h : Int} {K i j : Nat} (hK : way t.mask h K ∉ t.place.toList) (hi : hs[i]? = some h) (hj : t.place.toList[i]? = some j) : ∃ k, k < K ∧ way t.mask h k = j := by
  obtain ⟨k, e, hb⟩ := T.reach i h j hi hj
  refine ⟨k, ?_, e⟩
  by_cases c : K < k
  · exact absurd (hb K c) hK
  · by_cases d : k = K
    · subst d
      rw [e] at hK
      exact absurd (List.mem_of_getElem? hj) hK
    · omega
theorem TabF.put (T : TabF t hs) {h : Int} {K p : Nat} (hp : SetTable.below t.place (way t.mask h K) = p) (hK : way t.mask h K ∉ t.place.toList) (hb : ∀ k, k < K → way t.mask h k ∈ t.place.toList) :
    p ≤ hs.length ∧ TabF (t.put (way t.mask h K)).1 (hs.take p ++ h :: hs.drop p) ∧ (t.put (way t.mask h K)).1.fill = hs.length + 1 := by
  have c1 := (below_cut T.ris (way t.mask h K)).1
  rw [hp] at c1
  have hpl : p ≤ t.place.toList.length := c1
  have hph : p ≤ hs.length := T.sz ▸ hpl
  have pp : (t.put (way t.mask h K)).1.place.toList = t.place.toList.take p ++ way t.mask h K :: t.place.toList.drop p := by
    rw [← hp]; exact put_place t _
  have dm := put_dm T.dm (way t.mask h K)
  have sz : (t.put (way t.mask h K)).1.place.toList.length = hs.length + 1 := by rw [pp, len_ins _ hpl, T.sz]
  have up : ∀ {x : Nat}, x ∈ t.place.toList → x ∈ (t.put (way t.mask h K)).1.place.toList := fun hx => by
    rw [pp]; exact mem_ins.mpr (.inr hx)
  refine ⟨hph, ⟨?_, dm, by rw [sz, len_ins _ hph], T.full, fun x hx => ?_, fun i g j h1 h2 => ?_⟩, ?_⟩
  · exact ris_insert T.ris fun e => hK (List.mem_of_getElem? (by rw [Array.getElem?_toList]; exact e))
  · rw [pp] at hx
    rcases mem_ins.mp hx with rfl | hx
    · exact way_in _ _ _
    · exact T.bd x hx
  · rw [tins_get hs hph] at h1
    rw [pp, tins_get _ hpl] at h2
    show ∃ k, way t.mask g k = j ∧ _
    split at h1
    · rename_i c
      rw [if_pos c] at h2
      obtain ⟨k, e, z⟩ := T.reach i g j h1 h2
      exact ⟨k, e, fun q hq => up (z q hq)⟩
    · rename_i c
      rw [if_neg c] at h2
      split at h1
      · rename_i d
        rw [if_pos d] at h2
        cases h1; cases h2
        exact ⟨K, rfl, fun q hq => up (hb q hq)⟩
      · rename_i d
        rw [if_neg d] at h2
        obtain ⟨k, e, z⟩ := T.reach (i - 1) g j h1 h2
        exact ⟨k, e, fun q hq => up (z q hq)⟩
  · show (t.put (way t.mask h K)).1.place.size + (t.put (way t.mask h K)).1.dummies.size = _
    rw [dm, ← Array.length_toList, sz]; rfl
end
/-! ### laid anew -/
section
variable {m : Nat}
theorem Full.free (F : Full m) (owner : Array (Option Nat)) (h : Int) {j : Nat} (hj : j ≤ m) (hf : oAt owner j = none) :
    ∃ K, SetTable.layClean.free m owner (SetTable.turns m) (SetTable.bits h % (m + 1)) (SetTable.bits h) = some (way m h K) ∧ oAt owner (way m h K) = none ∧ ∀ k, k < K → oAt owner (way m h k) ≠ none := by
  obtain ⟨n, hn, e⟩ := F.run h hj
  have hw : way m h (off m (SetTable.bits h % (m + 1)) (SetTable.bits h) n) = j := by
    unfold way
    rw [nth_off, itL_run]
    exact e
  obtain ⟨K, k1, k2, k3⟩ := st_least (p := fun k => oAt owner (way m h k) = none) _ (by rw [hw]; exact hf)
  refine ⟨K, free_spec m owner (SetTable.turns m) n _ _ K (by simp only [SetTable.turns]; omega) k1 (fun k hk => ?_) ?_, k2, k3⟩
  · have q := k3 k hk
    exact (by
      cases z : oAt owner (way m h k) with
      | none => exact absurd z q
      | some _ => rfl : (oAt owner (way m h k)).isNone = false)
  · show (oAt owner (way m h K)).isNone = true
    rw [k2]; rfl
/-- the places that are taken, after `done` -/
structure Held (m : Nat) (done : List Int) (owner : Array (Option Nat)) : Prop where
  sz : owner.size = m + 1
  who : ∀ j k, j ≤ m → oAt owner j = some k → ∃ h K, done[k]? = some h ∧ way m h K = j ∧ ∀ q, q < K → oAt owner (way m h q) ≠ none
  all : ∀ k, k < done.length → ∃ j, j ≤ m ∧ oAt owner j = some k
  ps : ∃ ps : List Nat, ps.length = done.length ∧ ∀ j, j ≤ m → oAt owner j ≠ none → j ∈ ps
theorem held0 (m : Nat) : Held m [] (Array.replicate (m + 1) none) :=
  ⟨by simp, fun j k hj e => (by rw [oAt_init hj] at e; cases e), fun k hk => absurd hk (Nat.not_lt_zero _), ⟨[], rfl, fun j hj e => absurd (oAt_init hj) e⟩⟩
theorem Held.more (F : Full m) {done : List Int} {owner : Array (Option Nat)} (W : Held m done owner) (hl : done.length ≤ m) (h : Int) :
    ∃ j, SetTable.layClean.free m owner (SetTable.turns m) (SetTable.bits h % (m + 1)) (SetTable.bits h) = some j ∧ Held m (done ++ [h]) (owner.setIfInBounds j (some done.length)) := by
  obtain ⟨ps, hps, hin⟩ := W.ps
  obtain ⟨j0, h0, hn0⟩ := st_missing ps (m + 1) (by omega)
  obtain ⟨K, e1, e2, e3⟩ := F.free owner h (Nat.le_of_lt_succ h0) (Classical.not_not.mp fun z => hn0 (hin j0 (Nat.le_of_lt_succ h0) z))
  have hm := way_in m h K
  refine ⟨way m h K, e1, ?_⟩
  have me := oAt_set_self (owner := owner) (j := way m h K) (some done.length) (by rw [W.sz]; omega)
  have up : ∀ i : Nat, oAt owner i ≠ none → oAt (owner.setIfInBounds (way m h K) (some done.length)) i ≠ none := fun i hi => by
    by_cases c : i = way m h K
    · rw [c, me]; exact fun z => nomatch z
    · rw [oAt_set_ne _ c]; exact hi
  refine ⟨by simp [W.sz], fun j k hj e => ?_, fun k hk => ?_, way m h K :: ps, by simp [hps], fun j hj e => ?_⟩
  · by_cases c : j = way m h K
    · rw [c, me] at e
      cases e
      exact ⟨h, K, by simp, c.symm, fun q hq => up _ (e3 q hq)⟩
    · rw [oAt_set_ne _ c] at e
      obtain ⟨g, K', a1, a2, a3⟩ := W.who j k hj e
      obtain ⟨hk, _⟩ := List.getElem?_eq_some_iff.mp a1
      exact ⟨g, K', by rw [List.getElem?_append_left hk]; exact a1, a2, fun q hq => up _ (a3 q hq)⟩
  · by_cases c : k < done.length
    · obtain ⟨j, hj, e⟩ := W.all k c
      refine ⟨j, hj, ?_⟩
      rw [oAt_set_ne _ fun z => by rw [z, e2] at e; cases e]
      exact e
    · have : k = done.length := by simp at hk; omega
      exact ⟨way m h K, hm, this ▸ me⟩
  · by_cases c : j = way m h K
    · exact c ▸ List.mem_cons_self
    · rw [oAt_set_ne _ c] at e
      exact List.mem_cons_of_mem _ (hin j hj e)
theorem held_all (F : Full m) : ∀ (rest done : List Int) (owner : Array (Option Nat)), Held m done owner → done.length + rest.length ≤ m →
    ∃ owner', rest.foldl (stepF m) (some (owner, done.length)) = some (owner', (done ++ rest).length) ∧ Held m (done ++ rest) owner'
  | [], done, owner, W, _ => ⟨owner, by simp, by simpa using W⟩
  | h :: rest, done, owner, W, hl => by
    simp only [List.length_cons] at hl
    obtain ⟨j, e, W'⟩ := W.more F (by omega) h
    obtain ⟨o2, f, W2⟩ := held_all F rest (done ++ [h]) _ W' (by simp; omega)
    have ea : done ++ [h] ++ rest = done ++ h :: rest := by simp
    rw [ea] at f W2
    exact ⟨o2, by rw [List.foldl_cons, stepF_some e]; simpa using f, W2⟩
theorem relaid_full (t : SetTable) {hs : Array Int} {wanted M : Nat} (hw : SetTable.sizeAbove wanted - 1 = M) (F : Full M) (hn : hs.size ≤ M) :
    ∃ t' order, t.relaid hs wanted = some (t', order) ∧ order.toList.Perm (List.range hs.size) ∧ TabF t' (order.toList.map fun i => hs.getD i 0) ∧ t'.mask = M ∧ t'.led = t.led ∧ t'.plain = t.plain := by
  obtain ⟨owner, f, W⟩ := held_all F hs.toList [] _ (held0 M) (by simpa using hn)
  have e : SetTable.layClean M hs = some owner := by
    rw [layClean_eq]
    exact congrArg (Option.map Prod.fst) f
  rw [List.nil_append] at W
  have hr : t.relaid hs wanted = some (tabOf t M owner, ((liveOf M owner).map (·.2)).toArray) := by rw [relaid_eq, hw, e]; rfl
  have ris := ris_live (fun j => owner.getD j none) (List.range (M + 1)) (by
    unfold Ris
    first | exact List.pairwise_lt_range | exact List.pairwise_lt_range _)
  have r1 : Ris ((liveOf M owner).map (·.1)) := ris.1
  have r2 : ∀ x ∈ (liveOf M owner).map (·.1), x ∈ List.range (M + 1) := ris.2
  have all2 : ∀ k, k < hs.size → k ∈ (liveOf M owner).map (·.2) := fun k hk => by
    obtain ⟨j, b1, b2⟩ := W.all k (by simpa using hk)
    exact List.mem_map.mpr ⟨(j, k), (mem_live W.sz).mpr ⟨b1, b2⟩, rfl⟩
  have nd : ((liveOf M owner).map (·.1)).Nodup := List.Pairwise.imp (fun h => Nat.ne_of_lt h) r1
  have hlen : (liveOf M owner).length = hs.size := by
    obtain ⟨ps, p1, p2⟩ := W.ps
    have a := nat_nodup_len ((liveOf M owner).map (·.1)) ps nd fun x hx => by
      obtain ⟨⟨y, k⟩, hq, rfl⟩ := List.mem_map.mp hx
      obtain ⟨b1, b2⟩ := (mem_live W.sz).mp hq
      exact p2 y b1 (by rw [b2]; exact fun z => nomatch z)
    have b := nat_nodup_len (List.range hs.size) ((liveOf M owner).map (·.2)) List.nodup_range fun k hk => all2 k (List.mem_range.mp hk)
    simp at a b p1
    omega
  refine ⟨_, _, hr, perm_range hs.size _ (by simp [hlen]) all2, ⟨r1, rfl, by simp [tabOf], F, fun x hx => Nat.le_of_lt_succ (List.mem_range.mp (r2 x hx)), fun i h j h1 h2 => ?_⟩, rfl, rfl, rfl⟩
  have h2' : ((liveOf M owner).map (·.1))[i]? = some j := h2
  rw [List.getElem?_map] at h1 h2'
  have h1 : Option.map (fun i => hs.getD i 0) ((liveOf M owner).map (·.2))[i]? = some h := h1
  rw [List.getElem?_map] at h1
  cases hq : (liveOf M owner)[i]? with
  | none => rw [hq] at h2'; cases h2'
  | some q =>
    obtain ⟨y, k⟩ := q
    rw [hq] at h1 h2'
    cases h2'
    have eh : hs.getD k 0 = h := Option.some.inj h1
    obtain ⟨b1, b2⟩ := (mem_live W.sz).mp (List.mem_of_getElem? hq)
    obtain ⟨h0, K, a1, a2, a3⟩ := W.who y k b1 b2
    have e0 : h0 = h := by
      rw [← eh, Array.getD_eq_getD_getElem?, ← Array.getElem?_toList, a1]; rfl
    subst e0
    refine ⟨K, a2, fun q hq => ?_⟩
    show way M h0 q ∈ (liveOf M owner).map (·.1)
    cases z : oAt owner (way M h0 q) with
    | none => exact absurd z (a3 q hq)
    | some k2 => exact List.mem_map.mpr ⟨(way M h0 q, k2), (mem_live W.sz).mpr ⟨way_in _ _ _, z⟩, rfl⟩
end
end VI
namespace VI
open PySem PySem.Spec PyProof.Rows L2
/-! ### sets of tuples, nested ones too -/
abbrev IsN (h : Heap) (k : NestedKey) (a : Addr) : Prop := NestedIs h k (.ref a) ∧ k.depth ≤ 8
section
variable {P : Program} {w : World} {A : Around} {E : Value → Shared → Prop} {s : Shared}
theorem IsN.obj {h : Heap} {k : NestedKey} {a : Addr} (x : IsN h k a) : ∃ o vs n ks, k = .tup ks ∧ h.get? a = some o ∧ o.cls = .type "tuple" ∧ o.data = .seq vs n ∧ NestedAll h ks vs.toList := by
  obtain ⟨x, _⟩ := x
  cases x with
  | tup h1 h2 h3 h4 => exact ⟨_, _, _, _, rfl, h1, h2, h3, h4⟩
theorem IsN.inj {h : Heap} {k k' : NestedKey} {a : Addr} (x : IsN h k a) (y : IsN h k' a) : k = k' := NestedIs.inj _ _ _ x.1 y.1
theorem IsN.keep {h h' : Heap} {k : NestedKey} {a : Addr} (x : IsN h k a) (hk : ∀ c o, h.get? c = some o → h'.get? c = some o) : IsN h' k a := ⟨NestedIs.at (fun b o vs n e _ => hk b o e) _ _ x.1, x.2⟩
theorem IsN.but {h h' : Heap} {k : NestedKey} {a b : Addr} {o : Obj} {es : Array (Int × Value)} {ep : Nat} {t : SetTable} (x : IsN h k b) (ho : h.get? a = some o) (hd : o.data = .set es ep t) (hs : Heap.SameBut a h h') : IsN h' k b := by
  refine ⟨NestedIs.at (fun c u vs n e d => ?_) _ _ x.1, x.2⟩
  have ne : c ≠ a := fun z => by
    subst z
    rw [ho] at e
    cases e
    rw [hd] at d
    cases d
  exact (hs.2 c ne).trans e
theorem hash_n {k : NestedKey} {a : Addr} {Q : Int → Shared → Prop} (hu : A.units + 8 < cLine) (x : IsN s.heap k a) (h : Q (k.hash w) { s with toks := s.toks + k.draws }) : wpAny (model P w) A (pyHash (.ref a)) Q E s :=
  (nestedKind P w).pyHash hu x h
theorem eq_n {k k' : NestedKey} {a b : Addr} {Q : Bool → Shared → Prop} (hu : A.units + 8 < cLine) (x : IsN s.heap k a) (y : IsN s.heap k' b) (h : Q (decide (k = k')) s) : wpAny (model P w) A (eqBool (.ref a) (.ref b)) Q E s :=
  (nestedKind P w).eqBool hu x y h
theorem quiet_n {k : NestedKey} {a : Addr} {Q : Bool → Shared → Prop} (x : IsN s.heap k a) (h : Q true s) : wpAny (model P w) A (eqIsQuiet 8 (.ref a)) Q E s := (nestedKind P w).quiet x h
def ClsNo (P : Program) (w : World) (n : Nat) (s : Shared) (v : Value) : Prop := ∀ (A : Around) (E : Value → Shared → Prop) (Q : Bool → Shared → Prop), Q false s → wpAny (model P w) A (ofAClassStatement n v) Q E s
theorem ClsNo.flat {n : Nat} {v : Value} (h : ofAClassStatement n v = pure false) : ClsNo P w n s v := fun A E Q q => by rw [h]; exact wpAny_pure q
theorem ClsNo.seq {n : Nat} {a : Addr} {o : Obj} {vs : Array Value} {m : Nat} (hob : s.heap.get? a = some o) (hcl : o.cls = .type "tuple") (hdt : o.data = .seq vs m) (hq : ∀ v ∈ vs.toList, ClsNo P w n s v) : ClsNo P w (n + 1) s (.ref a) := fun A E Q h => by
  have hT : s.TypeIs (.ref a) "tuple" := ⟨o, hob, hcl⟩
  unfold ofAClassStatement
  refine wpAny_bind (wpAny_typeOf hT ?_)
  have e : (("tuple" : String) == "tuple") = true := by decide
  simp only [e, if_true, Bool.not_true, Bool.false_eq_true, if_false]
  try refine wpAny_bind (wpAny_pure ?_)
  try simp only [Bool.not_true, Bool.false_eq_true, if_false]
  refine wpAny_bind (wpAny_seqItems hob hdt ?_)
  dsimp only
  refine wpAny_bind ?_
  show wpAny _ _ (forIn vs _ _) _ _ s
  rw [← Array.forIn_toList]
  refine wpAny_forIn_list _ (fun left r u => r.1 = none ∧ u = s ∧ ∀ v ∈ left, ClsNo P w n s v) _ ?_ ?_ _ _ ⟨rfl, rfl, hq⟩
  · rintro v left r u ⟨hr, rfl, hall⟩
    refine wpAny_bind (hall v List.mem_cons_self _ _ _ ?_)
    simp only [Bool.false_eq_true, if_false]
    exact wpAny_pure ⟨rfl, rfl, fun x hx => hall x (List.mem_cons_of_mem _ hx)⟩
  · rintro ⟨r1, r2⟩ u ⟨hr, rfl, _⟩
    simp only at hr
    subst hr
    exact wpAny_pure h
mutual
theorem cls_n : ∀ (k : NestedKey) (v : Value) (n : Nat), NestedIs s.heap k v → k.depth ≤ n → ClsNo P w n s v
  | .none, _, n, x, _ => by cases x; exact .flat (by cases n <;> rfl)
  | .num i, _, n, x, _ => by cases x <;> exact .flat (by cases n <;> rfl)
  | .text y, _, n, x, _ => by cases x; exact .flat (by cases n <;> rfl)
  | .tup ks, _, n, x, hn => by
    cases x with
    | tup hg hc hd hk =>
      simp only [NestedKey.depth] at hn
      cases n with
      | zero => omega
      | succ n => exact .seq hg hc hd (cls_ns ks _ n hk (by omega))
theorem cls_ns : ∀ (ks : List NestedKey) (vs : List Value) (n : Nat), NestedAll s.heap ks vs → NestedKey.depthAll ks ≤ n → ∀ v ∈ vs, ClsNo P w n s v
  | [], _, n, x, _, v, hv => by cases x; cases hv
  | k :: ks, _, n, x, hn, v, hv => by
    cases x with
    | cons x1 x2 =>
      simp only [NestedKey.depthAll] at hn
      rcases List.mem_cons.mp hv with rfl | hv
      · exact cls_n k _ n x1 (by omega)
      · exact cls_ns ks _ n x2 (by omega) v hv
end
/-- whether the hash goes by value: one of both answers -/
def ByV (P : Program) (w : World) (n : Nat) (s : Shared) (v : Value) : Prop := ∀ (A : Around) (E : Value → Shared → Prop) (Q : Bool → Shared → Prop), (∀ b, Q b s) → wpAny (model P w) A (hashByValue n v) Q E s
theorem ByV.flat {n : Nat} {v : Value} {b : Bool} (h : hashByValue n v = pure b) : ByV P w n s v := fun A E Q q => by rw [h]; exact wpAny_pure (q b)
theorem ByV.seq {n : Nat} {a : Addr} {o : Obj} {vs : Array Value} {m : Nat} (hob : s.heap.get? a = some o) (hcl : o.cls = .type "tuple") (hdt : o.data = .seq vs m) (hq : ∀ v ∈ vs.toList, ByV P w n s v) : ByV P w (n + 1) s (.ref a) := fun A E Q h => by
  have hT : s.TypeIs (.ref a) "tuple" := ⟨o, hob, hcl⟩
  unfold hashByValue
  refine wpAny_bind (wpAny_specialOf hT F.slot_tuple_hash.lookup ?_)
  show wpAny _ _ (seqItems? (.ref a) >>= _) _ _ s
  refine wpAny_bind (wpAny_seqItems hob hdt ?_)
  refine wpAny_bind ?_
  show wpAny _ _ (forIn vs _ _) _ _ s
  rw [← Array.forIn_toList]
  refine wpAny_forIn_list _ (fun left r u => r.1 = none ∧ u = s ∧ ∀ v ∈ left, ByV P w n s v) _ ?_ ?_ _ _ ⟨rfl, rfl, hq⟩
  · rintro v left r u ⟨hr, rfl, hall⟩
    refine wpAny_bind (hall v List.mem_cons_self _ _ _ fun b => ?_)
    cases b with
    | true =>
      simp only [Bool.not_true, Bool.false_eq_true, if_false]
      exact wpAny_pure ⟨rfl, rfl, fun x hx => hall x (List.mem_cons_of_mem _ hx)⟩
    | false =>
      simp only [Bool.not_false, if_true]
      exact wpAny_pure (wpAny_pure (h false))
  · rintro ⟨r1, r2⟩ u ⟨hr, rfl, _⟩
    simp only at hr
    subst hr
    exact wpAny_pure (h true)
mutual
theorem byv_n : ∀ (k : NestedKey) (v : Value) (n : Nat), NestedIs s.heap k v → k.depth ≤ n → ByV P w n s v
  | .none, _, n, x, _ => by cases x; exact .flat (b := true) (by cases n <;> rfl)
  | .num i, _, n, x, _ => by cases x <;> exact .flat (b := true) (by cases n <;> rfl)
  | .text y, _, n, x, _ => by cases x; exact .flat (b := false) (by cases n <;> rfl)
  | .tup ks, _, n, x, hn => by
    cases x with
    | tup hg hc hd hk =>
      simp only [NestedKey.depth] at hn
      cases n with
      | zero => omega
      | succ n => exact .seq hg hc hd (byv_ns ks _ n hk (by omega))
theorem byv_ns : ∀ (ks : List NestedKey) (vs : List Value) (n : Nat), NestedAll s.heap ks vs → NestedKey.depthAll ks ≤ n → ∀ v ∈ vs, ByV P w n s v
  | [], _, n, x, _, v, hv => by cases x; cases hv
  | k :: ks, _, n, x, hn, v, hv => by
    cases x with
    | cons x1 x2 =>
      simp only [NestedKey.depthAll] at hn
      rcases List.mem_cons.mp hv with rfl | hv
      · exact byv_n k _ n x1 (by omega)
      · exact byv_ns ks _ n x2 (by omega) v hv
end
theorem unseen_n {k : NestedKey} {b : Addr} {Q : Bool → Shared → Prop} (hx : IsN s.heap k b) {ys : List Value} (hy : ∀ y ∈ ys, ∃ k' c, y = Value.ref c ∧ IsN s.heap k' c) (h : Q false s) :
    wpAny (model P w) A (searchCouldBeSeen (.ref b) ys) Q E s := by
  unfold searchCouldBeSeen
  refine wpAny_bind ?_
  refine wpAny_forIn_list _ (fun left r u => r.1 = none ∧ u = s ∧ ∀ y ∈ left, ∃ k' c, y = Value.ref c ∧ IsN s.heap k' c) _ ?_ ?_ _ _ ⟨rfl, rfl, hy⟩
  · rintro v left r u ⟨hr, rfl, hall⟩
    obtain ⟨k', c, rfl, hc⟩ := hall v List.mem_cons_self
    have next : ∀ y ∈ left, ∃ k' c, y = Value.ref c ∧ IsN u.heap k' c := fun x m => hall x (List.mem_cons_of_mem _ m)
    dsimp only
    by_cases hv : (b == c || (carriedByValue (.ref b) && carriedByValue (.ref c))) = true
    · exact wp_if_pos hv (wpAny_pure ⟨rfl, rfl, next⟩)
    · refine wp_if_neg hv (wpAny_bind (quiet_n hx ?_))
      simp only [Bool.not_true, Bool.false_eq_true, if_false]
      refine wpAny_bind (quiet_n hc ?_)
      simp only [Bool.not_true, Bool.false_eq_true, if_false]
      refine wpAny_bind (cls_n _ _ 8 hx.1 hx.2 _ _ _ ?_)
      simp only [Bool.false_eq_true, if_false]
      refine wpAny_bind (cls_n _ _ 8 hc.1 hc.2 _ _ _ ?_)
      simp only [Bool.false_eq_true, if_false]
      exact wpAny_pure ⟨rfl, rfl, next⟩
  · rintro ⟨r1, r2⟩ u ⟨hr, rfl, _⟩
    simp only at hr
    subst hr
    exact wpAny_pure h

/-! ### the set -/
def rowsN (w : World) (L : List (Addr × NestedKey)) : List (Int × Value) := L.map fun p => (p.2.hash w, Value.ref p.1)
theorem rowsN_len (w : World) (L : List (Addr × NestedKey)) : (rowsN w L).length = L.length := List.length_map ..
def Masks (m n : Nat) : Prop := m = 7 ∧ n ≤ 4 ∨ m = 31 ∧ n ≤ 18 ∨ m = 127 ∧ n ≤ 76 ∨ m = 511 ∧ n ≤ 306
structure SetN (w : World) (h : Heap) (a : Addr) (L : List (Addr × NestedKey)) (es : Array (Int × Value)) (ep : Nat) (t : SetTable) : Prop where
  ob : ∃ o, h.get? a = some o ∧ o.ExactSet ∧ o.data = .set es ep t
  rows : es.toList = rowsN w L
  tab : TabF t (L.map fun p => p.2.hash w)
  nd : (L.map (·.2)).Nodup
  tup : ∀ p ∈ L, IsN h p.2 p.1
  led : w.params.followText "set-order" = true ∨ t.led = true
  msk : Masks t.mask L.length
variable {a : Addr} {L : List (Addr × NestedKey)} {es : Array (Int × Value)} {ep : Nat} {t : SetTable}
theorem SetN.size (R : SetN w s.heap a L es ep t) : es.size = L.length := by
  have h := congrArg List.length R.rows
  rw [rowsN_len] at h
  exact h
theorem Masks.room {m n : Nat} (h : Masks m n) : n ≤ m ∧ n < 307 ∧ m ≤ 511 ∧ n * 5 < m * 3 := by
  unfold Masks at h
  omega
theorem fits_n {L : List (Addr × NestedKey)} {es : Array (Int × Value)} {t : SetTable} (T : TabF t (L.map fun p => p.2.hash w)) (h : es.size = L.length) (hm : L.length ≤ t.mask) : t.fits es.size = true := by
  have h1 := T.sz
  simp only [List.length_map, Array.length_toList] at h1
  unfold SetTable.fits SetTable.fill
  rw [T.dm, Bool.and_eq_true, beq_iff_eq, decide_eq_true_eq]
  show t.place.size = es.size ∧ t.place.size + 0 ≤ t.mask
  omega
theorem SetN.fits (R : SetN w s.heap a L es ep t) : t.fits es.size = true := fits_n R.tab R.size R.msk.room.1
theorem SetN.at (R : SetN w s.heap a L es ep t) {i : Nat} {p : Addr × NestedKey} (h : L[i]? = some p) : es[i]? = some (p.2.hash w, Value.ref p.1) := by
  rw [← Array.getElem?_toList, R.rows, rowsN, List.getElem?_map, h]; rfl
theorem gw_n (T : TabF t (L.map fun p => p.2.hash w)) : ¬ t.gaveWay = true := by
  unfold SetTable.gaveWay
  rw [T.full.odd]
  decide
abbrev way0 (m : Nat) (h : Int) : SetTable.Probe := runAt m (SetTable.bits h % (m + 1)) (SetTable.bits h)
theorem nth_dummy (m : Nat) : ∀ (n : Nat) (p : SetTable.Probe), p.dummy = none → (nth m p n).dummy = none
  | 0, _, h => h
  | n + 1, p, h => nth_dummy m n (adv m p) (by unfold adv; split <;> exact h)
/-- the search, from the c-th step on -/
theorem seek (R : SetN w s.heap a L es ep t) {x : Addr} {k : NestedKey} (hx : IsN s.heap k x) (hu : A.units + 8 < cLine) {K : Nat} (hKf : K < 10 * SetTable.turns t.mask)
    (hK : way t.mask (k.hash w) K ∉ t.place.toList) (hKb : ∀ c, c < K → way t.mask (k.hash w) c ∈ t.place.toList) {Q : SetFound → Shared → Prop}
    (hin : k ∈ L.map (·.2) → Q (.there none) s) (hout : k ∉ L.map (·.2) → Q (.free (way t.mask (k.hash w) K) false) s) :
    ∀ (f c : Nat) (stand : Option SetTable.Probe), stand.getD (t.probeStart (k.hash w)) = nth t.mask (way0 t.mask (k.hash w)) c → c ≤ K → K - c < f →
      (∀ (i : Nat) p, L[i]? = some p → p.2 = k → ∃ d, c ≤ d ∧ d < K ∧ t.place.toList[i]? = some (way t.mask (k.hash w) d)) →
      wpAny (model P w) A (setSearchFrom a (.ref x) (k.hash w) true f stand) Q E s
  | 0, c, stand, _, _, hf, _ => absurd hf (Nat.not_lt_zero _)
  | f + 1, c, stand, hst, hc, hf, hre => by
    obtain ⟨ob, hob, hex, hdt⟩ := R.ob
    rw [setSearchFrom_succ]
    refine wpAny_bind (wpAny_setState_of hob hdt R.fits ?_)
    dsimp only
    refine wp_if_neg (gw_n R.tab) ?_
    try refine wpAny_bind (wpAny_pure ?_)
    have wq : ∀ q, (nth t.mask (nth t.mask (way0 t.mask (k.hash w)) c) q).j = way t.mask (k.hash w) (c + q) := fun q => congrArg SetTable.Probe.j (nth_add t.mask c _ q).symm
    have hcK : c + (K - c) = K := by omega
    have spec := go_spec t R.tab.ris R.tab.dm (fun i => (es[i]?.map (·.1)).getD 0) (k.hash w) (10 * SetTable.turns t.mask) (K - c) (nth t.mask (way0 t.mask (k.hash w)) c) (nth_dummy _ _ _ rfl) (by omega)
      (fun q hq => by rw [wq]; exact hKb _ (by omega)) (by rw [wq, hcK]; exact hK)
    have hashes : ∀ (i : Nat) p, L[i]? = some p → (fun i => (es[i]?.map (·.1)).getD 0) i = p.2.hash w := fun i p hp => by
      show (es[i]?.map (·.1)).getD 0 = _
      rw [R.at hp]; rfl
    rcases spec with ⟨q, i, hq, hi, hh, hno, hpr⟩ | ⟨hno, hpr⟩
    · have met : t.probe (fun i => (es[i]?.map (·.1)).getD 0) (k.hash w) (stand.getD (t.probeStart (k.hash w))) = some (.candidate (way t.mask (k.hash w) (c + q)) i (nth t.mask (way0 t.mask (k.hash w)) (c + (q + 1)))) := by
        rw [hst, ← wq, nth_add t.mask c (way0 t.mask (k.hash w)) (q + 1)]
        exact hpr
      rw [met]
      dsimp only
      rw [wq] at hi
      obtain ⟨p, hp⟩ : ∃ p, L[i]? = some p := by
        have h1 := (List.getElem?_eq_some_iff.mp hi).1
        have h2 := R.tab.sz
        rw [List.length_map] at h2
        exact ⟨_, List.getElem?_eq_getElem (h2 ▸ h1)⟩
      have hmem : p ∈ L := List.mem_of_getElem? hp
      have hsl := slot_live R.tab.ris hi
      have more : wpAny (model P w) A (searchRest a (.ref x) (k.hash w) true f es t (way t.mask (k.hash w) (c + q)) i (nth t.mask (way0 t.mask (k.hash w)) (c + (q + 1)))) Q E s := by
        unfold searchRest
        rw [R.at hp]
        dsimp only
        refine wpAny_bind (wpAny_holding (eq_n hu (R.tup p hmem) hx ?_))
        refine wpAny_bind (wpAny_setState_of hob hdt R.fits ?_)
        dsimp only
        by_cases hkk : p.2 = k
        · exact wp_if_pos (by simp [hkk]) (wpAny_pure (hin (List.mem_map.mpr ⟨p, hmem, hkk⟩)))
        · refine wp_if_neg (by simp [hkk]) ?_
          try refine wpAny_bind (wpAny_pure ?_)
          rw [sameMem]
          dsimp only
          simp only [if_true, hsl, R.at hp]
          refine wpAny_bind (wpAny_isSame_ref_self (wpAny_bind (wpAny_pure ?_)))
          simp only [if_true]
          refine wp_if_neg (by simp [hkk]) (seek R hx hu hKf hK hKb hin hout f (c + (q + 1)) _ rfl (by omega) (by omega) fun i0 p0 h0 hk0 => ?_)
          obtain ⟨d, d1, d2, d3⟩ := hre i0 p0 h0 hk0
          refine ⟨d, Classical.byContradiction fun hd => ?_, d2, d3⟩
          by_cases z : d = c + q
          · subst z
            have s0 := slot_live R.tab.ris d3
            rw [hsl] at s0
            cases s0
            rw [hp] at h0
            cases h0
            exact hkk hk0
          · refine hno (d - c) i0 (by omega) (by rw [wq, show c + (d - c) = d by omega]; exact d3) ((hashes i0 p0 h0).trans ?_)
            rw [hk0]
      by_cases hl : t.led = true
      · refine wp_if_neg (by simp [hl]) ?_
        try refine wpAny_bind (wpAny_pure ?_)
        exact more
      · refine wp_if_pos (by simp [hl]) (wpAny_bind (unseen_n hx (fun y hy => ?_) ?_))
        · obtain ⟨e, he, rfl⟩ := List.mem_map.mp hy
          have he2 : e ∈ es.toList := by
            have he1 : e ∈ es ∧ e.1 = k.hash w := by simpa using he
            simpa using he1.1
          rw [R.rows] at he2
          obtain ⟨p2, hp2, rfl⟩ := List.mem_map.mp he2
          exact ⟨p2.2, p2.1, rfl, R.tup p2 hp2⟩
        · refine wp_if_neg (by decide) ?_
          try refine wpAny_bind (wpAny_pure ?_)
          exact more
    · have met : t.probe (fun i => (es[i]?.map (·.1)).getD 0) (k.hash w) (stand.getD (t.probeStart (k.hash w))) = some (.empty (way t.mask (k.hash w) K) none) := by
        have e2 := wq (K - c)
        rw [hcK] at e2
        rw [hst, ← e2]
        exact hpr
      rw [met]
      dsimp only
      refine wpAny_pure (hout fun hm => ?_)
      obtain ⟨p0, h0, hk0⟩ := List.mem_map.mp hm
      obtain ⟨i0, hi0⟩ := List.getElem?_of_mem h0
      obtain ⟨d, d1, d2, d3⟩ := hre i0 p0 hi0 hk0
      refine hno (d - c) i0 (by omega) (by rw [wq, show c + (d - c) = d by omega]; exact d3) ((hashes i0 p0 hi0).trans ?_)
      rw [hk0]
theorem seek_all (R : SetN w s.heap a L es ep t) {x : Addr} {k : NestedKey} (hx : IsN s.heap k x) (hu : A.units + 8 < cLine) {Q : SetFound → Shared → Prop}
    (hin : k ∈ L.map (·.2) → Q (.there none) s)
    (hout : ∀ K, k ∉ L.map (·.2) → way t.mask (k.hash w) K ∉ t.place.toList → (∀ c, c < K → way t.mask (k.hash w) c ∈ t.place.toList) → Q (.free (way t.mask (k.hash w) K) false) s) :
    wpAny (model P w) A (setSearch a (.ref x) (k.hash w) true) Q E s := by
  have rm := R.msk.room
  obtain ⟨K, hKf, hK, hKb⟩ := R.tab.gap (by rw [List.length_map]; exact rm.1) (k.hash w)
  have few : K < 100000 := by
    simp only [SetTable.turns] at hKf
    omega
  unfold setSearch
  refine seek R hx hu hKf hK hKb hin (fun hn => hout K hn hK hKb) 100000 0 none rfl (Nat.zero_le _) (by omega) fun i p hp hk => ?_
  have hi : (L.map fun p => p.2.hash w)[i]? = some (k.hash w) := by rw [List.getElem?_map, hp, ← hk]; rfl
  have hil : i < t.place.toList.length := by
    rw [R.tab.sz]
    exact (List.getElem?_eq_some_iff.mp hi).1
  have hj := List.getElem?_eq_getElem hil
  obtain ⟨c, hc, e⟩ := R.tab.ahead hK hi hj
  exact ⟨c, Nat.zero_le _, hc, by rw [hj, e]⟩
end
end VI
namespace VI
open PySem PySem.Spec PyProof.Rows L2
section
variable {P : Program} {w : World} {A : Around} {E : Value → Shared → Prop} {s : Shared}
variable {a : Addr} {L : List (Addr × NestedKey)} {es : Array (Int × Value)} {ep : Nat} {t : SetTable}
theorem filter_get {α : Type} (L : List α) : ∀ n, n ≤ L.length → (List.range n).filterMap (fun i => L[i]?) = L.take n
  | 0, _ => rfl
  | n + 1, h => by
    rw [List.range_succ, List.filterMap_append, filter_get L n (Nat.le_of_succ_le h), List.take_succ, List.getElem?_eq_getElem (show n < L.length from h)]
    simp [List.getElem?_eq_getElem (show n < L.length from h)]
theorem order_n {order : Array Nat} (hr : es.toList = rowsN w L) (hp : order.toList.Perm (List.range L.length)) :
    ∃ L2, (order.filterMap (es[·]?)).toList = rowsN w L2 ∧ L2.Perm L ∧ (L2.map fun p => p.2.hash w) = order.toList.map fun i => (es.map (·.1)).getD i 0 := by
  have ent : ∀ i, es[i]? = (L[i]?).map fun (p : Addr × NestedKey) => (p.2.hash w, Value.ref p.1) := fun i => by rw [← Array.getElem?_toList, hr, rowsN, List.getElem?_map]
  have key : ∀ l : List Nat, (∀ i ∈ l, i < L.length) → l.filterMap (fun i => es[i]?) = rowsN w (l.filterMap fun i => L[i]?) ∧ ((l.filterMap fun i => L[i]?).map fun (p : Addr × NestedKey) => p.2.hash w) = l.map fun i => (es.map (·.1)).getD i 0 := by
    intro l
    induction l with
    | nil => exact fun _ => ⟨rfl, rfl⟩
    | cons i l ih =>
      intro hl
      obtain ⟨e1, e2⟩ := ih fun j hj => hl j (List.mem_cons_of_mem _ hj)
      have hi := List.getElem?_eq_getElem (hl i List.mem_cons_self)
      have he := ent i
      rw [hi] at he
      refine ⟨?_, ?_⟩
      · rw [List.filterMap_cons_some he, List.filterMap_cons_some hi, e1]; rfl
      · rw [List.filterMap_cons_some hi, List.map_cons, List.map_cons, e2]
        have e5 : (es.map (·.1))[i]? = some ((L[i]'(hl i List.mem_cons_self)).2.hash w) := by rw [Array.getElem?_map, he]; rfl
        simp [Array.getD_eq_getD_getElem?, e5]
  obtain ⟨e1, e2⟩ := key order.toList fun i hi => List.mem_range.mp (hp.mem_iff.mp hi)
  refine ⟨_, by first | (rw [Array.toList_filterMap]; exact e1) | simpa using e1, ?_, e2⟩
  have h1 := hp.filterMap fun i => L[i]?
  rw [filter_get L L.length (Nat.le_refl _), List.take_length] at h1
  exact h1
/-- the table laid anew -/
theorem relay_n {ob : Obj} (hob : s.heap.get? a = some ob) (hex : ob.ExactSet) (hdt : ob.data = .set es ep t) (hrows : es.toList = rowsN w L) (T : TabF t (L.map fun p => p.2.hash w)) (hfl : L.length ≤ t.mask)
    (nd : (L.map (·.2)).Nodup) (tup : ∀ p ∈ L, IsN s.heap p.2 p.1) (ld : w.params.followText "set-order" = true ∨ t.led = true) {wanted M : Nat}
    (hw : SetTable.sizeAbove wanted - 1 = M) (hM : Full M) (hw2 : SetTable.sizeAbove wanted ≤ 512) (hn : Masks M L.length) {Q : Unit → Shared → Prop}
    (hQ : ∀ h' L' es' ep' t', Heap.SameBut a s.heap h' → SetN w h' a L' es' ep' t' → L'.Perm L → Q () { s with heap := h' }) : wpAny (model P w) A (setRelay a wanted) Q E s := by
  have hsl : es.size = L.length := by
    have h := congrArg List.length hrows
    rw [rowsN_len] at h
    exact h
  have rm := hn.room
  obtain ⟨t', order, e, hp, T', em, el, _⟩ := relaid_full t (hs := es.map (·.1)) (wanted := wanted) hw hM (by rw [Array.size_map, hsl]; exact rm.1)
  rw [Array.size_map, hsl] at hp
  obtain ⟨L2, r1, r2, r3⟩ := order_n hrows hp
  rw [← r3] at T'
  have hs2 : (order.filterMap (es[·]?)).size = es.size := by
    have h := congrArg List.length r1
    rw [rowsN_len, r2.length_eq] at h
    rw [hsl]; exact h
  rw [setRelay_eq]
  refine wpAny_bind (wpAny_setState_of hob hdt (fits_n T hsl hfl) ?_)
  dsimp only
  refine wp_if_neg (by rw [sizeLine_eq]; omega) ?_
  try refine wpAny_bind (wpAny_pure ?_)
  rw [e]
  dsimp only
  refine wpAny_bind (wp_if_neg (by rw [hs2]; simp) ?_)
  try refine wpAny_bind (wpAny_pure ?_)
  refine wpAny_pure ?_
  dsimp only
  refine wpAny_storeSet_of hob hdt ?_ (by rw [hs2, hsl, sizeLine_eq]; omega)
  have sb : Heap.SameBut a s.heap (s.heap.update a (Obj.putSet (order.filterMap (es[·]?)) t')) := Heap.SameBut.update ..
  exact hQ _ L2 _ (ep + 1) t' sb ⟨⟨_, store_at hob hdt, ⟨hex.1, hex.2.1, hex.2.2⟩, rfl⟩, r1, T', (r2.map (·.2)).nodup_iff.mpr nd, fun p hpm => (tup p (r2.mem_iff.mp hpm)).but hob hdt sb, by rw [el]; exact ld, by rw [em, r2.length_eq]; exact hn⟩ r2
theorem above20 : SetTable.sizeAbove (SetTable.grown 5) = 32 := by decide +kernel
theorem above76 : SetTable.sizeAbove (SetTable.grown 19) = 128 := by decide +kernel
theorem above308 : SetTable.sizeAbove (SetTable.grown 77) = 512 := by decide +kernel
/-- one put in -/
theorem add_n (R : SetN w s.heap a L es ep t) {x : Addr} {k : NestedKey} (hx : IsN s.heap k x) (hu : A.units + 8 < cLine) (hfew : L.length + 1 < 307) {Q : Bool → Shared → Prop}
    (hQ : ∀ b h' L' es' ep' t', Heap.SameBut a s.heap h' → SetN w h' a L' es' ep' t' → (k ∈ L.map (·.2) → L' = L) → (k ∉ L.map (·.2) → L'.Perm ((x, k) :: L)) → Q b { s with heap := h' }) :
    wpAny (model P w) A (setAddHashed a (.ref x) (k.hash w)) Q E s := by
  obtain ⟨ob, hob, hex, hdt⟩ := R.ob
  have hsl := R.size
  have rm := R.msk.room
  unfold setAddHashed
  refine wpAny_holding ?_
  rw [show (100000 : Nat) = 99999 + 1 from rfl, setAddHashedIn_succ]
  refine wpAny_bind (wpAny_setState_of hob hdt R.fits ?_)
  dsimp only
  refine wp_if_neg (by simp [byScan, Value.scannable]) ?_
  try refine wpAny_bind (wpAny_pure ?_)
  refine wpAny_bind (seek_all R hx hu (fun hm => ?_) fun K hm hK hb => ?_)
  · dsimp only
    exact wpAny_pure (hQ false s.heap L es ep t (Heap.SameBut.refl a s.heap) R (fun _ => rfl) fun z => absurd hm z)
  · dsimp only
    refine wpAny_bind (wpAny_setState_of hob hdt R.fits ?_)
    dsimp only
    obtain ⟨p, hpe⟩ : ∃ p, SetTable.below t.place (way t.mask (k.hash w) K) = p := ⟨_, rfl⟩
    obtain ⟨q2, q3, q9⟩ := R.tab.put hpe hK hb
    have q1 : (t.put (way t.mask (k.hash w) K)).2 = p := hpe
    have q4 : (t.put (way t.mask (k.hash w) K)).1.mask = t.mask := rfl
    have q5 : (t.put (way t.mask (k.hash w) K)).1.led = t.led := rfl
    generalize hpt : t.put (way t.mask (k.hash w) K) = pt at q1 q3 q4 q5 q9 ⊢
    obtain ⟨t0, p'⟩ := pt
    dsimp only at q1 q3 q4 q5 q9 ⊢
    subst q1
    have rest : ∀ bv : Bool, ∀ t1 : SetTable, (t1 = if bv = true then t0 else { t0 with plain := false }) →
        wpAny (model P w) A (do
          storeSet a (SetTable.insertAt es p' (k.hash w, Value.ref x)) t1
          if (!false && t1.tooFull) = true then setRelay a (SetTable.grown (es.size + 1))
          return true) Q E s := by
      intro bv t1 ht1
      have f1 : TabF t1 ((L.map fun p => p.2.hash w).take p' ++ k.hash w :: (L.map fun p => p.2.hash w).drop p') := by
        rw [ht1]; split
        · exact q3
        · exact ⟨q3.ris, q3.dm, q3.sz, q3.full, q3.bd, q3.reach⟩
      have f2 : t1.mask = t.mask ∧ t1.led = t.led ∧ t1.fill = (L.map fun p => p.2.hash w).length + 1 := by
        rw [ht1]; split
        · exact ⟨q4, q5, q9⟩
        · exact ⟨q4, q5, q9⟩
      obtain ⟨m1, l1, fl1⟩ := f2
      have hin : (SetTable.insertAt es p' (k.hash w, Value.ref x)).toList = rowsN w (L.take p' ++ (x, k) :: L.drop p') := by
        rw [SetTable.toList_insertAt, R.rows]
        simp [rowsN]
      have pm : (L.take p' ++ (x, k) :: L.drop p').Perm ((x, k) :: L) := put_perm L p' (x, k)
      have hlen := pm.length_eq
      rw [List.length_cons] at hlen
      have hhs : (L.take p' ++ (x, k) :: L.drop p').map (fun p => p.2.hash w) = (L.map fun p => p.2.hash w).take p' ++ k.hash w :: (L.map fun p => p.2.hash w).drop p' := by simp
      rw [← hhs] at f1
      have nd1 : ((L.take p' ++ (x, k) :: L.drop p').map (·.2)).Nodup := (pm.map (·.2)).nodup_iff.mpr (List.nodup_cons.mpr ⟨hm, R.nd⟩)
      have hes : (SetTable.insertAt es p' (k.hash w, Value.ref x)).size = L.length + 1 := by
        have h := congrArg List.length hin
        rw [rowsN_len, hlen] at h
        exact h
      generalize SetTable.insertAt es p' (k.hash w, Value.ref x) = es1 at hin hes ⊢
      generalize L.take p' ++ (x, k) :: L.drop p' = L1 at pm hlen f1 nd1 hin
      refine wpAny_bind (wpAny_storeSet_of hob hdt ?_ (by rw [hes, sizeLine_eq]; omega))
      have sb : Heap.SameBut a s.heap (s.heap.update a (Obj.putSet es1 t1)) := Heap.SameBut.update ..
      have ho1 := store_at (es' := es1) (t' := t1) hob hdt
      generalize s.heap.update a (Obj.putSet es1 t1) = h1 at sb ho1 ⊢
      have tup1 : ∀ p ∈ L1, IsN h1 p.2 p.1 := fun p hp => by
        rcases List.mem_cons.mp (pm.mem_iff.mp hp) with rfl | hp
        · exact hx.but hob hdt sb
        · exact (R.tup p hp).but hob hdt sb
      have ld1 : w.params.followText "set-order" = true ∨ t1.led = true := by rw [l1]; exact R.led
      have full : t1.tooFull = decide ((L.length + 1) * 5 ≥ t.mask * 3) := by
        unfold SetTable.tooFull
        rw [fl1, List.length_map, m1]
      have msk := R.msk
      unfold Masks at msk
      by_cases hf : (L.length + 1) * 5 ≥ t.mask * 3
      · have hf1 : t1.tooFull = true := by rw [full, decide_eq_true hf]
        have go : ∀ M, SetTable.sizeAbove (SetTable.grown (es.size + 1)) - 1 = M → Full M → SetTable.sizeAbove (SetTable.grown (es.size + 1)) ≤ 512 → Masks M L1.length →
            wpAny (model P w) A (setRelay a (SetTable.grown (es.size + 1))) (fun _ s' => wpAny (model P w) A (pure true) Q E s') E { s with heap := h1 } := fun M g1 g2 g3 g4 =>
          relay_n (s := { s with heap := h1 }) ho1 ⟨hex.1, hex.2.1, hex.2.2⟩ rfl hin f1 (by rw [hlen, m1]; omega) nd1 tup1 ld1 g1 g2 g3 g4 fun h2 L2 es2 ep2 t2 sb2 R2 pm2 =>
            wpAny_pure (hQ true h2 L2 es2 ep2 t2 (sb.trans sb2) R2 (fun z => absurd z hm) fun _ => pm2.trans pm)
        have done : wpAny (model P w) A (setRelay a (SetTable.grown (es.size + 1))) (fun _ s' => wpAny (model P w) A (pure true) Q E s') E { s with heap := h1 } := by
          rw [hsl] at go ⊢
          unfold Masks at go
          rcases msk with ⟨e, e2⟩ | ⟨e, e2⟩ | ⟨e, e2⟩ | ⟨e, e2⟩
          · have e3 : L.length = 4 := by omega
            exact go 31 (by rw [e3, above20]) full31 (by rw [e3, above20]; decide) (by omega)
          · have e3 : L.length = 18 := by omega
            exact go 127 (by rw [e3, above76]) full127 (by rw [e3, above76]; decide) (by omega)
          · have e3 : L.length = 76 := by omega
            exact go 511 (by rw [e3, above308]) full511 (by rw [e3, above308]; decide) (by omega)
          · omega
        first
          | exact wpAny_bind (wp_if_pos (by simp [hf1]) done)
          | exact wp_if_pos (by simp [hf1]) (wpAny_bind done)
      · have hf1 : t1.tooFull = false := by rw [full, decide_eq_false hf]
        have fine : Q true { s with heap := h1 } := hQ true h1 L1 es1 (ep + 1) t1 sb ⟨⟨_, ho1, ⟨hex.1, hex.2.1, hex.2.2⟩, rfl⟩, hin, f1, nd1, tup1, ld1, by unfold Masks; rw [hlen, m1]; omega⟩ (fun z => absurd z hm) fun _ => pm
        first
          | exact wp_if_neg (by simp [hf1]) (wpAny_pure fine)
          | exact wpAny_bind (wp_if_neg (by simp [hf1]) (wpAny_pure (wpAny_pure fine)))
    by_cases hpl : t0.plain = true
    · first
        | (refine wpAny_bind ?_; refine wp_if_pos hpl ?_; refine byv_n _ _ 8 hx.1 hx.2 _ _ _ fun b => ?_; exact rest b _ rfl)
        | exact wp_if_pos hpl (wpAny_bind (byv_n _ _ 8 hx.1 hx.2 _ _ _ fun b => rest b _ rfl))
    · first
        | (refine wpAny_bind ?_; refine wp_if_neg hpl ?_; refine wpAny_pure ?_; exact rest true _ rfl)
        | exact wp_if_neg hpl (wpAny_bind (wpAny_pure (rest true _ rfl)))
        | exact wp_if_neg hpl (rest true _ rfl)
end
end VI
namespace VI
open PySem PySem.Spec PyProof.Rows L2
/-- what the set has of the first i items -/
structure Had (ps : List (Addr × NestedKey)) (i : Nat) (L : List (Addr × NestedKey)) : Prop where
  sub : ∀ p ∈ L, p ∈ ps.take i
  all : ∀ p ∈ ps.take i, p.2 ∈ L.map (·.2)
  len : L.length ≤ i
theorem had0 (ps : List (Addr × NestedKey)) : Had ps 0 [] := ⟨fun p h => (by cases h), fun p h => (by simp at h), Nat.le_refl _⟩
theorem Had.same {ps L : List (Addr × NestedKey)} {i : Nat} {x : Addr × NestedKey} (g : Had ps i L) (h : ps[i]? = some x) (hm : x.2 ∈ L.map (·.2)) : Had ps (i + 1) L := by
  refine ⟨fun p hp => ?_, fun p hp => ?_, Nat.le_succ_of_le g.len⟩
  · rw [take_next h]; exact List.mem_append_left _ (g.sub p hp)
  · rw [take_next h] at hp
    rcases List.mem_append.mp hp with z | z
    · exact g.all p z
    · cases List.mem_singleton.mp z; exact hm
theorem Had.more {ps L L' : List (Addr × NestedKey)} {i : Nat} {x : Addr × NestedKey} (g : Had ps i L) (h : ps[i]? = some x) (pm : L'.Perm (x :: L)) : Had ps (i + 1) L' := by
  refine ⟨fun p hp => ?_, fun p hp => ?_, by rw [pm.length_eq]; exact Nat.succ_le_succ g.len⟩
  · rw [take_next h]
    rcases List.mem_cons.mp (pm.mem_iff.mp hp) with rfl | z
    · exact List.mem_append_right _ (by simp)
    · exact List.mem_append_left _ (g.sub p z)
  · rw [(pm.map (·.2)).mem_iff, List.map_cons]
    rw [take_next h] at hp
    rcases List.mem_append.mp hp with z | z
    · exact List.mem_cons_of_mem _ (g.all p z)
    · cases List.mem_singleton.mp z; exact List.mem_cons_self
abbrev newSet (w : World) : Obj := { cls := .type "set", dict := none, data := .set #[] 0 (.fresh 0 0 (!w.params.followText "set-order")) }
section
variable {P : Program} {w : World} {A : Around} {E : Value → Shared → Prop} {s : Shared}
theorem SetN.keep {h h' : Heap} {a : Addr} {L : List (Addr × NestedKey)} {es : Array (Int × Value)} {ep : Nat} {t : SetTable} (R : SetN w h a L es ep t) (ha : ∀ o, h.get? a = some o → h'.get? a = some o) (ht : ∀ p ∈ L, IsN h' p.2 p.1) : SetN w h' a L es ep t := by
  obtain ⟨o, ho, r⟩ := R.ob
  exact ⟨⟨o, ha o ho, r⟩, R.rows, R.tab, R.nd, ht, R.led, R.msk⟩
theorem newSet_n {h : Heap} {a : Addr} (ho : h.get? a = some (newSet w)) : SetN w h a [] #[] 0 (.fresh 0 0 (!w.params.followText "set-order")) := by
  refine ⟨⟨_, ho, ⟨rfl, rfl, rfl⟩, rfl⟩, rfl, ⟨List.Pairwise.nil, rfl, rfl, full7, fun x hx => (by cases hx), fun i h j hi => (by simp at hi)⟩, List.nodup_nil, fun p hp => (by cases hp), ?_, .inl ⟨rfl, Nat.zero_le _⟩⟩
  show _ ∨ (!w.params.followText "set-order") = true
  cases w.params.followText "set-order"
  · exact .inr rfl
  · exact .inl rfl
/-- the loop that fills it -/
theorem fill_n {I : Addr} {fp wr : List Addr} {G : Array GenState → Array GenState → Prop} {n : Nat} {Pv : Nat → Value → Prop} {St : Nat → Shared → Prop} {R : Result → Shared → Prop}
    (W : WalksS P w A.in1 I fp wr G n Pv St) (S : Addr) (hSf : S ∉ fp) (ps : List (Addr × NestedKey)) (hn : n = ps.length) (hfew : ps.length < 307) (getv : ∀ i v, Pv i v → ∃ p, ps[i]? = some p ∧ v = .ref p.1)
    (h0 : Heap) (hk : ∀ p ∈ ps, IsN h0 p.2 p.1) (hS0 : h0.get? S = none) (hw0 : ∀ b ∈ wr, h0.get? b = none) (hu : A.in1.units + 8 < cLine) :
    ∀ (k i : Nat) (s : Shared), n - i = k → i ≤ n → St i s → (∀ b o, h0.get? b = some o → s.heap.get? b = some o) → (∃ L es ep t, SetN w s.heap S L es ep t ∧ Had ps i L) →
      (∀ s' L es ep t, Moved (S :: wr) G s s' → SetN w s'.heap S L es ep t → Had ps n L → (∀ b o, h0.get? b = some o → s'.heap.get? b = some o) → R (.ok (.ret .none)) s') →
      codeAny (model P w) A (.builtin "set.update.loop" ⟨[.ref S, .ref I], []⟩) R s := by
  have hSw : S ∉ wr := fun h => hSf (W.sub _ h)
  have wide : ∀ b ∈ wr, b ∈ S :: wr := fun b hb => List.mem_cons_of_mem _ hb
  have moved : ∀ {s s' : Shared}, Moved wr G s s' → (∀ b o, h0.get? b = some o → s.heap.get? b = some o) → ∀ b o, h0.get? b = some o → s'.heap.get? b = some o := fun hm old b o e =>
    hm.heap b o (fun hb => by rw [hw0 b hb] at e; cases e) (old b o e)
  intro k
  induction k with
  | zero =>
    intro i s hk' hi hst old ⟨L, es, ep, t, hS, g⟩ hR
    obtain rfl : i = n := by omega
    refine codeAny_builtin F.entry_set_update_loop ?_
    rw [Around.under_plainId F.plain_set_update_loop _]
    refine wpAny_bind (W.done s _ _ hst fun s' hm => ?_)
    have old' := moved hm old
    have sub : ∀ p ∈ L, p ∈ ps := fun p hp => List.mem_of_mem_take (g.sub p hp)
    exact wpAny_pure (hR s' L es ep t (hm.mono wide) (hS.keep (fun o e => hm.heap S o hSw e) fun p hp => (hk p (sub p hp)).keep old') g old')
  | succ k ih =>
    intro i s hk' hi hst old ⟨L, es, ep, t, hS, g⟩ hR
    have hlt : i < n := by omega
    refine codeAny_builtin F.entry_set_update_loop ?_
    rw [Around.under_plainId F.plain_set_update_loop _]
    refine wpAny_bind (W.item i s _ _ hlt hst fun v s' hP hst' hm => ?_)
    obtain ⟨p, hp, rfl⟩ := getv i v hP
    have old' := moved hm old
    have sub : ∀ p ∈ L, p ∈ ps := fun p hp => List.mem_of_mem_take (g.sub p hp)
    have hS' : SetN w s'.heap S L es ep t := hS.keep (fun o e => hm.heap S o hSw e) fun q hq => (hk q (sub q hq)).keep old'
    have hx : IsN s'.heap p.2 p.1 := (hk p (List.mem_of_getElem? hp)).keep old'
    show wpAny _ A.in1 (holding [Value.ref p.1] (setAdd S (.ref p.1)) >>= _) _ _ s'
    refine wpAny_bind (wpAny_holding ?_)
    unfold setAdd
    refine wpAny_holding (wpAny_bind (hash_n hu hx ?_))
    refine add_n (s := { s' with toks := s'.toks + p.2.draws }) hS' hx hu (by have := g.len; omega) fun b h' L' es' ep' t' hsb hS2 c1 c2 => ?_
    have g' : Had ps (i + 1) L' := by
      by_cases c : p.2 ∈ L.map (·.2)
      · rw [c1 c]; exact g.same hp c
      · exact g.more hp (c2 c)
    have old2 : ∀ b o, h0.get? b = some o → h'.get? b = some o := fun b o e => (hsb.2 b (fun z => by rw [z, hS0] at e; cases e)).trans (old' b o e)
    refine wpAny_pure ⟨plainId_quiet F.plain_set_update_loop _, ih (i + 1) _ (by omega) hlt (W.frame _ s' _ _ hst' (Nat.le_add_right _ _) fun b hb o e => ?_) old2 ⟨L', es', ep', t', hS2, g'⟩ fun s2 L2 es2 ep2 t2 hm2 hS3 g2 old3 => ?_⟩
    · rw [hsb.2 b (fun z : b = S => hSf (by rw [← z]; exact hb))]; exact e
    · refine hR s2 L2 es2 ep2 t2 (Moved.trans W.gtrans ((hm.mono wide).then_heap (Nat.le_add_right _ _) fun b o hb e => ?_) hm2) hS3 g2 old3
      rw [hsb.2 b (fun z : b = S => hb (by rw [z]; exact List.mem_cons_self))]; exact e
/-- what the loop of set(xs) is to bring about -/
def Fills (P : Program) (w : World) (s : Shared) (u n : Nat) (Pv : Nat → Value → Prop) (GG : Heap → Prop) : Prop :=
  ∀ {A' : Around} {I : Addr} {fp wr : List Addr} {G : Array GenState → Array GenState → Prop} {St : Nat → Shared → Prop} (W : WalksS P w A'.in1 I fp wr G n Pv St) (s0 : Shared) (R : Result → Shared → Prop),
    s.heap.objs.size ∉ fp → (∀ b ∈ wr, s.heap.get? b = none) → A'.units ≤ u + 8 → A'.in1.handled = none → St 0 s0 → s0.heap.get? s.heap.objs.size = some (newSet w) → (∀ b o, s.heap.get? b = some o → s0.heap.get? b = some o) →
    (∀ s', Moved (s.heap.objs.size :: wr) G s0 s' → GG s'.heap → (∀ b o, s.heap.get? b = some o → s'.heap.get? b = some o) → R (.ok (.ret .none)) s') →
    codeAny (model P w) A' (.builtin "set.update.loop" ⟨[.ref s.heap.objs.size, .ref I], []⟩) R s0
theorem free_size {h : Heap} {b : Addr} (hb : h.objs.size ≤ b) : h.get? b = none := by
  cases q : h.get? b with
  | none => rfl
  | some o => exact absurd (Nat.lt_of_lt_of_le (Heap.lt_size q) hb) (Nat.lt_irrefl _)
theorem fills_n {ps : List (Addr × NestedKey)} {n u : Nat} {Pv : Nat → Value → Prop} (hn : n = ps.length) (hfew : ps.length < 307) (getv : ∀ i v, Pv i v → ∃ p, ps[i]? = some p ∧ v = .ref p.1) (hk : ∀ p ∈ ps, IsN s.heap p.2 p.1) (hu : u + 32 < cLine) :
    Fills P w s u n Pv fun h' => ∃ L es ep t, SetN w h' s.heap.objs.size L es ep t ∧ Had ps ps.length L := by
  intro A' I fp wr G St W s0 R sf hw au hh st0 nw old hR
  refine fill_n W s.heap.objs.size sf ps hn hfew getv s.heap hk (free_size (Nat.le_refl _)) hw (by simp; omega) (n - 0) 0 s0 rfl (Nat.zero_le _) st0 old ⟨[], #[], 0, _, newSet_n nw, had0 ps⟩ fun s' L es ep t hm R2 g o2 => hR s' hm ⟨L, es, ep, t, R2, hn ▸ g⟩ o2
theorem fills_i {ns : List Int} {n u : Nat} {Pv : Nat → Value → Prop} (hn : n = ns.length) (hfew : ns.length + 1 < scanBound) (getv : ∀ i v, Pv i v → ∃ k t, ns[i]? = some k ∧ v = .int k t) :
    Fills P w s u n Pv fun h' => ∃ c, SetR w h' s.heap.objs.size (fun j => decide (j ∈ ns)) c := by
  intro A' I fp wr G St W s0 R sf hw au hh st0 nw old hR
  refine set_update_ints W s.heap.objs.size sf ns hn hfew getv (n - 0) 0 s0 rfl (Nat.zero_le _) st0 ⟨0, Nat.le_refl 0, setR_new_at nw⟩ fun s' c hm _ R2 => hR s' hm ⟨c, R2⟩ fun b o e => ?_
  exact hm.heap b o (fun hb => by
    rcases List.mem_cons.mp hb with rfl | hb
    · exact Nat.lt_irrefl _ (Heap.lt_size e)
    · rw [hw b hb] at e; cases e) (old b o e)

set_option maxHeartbeats 3200000 in
theorem call_set_list {l : Addr} {items : Array Value} {GG : Heap → Prop} {Q : Value → Shared → Prop} (noh : A.handled = none) (hseq : s.heap.IsList l items)
    (fill : Fills P w s A.units items.size (fun i v => items[i]? = some v) GG)
    (h : ∀ (h' : Heap) (tk : Nat), GG h' → (∀ b o, s.heap.get? b = some o → h'.get? b = some o) → Q (.ref s.heap.objs.size) { s with heap := h', toks := tk }) :
    wpAny (model P w) A (call (.type "set") [.ref l]) Q E s := by
  have pieces := F.called_set.mro
  obtain ⟨c1, tl1, mro1⟩ := pieces
  have made1 := F.called_set.made
  have sub1 := F.called_set.sub
  refine wpAny_call (codeAny_of_tree (?_ : wpAny _ _ (callAny (.type "set") _) _ _ _))
  refine wpAny_pure ⟨Code.quiet_builtin _ (by decide +kernel), codeAny_builtin F.entry_type_call ?_⟩
  rw [Around.under_plain (weight_type_call_type "set" [.ref l] []) rfl]
  have nt1 := F.called_set.notType
  have cc1 := F.called_set.canCreate
  have tc1 := F.typeCall_set_1 (.ref l)
  repeat (any_goals (first | assumption | wp_step))

  refine codeAny_mono (code_set_led1 (.ref l) (E := E) (Q₁ := fun made s1 => made = .ref s.heap.objs.size ∧ s1 = { s with heap := s.heap.push (newSet w) }) ⟨rfl, rfl⟩) fun res s1 hres => ?_
  cases res with
  | error e => exact hres
  | ok fl =>
    cases fl with
    | ret made =>
      obtain ⟨rfl, rfl⟩ := hres
      have atS : (s.heap.push (newSet w)).get? s.heap.objs.size = some (newSet w) := Heap.get?_push_size _ rfl
      have isS : Shared.TypeIs { s with heap := s.heap.push (newSet w) } (.ref s.heap.objs.size) "set" := ⟨_, atS, rfl⟩
      have il1 := F.called_set.init.lookup
      have ib1 := F.called_set.init.bind (.ref s.heap.objs.size)
      repeat (any_goals (first | assumption | wp_step))

      refine codeAny_mono (codeAny_call_builtin (R := wants (fun r s₂ => r = .none ∧ ∃ h' tk, s₂ = { s with heap := h', toks := tk } ∧ GG h' ∧ (∀ b o, s.heap.get? b = some o → h'.get? b = some o)) E)
        F.called_set.init.plain F.entry_set_init (check_set_init_1 isS ?_)) fun res2 s₂ hres2 => ?_
      · obtain ⟨ol, hol, hcl, nl, hdl⟩ := hseq
        obtain ⟨kc, kd, kx, ks⟩ := ol
        simp only at hcl hdl
        subst hcl; subst hdl
        have old1 : (s.heap.push (newSet w)).get? l = some { cls := .type "list", dict := kd, data := .seq items nl, slots := ks } := Heap.get?_push_of_some _ hol
        have sb1 := F.sub_list_set
        have sb2 := F.sub_list_frozenset
        have nd1 : (Value.type "list" == Value.type "dict") = false := by decide
        have seq1 : (s.heap.push (newSet w)).IsList l items := ⟨_, old1, rfl, nl, rfl⟩
        unfold Builtin.«set.__init__» noKeywords Builtin.Frozenset.updateFrom
        generalize hPI : pyIter = PI
        wp_walk
        subst hPI

        refine wpAny_pyIter_list seq1 (wpAny_bind (wpAny_runValue ?_))
        have ls : l < s.heap.objs.size := Heap.lt_size hol
        have noh3 : A.in1.in1.in1.handled = none := by simp [noh]
        have sz1 : (s.heap.push (newSet w)).objs.size = s.heap.objs.size + 1 := Heap.size_push ..
        have ne1 : l ≠ (s.heap.push (newSet w)).objs.size := by rw [sz1]; exact Nat.ne_of_lt (Nat.lt_succ_of_lt ls)
        have sf1 : s.heap.objs.size ∉ [(s.heap.push (newSet w)).objs.size, l] := by
          rw [sz1]; simp only [List.mem_cons, List.not_mem_nil, or_false, not_or]
          exact ⟨Nat.ne_of_lt (Nat.lt_succ_self _), Nat.ne_of_gt ls⟩
        have free : ∀ b, s.heap.objs.size ≤ b → s.heap.get? b = none := fun b hb => by
          cases q : s.heap.get? b with
          | none => rfl
          | some o => exact absurd (Nat.lt_of_lt_of_le (Heap.lt_size q) hb) (Nat.lt_irrefl _)
        refine fill (A' := A.in1.in1) ((Walks.list noh3 _ l ne1 items).toS) _ _ sf1 (fun b hb => free b (by rw [List.mem_singleton.mp hb, sz1]; exact Nat.le_succ _)) (by simp) noh3
          ⟨⟨_, Heap.get?_push_size _ rfl, rfl, rfl⟩, (seq1.push _)⟩ (Heap.get?_push_of_some _ atS) (fun b o e => Heap.get?_push_of_some _ (Heap.get?_push_of_some _ e)) ?hR
        case hR =>
          intro s' hm hS' hkp
          obtain ⟨h', gg, dd, tk', oo⟩ := s'
          obtain rfl : gg = s.gens := hm.gens
          obtain rfl : dd = s.drawn := hm.drawn
          obtain rfl : oo = s.os := hm.os
          exact wpAny_pure (wpAny_pure ⟨rfl, h', tk', rfl, hS', hkp⟩)

      · cases res2 with
        | error e => exact hres2
        | ok fl₂ =>
          cases fl₂ with
          | ret r =>
            obtain ⟨rfl, h', tk, rfl, hS', hk'⟩ := hres2
            repeat (any_goals (first | assumption | wp_step))
            exact h _ _ hS' hk'
          | _ => exact hres2.elim
    | _ => exact hres.elim

set_option maxHeartbeats 3200000 in
theorem call_set_tuple {l : Addr} {items : Array Value} {GG : Heap → Prop} {Q : Value → Shared → Prop} (noh : A.handled = none) (hseq : s.heap.IsTuple l items)
    (fill : Fills P w s A.units items.size (fun i v => items[i]? = some v) GG)
    (h : ∀ (h' : Heap) (tk : Nat), GG h' → (∀ b o, s.heap.get? b = some o → h'.get? b = some o) → Q (.ref s.heap.objs.size) { s with heap := h', toks := tk }) :
    wpAny (model P w) A (call (.type "set") [.ref l]) Q E s := by
  have pieces := F.called_set.mro
  obtain ⟨c1, tl1, mro1⟩ := pieces
  have made1 := F.called_set.made
  have sub1 := F.called_set.sub
  refine wpAny_call (codeAny_of_tree (?_ : wpAny _ _ (callAny (.type "set") _) _ _ _))
  refine wpAny_pure ⟨Code.quiet_builtin _ (by decide +kernel), codeAny_builtin F.entry_type_call ?_⟩
  rw [Around.under_plain (weight_type_call_type "set" [.ref l] []) rfl]
  have nt1 := F.called_set.notType
  have cc1 := F.called_set.canCreate
  have tc1 := F.typeCall_set_1 (.ref l)
  repeat (any_goals (first | assumption | wp_step))

  refine codeAny_mono (code_set_led1 (.ref l) (E := E) (Q₁ := fun made s1 => made = .ref s.heap.objs.size ∧ s1 = { s with heap := s.heap.push (newSet w) }) ⟨rfl, rfl⟩) fun res s1 hres => ?_
  cases res with
  | error e => exact hres
  | ok fl =>
    cases fl with
    | ret made =>
      obtain ⟨rfl, rfl⟩ := hres
      have atS : (s.heap.push (newSet w)).get? s.heap.objs.size = some (newSet w) := Heap.get?_push_size _ rfl
      have isS : Shared.TypeIs { s with heap := s.heap.push (newSet w) } (.ref s.heap.objs.size) "set" := ⟨_, atS, rfl⟩
      have il1 := F.called_set.init.lookup
      have ib1 := F.called_set.init.bind (.ref s.heap.objs.size)
      repeat (any_goals (first | assumption | wp_step))

      refine codeAny_mono (codeAny_call_builtin (R := wants (fun r s₂ => r = .none ∧ ∃ h' tk, s₂ = { s with heap := h', toks := tk } ∧ GG h' ∧ (∀ b o, s.heap.get? b = some o → h'.get? b = some o)) E)
        F.called_set.init.plain F.entry_set_init (check_set_init_1 isS ?_)) fun res2 s₂ hres2 => ?_
      · obtain ⟨ol, hol, hcl, nl, hdl⟩ := hseq
        obtain ⟨kc, kd, kx, ks⟩ := ol
        simp only at hcl hdl
        subst hcl; subst hdl
        have old1 : (s.heap.push (newSet w)).get? l = some { cls := .type "tuple", dict := kd, data := .seq items nl, slots := ks } := Heap.get?_push_of_some _ hol
        have sb1 := F.sub_tuple_set
        have sb2 := F.sub_tuple_frozenset
        have nd1 : (Value.type "tuple" == Value.type "dict") = false := by decide
        have seq1 : (s.heap.push (newSet w)).IsTuple l items := ⟨_, old1, rfl, nl, rfl⟩
        unfold Builtin.«set.__init__» noKeywords Builtin.Frozenset.updateFrom
        generalize hPI : pyIter = PI
        wp_walk
        subst hPI

        refine wpAny_pyIter_tuple seq1 (wpAny_bind (wpAny_runValue ?_))
        have ls : l < s.heap.objs.size := Heap.lt_size hol
        have noh3 : A.in1.in1.in1.handled = none := by simp [noh]
        have sz1 : (s.heap.push (newSet w)).objs.size = s.heap.objs.size + 1 := Heap.size_push ..
        have ne1 : l ≠ (s.heap.push (newSet w)).objs.size := by rw [sz1]; exact Nat.ne_of_lt (Nat.lt_succ_of_lt ls)
        have sf1 : s.heap.objs.size ∉ [(s.heap.push (newSet w)).objs.size, l] := by
          rw [sz1]; simp only [List.mem_cons, List.not_mem_nil, or_false, not_or]
          exact ⟨Nat.ne_of_lt (Nat.lt_succ_self _), Nat.ne_of_gt ls⟩
        have free : ∀ b, s.heap.objs.size ≤ b → s.heap.get? b = none := fun b hb => by
          cases q : s.heap.get? b with
          | none => rfl
          | some o => exact absurd (Nat.lt_of_lt_of_le (Heap.lt_size q) hb) (Nat.lt_irrefl _)
        refine fill (A' := A.in1.in1) ((Walks.tuple noh3 _ l ne1 items).toS) _ _ sf1 (fun b hb => free b (by rw [List.mem_singleton.mp hb, sz1]; exact Nat.le_succ _)) (by simp) noh3
          ⟨⟨_, Heap.get?_push_size _ rfl, rfl, rfl⟩, (seq1.push _)⟩ (Heap.get?_push_of_some _ atS) (fun b o e => Heap.get?_push_of_some _ (Heap.get?_push_of_some _ e)) ?hR
        case hR =>
          intro s' hm hS' hkp
          obtain ⟨h', gg, dd, tk', oo⟩ := s'
          obtain rfl : gg = s.gens := hm.gens
          obtain rfl : dd = s.drawn := hm.drawn
          obtain rfl : oo = s.os := hm.os
          exact wpAny_pure (wpAny_pure ⟨rfl, h', tk', rfl, hS', hkp⟩)

      · cases res2 with
        | error e => exact hres2
        | ok fl₂ =>
          cases fl₂ with
          | ret r =>
            obtain ⟨rfl, h', tk, rfl, hS', hk'⟩ := hres2
            repeat (any_goals (first | assumption | wp_step))
            exact h _ _ hS' hk'
          | _ => exact hres2.elim
    | _ => exact hres.elim
end
end VI
namespace VI
open PySem PySem.Spec PyProof.Rows L2
/-! ### sets of tuples as rules of the hand layer -/
structure SetN0 (w : World) (h : Heap) (a : Addr) (L : List (Addr × NestedKey)) : Prop where
  ex : ∃ (es : Array (Int × Value)) (ep : Nat) (t : SetTable), (∃ o, h.get? a = some o ∧ o.ExactSet ∧ o.data = .set es ep t) ∧ es.toList = rowsN w L ∧ TabF t (L.map fun p => p.2.hash w) ∧ (L.map (·.2)).Nodup ∧
    (w.params.followText "set-order" = true ∨ t.led = true) ∧ Masks t.mask L.length
def SetNO (w : World) (a : Addr) (L : List (Addr × NestedKey)) : HO := .ext fun h => SetN0 w h a L
theorem SetN.n0 {w : World} {h : Heap} {a : Addr} {L : List (Addr × NestedKey)} {es : Array (Int × Value)} {ep : Nat} {t : SetTable} (R : SetN w h a L es ep t) : SetN0 w h a L := ⟨es, ep, t, R.ob, R.rows, R.tab, R.nd, R.led, R.msk⟩
theorem SetN0.full {w : World} {h : Heap} {a : Addr} {L : List (Addr × NestedKey)} (R : SetN0 w h a L) (ht : ∀ p ∈ L, IsN h p.2 p.1) : ∃ es ep t, SetN w h a L es ep t := by
  obtain ⟨es, ep, t, h1, h2, h3, h4, h5, h6⟩ := R.ex
  exact ⟨es, ep, t, h1, h2, h3, h4, ht, h5, h6⟩
theorem setNO_new {P : Program} {w : World} {H : Hp} {h : Heap} {a : Addr} {L : List (Addr × NestedKey)} (R : SetN0 w h a L) : ObjOk P w H h a (SetNO w a L) := by
  have ⟨es, ep, t, ⟨o, ho, r⟩, q⟩ := R.ex
  refine ⟨R, ⟨o, ho⟩, fun h1 h2 p k => ?_⟩
  have ⟨es', ep', t', ⟨o', ho', r'⟩, q'⟩ := SetN0.ex p
  exact ⟨es', ep', t', ⟨o', k o' ho', r'⟩, q'⟩
section
variable {X : Cx} {pins : List (Addr × Obj)} {σ : L2.St} {H : Hp} {s : Shared}
mutual
theorem nested_of (I : Inv X pins σ H s) : ∀ (k : NestedKey) (v : V) (u : Value), Dp X.K H v k.data → RelV v u → NestedIs s.heap k u
  | .none, _, _, d, r => by cases d; cases r; exact .none
  | .num i, _, _, d, r => by
    cases d
    obtain ⟨t, rfl⟩ := r
    exact .int i t
  | .text x, _, _, d, r => by
    cases d
    obtain ⟨t, rfl⟩ := r
    exact .text x t
  | .tup ks, _, _, d, r => by
    simp only [NestedKey.data] at d
    cases d with
    | tup h hd =>
      cases r
      obtain ⟨its, rv, ⟨o, ho, hc, n, hdat⟩, _⟩ := I.tuple h
      exact .tup ho hc hdat (nesteds_of I ks _ _ hd (by simpa using rv))
theorem nesteds_of (I : Inv X pins σ H s) : ∀ (ks : List NestedKey) (vs : List V) (us : List Value), DpAll X.K H vs (NestedKey.datas ks) → Vals vs us → NestedAll s.heap ks us
  | [], _, _, d, r => by
    simp only [NestedKey.datas] at d
    cases d; cases r; exact .nil
  | k :: ks, _, _, d, r => by
    simp only [NestedKey.datas] at d
    cases d with
    | cons d1 d2 =>
      cases r with
      | cons r1 r2 => exact .cons (nested_of I k _ _ d1 r1) (nesteds_of I ks _ _ d2 r2)
end
def KeyAt (K : PySem.W.Frag) (H : Hp) (p : Addr × NestedKey) : Prop := Dp K H (.ref p.1) p.2.data ∧ p.2.depth ≤ 8
theorem KeyAt.isN (I : Inv X pins σ H s) {p : Addr × NestedKey} (h : KeyAt X.K H p) : IsN s.heap p.2 p.1 := ⟨nested_of I _ _ _ h.1 (show RelV (.ref p.1) (.ref p.1) from rfl), h.2⟩
theorem refs_vals : ∀ {ps : List (Addr × NestedKey)} {us : List Value}, Vals (ps.map fun p => V.ref p.1) us → us = ps.map fun p => Value.ref p.1
  | [], _, .nil => rfl
  | p :: ps, _, .cons r t => by
    cases r
    rw [refs_vals t]; rfl
theorem vals_refs : ∀ (ps : List (Addr × NestedKey)), Vals (ps.map fun p => V.ref p.1) (ps.map fun p => Value.ref p.1)
  | [] => .nil
  | p :: ps => .cons rfl (vals_refs ps)
/-- set(xs) -/
def rSetN (K : PySem.W.Frag) (w : World) : List V → Hp → VK → Prop := fun xs H Q => ∃ (l : Addr) (ps : List (Addr × NestedKey)), xs = [V.ref l] ∧ (SqL K H l (ps.map fun p => V.ref p.1) ∨ SqT K H l (ps.map fun p => V.ref p.1)) ∧ (∀ p ∈ ps, KeyAt K H p) ∧ ps.length < 307 ∧
  ∀ a L, H a = none → (∀ p ∈ L, p ∈ ps) → (∀ p ∈ ps, p.2 ∈ L.map (·.2)) → (L.map (·.2)).Nodup → Q (.ref a) (upd H a (SetNO w a L))
theorem getv_refs {ps : List (Addr × NestedKey)} {items : Array Value} (h : items.toList = ps.map fun p => Value.ref p.1) (i : Nat) (v : Value) (hv : items[i]? = some v) : ∃ p, ps[i]? = some p ∧ v = .ref p.1 := by
  have q : (ps.map fun p => Value.ref p.1)[i]? = some v := by rw [← h, Array.getElem?_toList]; exact hv
  rw [List.getElem?_map] at q
  cases hq : ps[i]? with
  | none => rw [hq] at q; cases q
  | some p =>
    rw [hq] at q
    exact ⟨p, rfl, (Option.some.inj q).symm⟩
theorem cr_setN (hc : X.calm = true) (hu : X.A.units + 64 < cLine) : CallR X (.type "set") (rSetN X.K X.w) := by
  intro pins s σ H xs us Q I r h
  obtain ⟨l, ps, rfl, hl, hk, hf, q⟩ := h
  rw [Vals.ref1 r]
  have hn : H s.heap.objs.size = none := I.hok.fresh (Nat.le_refl _)
  have fin : ∀ (h' : Heap) (tk : Nat), (∃ L es ep t, SetN X.w h' s.heap.objs.size L es ep t ∧ Had ps ps.length L) → (∀ b o, s.heap.get? b = some o → h'.get? b = some o) →
      ∃ y H', Inv X pins σ H' { s with heap := h', toks := tk } ∧ RelV y (.ref s.heap.objs.size) ∧ Q y H' := fun h' tk ⟨L, es, ep, t, R, g⟩ k =>
    ⟨.ref s.heap.objs.size, upd H s.heap.objs.size (SetNO X.w s.heap.objs.size L), I.laid (t' := tk) k (Nat.le_refl _) (setNO_new R.n0), rfl,
      q _ L hn (fun p hp => List.mem_of_mem_take (g.sub p hp)) (fun p hp => g.all p (by rw [List.take_length]; exact hp)) R.nd⟩
  rcases hl with hl | hl
  · obtain ⟨its, rv, pl, hz⟩ := I.list hl
    have ev : its.toArray.toList = ps.map fun p => Value.ref p.1 := by simpa using refs_vals rv
    exact call_set_list (P := X.prog) (w := X.w) (I.ok.hd hc) pl.isList (fills_n (by rw [← Array.length_toList, ev, List.length_map]) hf (getv_refs ev) (fun p hp => (hk p hp).isN I) (by omega)) fin
  · obtain ⟨its, rv, pl, hz⟩ := I.tuple hl
    have ev : its.toArray.toList = ps.map fun p => Value.ref p.1 := by simpa using refs_vals rv
    exact call_set_tuple (P := X.prog) (w := X.w) (I.ok.hd hc) pl (fills_n (by rw [← Array.length_toList, ev, List.length_map]) hf (getv_refs ev) (fun p hp => (hk p hp).isN I) (by omega)) fin
/-- each once, the last ones kept -/
def nub {α : Type} [DecidableEq α] : List α → List α
  | [] => []
  | d :: r => if d ∈ r then nub r else d :: nub r
theorem mem_nub {α : Type} [DecidableEq α] {x : α} : ∀ {l : List α}, x ∈ nub l ↔ x ∈ l
  | [] => Iff.rfl
  | d :: r => by
    unfold nub
    split
    · rename_i h
      rw [mem_nub (l := r), List.mem_cons]
      exact ⟨.inr, fun z => z.elim (fun e => e ▸ h) id⟩
    · rw [List.mem_cons, List.mem_cons, mem_nub (l := r)]
theorem nodup_nub {α : Type} [DecidableEq α] : ∀ l : List α, (nub l).Nodup
  | [] => List.nodup_nil
  | d :: r => by
    unfold nub
    split
    · exact nodup_nub r
    · rename_i h
      exact List.nodup_cons.mpr ⟨fun z => h (mem_nub.mp z), nodup_nub r⟩
theorem perm_nub {α : Type} [DecidableEq α] {l m : List α} (n : l.Nodup) (h : ∀ x, x ∈ l ↔ x ∈ m) : l.Perm (nub m) := (List.perm_ext_iff_of_nodup n (nodup_nub m)).mpr fun x => (h x).trans mem_nub.symm
/-- set(xs) of whole numbers -/
def rSetI (K : PySem.W.Frag) (w : World) : List V → Hp → VK → Prop := fun xs H Q => ∃ (l : Addr) (ns : List Int), xs = [V.ref l] ∧ (SqL K H l (ns.map V.int) ∨ SqT K H l (ns.map V.int)) ∧ ns.length < 1000 ∧
  ∀ a, H a = none → Q (.ref a) (upd H a (SetO w a (fun j => decide (j ∈ ns)) (nub ns).length))
theorem setR_len {w : World} {h : Heap} {a : Addr} {ns : List Int} {c : Nat} (R : SetR w h a (fun j => decide (j ∈ ns)) c) : SetR w h a (fun j => decide (j ∈ ns)) (nub ns).length := by
  obtain ⟨o, es, ep, t, h1, h2, h3, h4, h5, h6, h7, h8, h9, r⟩ := R
  refine ⟨o, es, ep, t, h1, h2, h3, h4, h5, h6, h7, h8, ?_, r⟩
  have q := (perm_nub h5 fun k => (by rw [← h6 k]; simp : k ∈ es.toList.map keyOf ↔ k ∈ ns)).length_eq
  rw [List.length_map, Array.length_toList] at q
  exact q
theorem getv_ints {ns : List Int} {items : Array Value} (h : IntsAre items.toList ns) (i : Nat) (v : Value) (hv : items[i]? = some v) : ∃ k t, ns[i]? = some k ∧ v = .int k t := by
  have hi : i < ns.length := by
    rw [← IntsAre.length h, Array.length_toList]
    exact (Array.getElem?_eq_some_iff.mp hv).1
  obtain ⟨t, e⟩ := PyProof.Rows.IntsAre.int_at h i v (by rw [Array.getElem?_toList]; exact hv)
  refine ⟨ns[i], t, List.getElem?_eq_getElem hi, ?_⟩
  rw [e, List.getD_eq_getElem?_getD, List.getElem?_eq_getElem hi]; rfl
theorem cr_setI (hc : X.calm = true) : CallR X (.type "set") (rSetI X.K X.w) := by
  intro pins s σ H xs us Q I r h
  obtain ⟨l, ns, rfl, hl, hf, q⟩ := h
  rw [Vals.ref1 r]
  have hn : H s.heap.objs.size = none := I.hok.fresh (Nat.le_refl _)
  have fin : ∀ (h' : Heap) (tk : Nat), (∃ c, SetR X.w h' s.heap.objs.size (fun j => decide (j ∈ ns)) c) → (∀ b o, s.heap.get? b = some o → h'.get? b = some o) →
      ∃ y H', Inv X pins σ H' { s with heap := h', toks := tk } ∧ RelV y (.ref s.heap.objs.size) ∧ Q y H' := fun h' tk ⟨c, R⟩ k =>
    ⟨.ref s.heap.objs.size, _, I.laid (t' := tk) k (Nat.le_refl _) (setO_new (setR_len R)), rfl, q _ hn⟩
  rcases hl with hl | hl
  · obtain ⟨its, rv, pl, hz⟩ := I.list hl
    have ev : IntsAre its.toArray.toList ns := by simpa using rv.ints
    exact call_set_list (P := X.prog) (w := X.w) (I.ok.hd hc) pl.isList (fills_i (by rw [← IntsAre.length ev, Array.length_toList]) (by unfold scanBound; omega) (getv_ints ev)) fin
  · obtain ⟨its, rv, pl, hz⟩ := I.tuple hl
    have ev : IntsAre its.toArray.toList ns := by simpa using rv.ints
    exact call_set_tuple (P := X.prog) (w := X.w) (I.ok.hd hc) pl (fills_i (by rw [← IntsAre.length ev, Array.length_toList]) (by unfold scanBound; omega) (getv_ints ev)) fin
/-- len(set) -/
def rLenN (w : World) : List V → Hp → VK → Prop := fun vs H Q => ∃ (a : Addr) (L : List (Addr × NestedKey)), vs = [V.ref a] ∧ H a = some (SetNO w a L) ∧ Q (.int L.length) H
theorem cr_lenN : CallR X (.builtin "len") (rLenN X.w) := by
  intro pins s σ H vs us Q I r h
  obtain ⟨a, L, rfl, ha, q⟩ := h
  have R0 : SetN0 X.w s.heap a L := (I.hok a _ ha).1
  obtain ⟨es, ep, t, ⟨o, ho, hex, hdt⟩, h2, h3, h4, h5, h6⟩ := R0.ex
  rw [Vals.ref1 r]
  have hsz : es.size = L.length := by
    have h := congrArg List.length h2
    rw [rowsN_len] at h
    exact h
  have rm := h6.room
  exact call_len_set ho hex hdt (fits_n h3 hsz rm.1) (by rw [hsz]; omega) ⟨.int L.length, H, I.tok _, ⟨_, by rw [hsz]⟩, q⟩

/-! ### sorted -/
theorem perm_map_back {α β : Type} {f : α → β} {l m : List β} (h : l.Perm m) : ∀ {L : List α}, m = L.map f → ∃ L1 : List α, L1.Perm L ∧ L1.map f = l := by
  induction h with
  | nil => intro L e; exact ⟨L, .refl _, e.symm⟩
  | @cons x l m _ ih =>
    intro L e
    cases L with
    | nil => cases e
    | cons a L =>
      simp only [List.map_cons, List.cons.injEq] at e
      obtain ⟨L1, p, rfl⟩ := ih e.2
      exact ⟨a :: L1, p.cons a, by rw [List.map_cons, e.1]⟩
  | @swap x y l =>
    intro L e
    match L, e with
    | a :: b :: L, e =>
      simp only [List.map_cons, List.cons.injEq] at e
      exact ⟨b :: a :: L, .swap .., by simp [e.1, e.2.1, e.2.2]⟩
  | trans _ _ ih1 ih2 =>
    intro L e
    obtain ⟨L2, p2, e2⟩ := ih2 e
    obtain ⟨L1, p1, e1⟩ := ih1 e2.symm
    exact ⟨L1, p1.trans p2, e1⟩
/-- sorted(set), tuples that are alike -/
def encN (p : Addr × NestedKey) : PyData := p.2.data
def rSortN (K : PySem.W.Frag) (w : World) : List V → Hp → VK → Prop := fun vs H Q => ∃ (a : Addr) (L : List (Addr × NestedKey)), vs = [V.ref a] ∧ H a = some (SetNO w a L) ∧ (∀ p ∈ L, KeyAt K H p) ∧ W.AllAlike (L.map encN) ∧ W.Sortable (L.map encN) ∧ (∀ p ∈ L, (encN p).depth ≤ 30) ∧
  ∀ (L1 : List (Addr × NestedKey)) (p : Addr), L1.Perm L → H p = none → Q (.ref p) (upd H p (.lst ((L1.mergeSort (W.dataLe false encN)).map fun q => V.ref q.1)))
mutual
theorem reads_nil {h : Heap} : ∀ (k : NestedKey) (v : Value) (as : List Addr), Reads h v k.data as → as = []
  | .none, _, _, r => by cases r; rfl
  | .num i, _, _, r => by cases r; rfl
  | .text x, _, _, r => by cases r; rfl
  | .tup ks, _, _, r => by
    simp only [NestedKey.data] at r
    cases r with
    | tuple _ _ _ r => exact reads_nils ks _ _ r
theorem reads_nils {h : Heap} : ∀ (ks : List NestedKey) (vs : List Value) (as : List Addr), ReadsAll h vs (NestedKey.datas ks) as → as = []
  | [], _, _, r => by simp only [NestedKey.datas] at r; cases r; rfl
  | k :: ks, _, _, r => by
    simp only [NestedKey.datas] at r
    cases r with
    | cons r1 r2 => rw [reads_nil k _ _ r1, reads_nils ks _ _ r2]; rfl
end
theorem reads_key (I : Inv X pins σ H s) {p : Addr × NestedKey} (h : KeyAt X.K H p) : Reads s.heap (.ref p.1) (encN p) [] := by
  obtain ⟨as, r⟩ := Dp.reads I _ _ (.ref p.1) h.1 rfl
  have e := reads_nil _ _ _ r
  rw [e] at r
  exact r
theorem each_of {R : Value → (Addr × NestedKey) → Prop} : ∀ {L : List (Addr × NestedKey)}, (∀ p ∈ L, R (.ref p.1) p) → W.EachIs R (L.map fun p => Value.ref p.1) L
  | [], _ => .nil
  | p :: L, h => .cons (h p List.mem_cons_self) (each_of fun q hq => h q (List.mem_cons_of_mem _ hq))
theorem each_refs : ∀ {L : List (Addr × NestedKey)} {out : List Value}, W.EachIs (fun (v : Value) (p : Addr × NestedKey) => v = Value.ref p.1) out L → out = L.map fun p => Value.ref p.1
  | _, _, .nil => rfl
  | _, _, .cons h t => by rw [h, each_refs t]; rfl
theorem alike_perm {α : Type} {enc : α → PyData} {l m : List α} (p : l.Perm m) (h : W.AllAlike (m.map enc)) : W.AllAlike (l.map enc) := fun d hd d' hd' => h d ((p.map enc).mem_iff.mp hd) d' ((p.map enc).mem_iff.mp hd')
theorem sortable_perm {α : Type} {enc : α → PyData} {l m : List α} (p : l.Perm m) (h : W.Sortable (m.map enc)) : W.Sortable (l.map enc) :=
  h.imp (fun h d hd => h d ((p.map enc).mem_iff.mp hd)) fun h d hd => h d ((p.map enc).mem_iff.mp hd)
theorem cr_sortedN (hc : X.calm = true) (hu : X.A.units + 64 < cLine) : CallR X (.builtin "sorted") (rSortN X.K X.w) := by
  intro pins s σ H vs us Q I r h
  obtain ⟨a, L, rfl, ha, hk, hal, hso, hdp, q⟩ := h
  have R0 : SetN0 X.w s.heap a L := (I.hok a _ ha).1
  obtain ⟨es, ep, t, R⟩ := R0.full fun p hp => (hk p hp).isN I
  rw [Vals.ref1 r]
  obtain ⟨ob, hob, hex, hdt⟩ := R.ob
  have rm := R.msk.room
  refine Calls.call_function_entry kind_sorted plain_sorted entry_sorted (args_sorted1 _) ?_
  unfold Builtin.«sorted»
  refine wpAny_bind (m := checkCount "sorted" 1 1 _) (wpAny_pure ?_)
  refine wpAny_bind (collect_set (A := X.A.in1) (I.ok.hd hc) ⟨ob, hob, hex.1, hdt⟩ R.fits (by have := R.size; unfold scanBound; omega) R.tab.ris R.led fun s1 vs k1 hz g1 o1 pm => ?_)
  have hes : es.toList.map (·.2) = L.map fun q => Value.ref q.1 := by rw [R.rows, rowsN, List.map_map]; rfl
  rw [hes] at pm
  obtain ⟨L1, p1, rfl⟩ := perm_map_back pm rfl
  have few : L1.length < 307 := by rw [p1.length_eq]; exact rm.2.1
  refine wpAny_bind (wpAny_newList ?_ (by simp [sizeLine_eq]; omega))
  have hoL : (s1.heap.push (seqObj "list" (L1.map fun q => Value.ref q.1).toArray 0)).get? s1.heap.objs.size = some (seqObj "list" (L1.map fun q => Value.ref q.1).toArray 0) := Heap.get?_push_size _ rfl
  refine wpAny_bind (wpAny_holding (W.list_sort_data (s := { s1 with heap := s1.heap.push (seqObj "list" (L1.map fun q => Value.ref q.1).toArray 0) }) (bs := L1) (enc := encN) (R := fun v p => v = Value.ref p.1) hoL (each_of fun _ _ => rfl)
    (each_of fun p hp => ⟨[], PyProof.Rows.Reads.keeps (fun b o e => Heap.get?_push_of_some _ (k1 b o e)) (reads_key I (hk p (p1.mem_iff.mp hp))), by simp⟩) (alike_perm p1 hal) (sortable_perm p1 hso) (by rw [sizeLine_eq]; omega)
    (fun p hp => by have := hdp p (p1.mem_iff.mp hp); simp; omega) fun out ho he => ?_))
  have eo := each_refs he
  obtain ⟨c, hcp⟩ := sortedHeap_at (vs := L1.map fun q => Value.ref q.1) (out := out.toArray) hoL
  have hn : H s1.heap.objs.size = none := I.hok.fresh hz
  have old : ∀ b o, s.heap.get? b = some o → (sortedHeap (s1.heap.push (seqObj "list" (L1.map fun q => Value.ref q.1).toArray 0)) s1.heap.objs.size (L1.map fun q => Value.ref q.1) out.toArray).get? b = some o := fun b o e => by
    have k := k1 b o e
    have hlt := Heap.lt_size k
    rw [sortedHeap_old (Nat.ne_of_lt hlt) (by rw [size_push']; exact Nat.lt_succ_of_lt hlt)]
    exact Heap.get?_push_of_some _ k
  have J : Inv X pins σ (upd H s1.heap.objs.size (.lst ((L1.mergeSort (W.dataLe false encN)).map fun q => V.ref q.1))) { s with heap := sortedHeap (s1.heap.push (seqObj "list" (L1.map fun q => Value.ref q.1).toArray 0)) s1.heap.objs.size (L1.map fun q => Value.ref q.1) out.toArray, gens := s1.gens, drawn := s1.drawn, toks := s1.toks } :=
    I.call (ch := []) (Un.laid old hz hn) (I.hok.laid old hz ⟨by rw [List.length_map, List.length_mergeSort, sizeLine_eq]; omega, out, c, by rw [eo]; exact vals_refs _, hcp⟩) (by rw [g1]; exact I.bare) (fun _ z => nomatch z)
  have e : ({ s1 with heap := sortedHeap (s1.heap.push (seqObj "list" (L1.map fun q => Value.ref q.1).toArray 0)) s1.heap.objs.size (L1.map fun q => Value.ref q.1) out.toArray } : Shared) = { s with heap := sortedHeap (s1.heap.push (seqObj "list" (L1.map fun q => Value.ref q.1).toArray 0)) s1.heap.objs.size (L1.map fun q => Value.ref q.1) out.toArray, gens := s1.gens, drawn := s1.drawn, toks := s1.toks } := by
    cases s1
    cases s
    cases o1
    rfl
  refine wpAny_pure ⟨_, rfl, ?_⟩
  rw [e]
  exact ⟨.ref _, _, J, rfl, q L1 _ p1 hn⟩
/-- sorted(xs), xs a list of alike data -/
def encV (p : V × PyData) : PyData := p.2
def rSortD (K : PySem.W.Frag) : List V → Hp → VK → Prop := fun vs H Q => ∃ (a : Addr) (L : List (V × PyData)), vs = [V.ref a] ∧ SqL K H a (L.map (·.1)) ∧ (∀ p ∈ L, Dp K H p.1 p.2) ∧ W.AllAlike (L.map encV) ∧ W.Sortable (L.map encV) ∧ (∀ p ∈ L, p.2.depth ≤ 30) ∧
  ∀ p, H p = none → Q (.ref p) (upd H p (.lst ((L.mergeSort (W.dataLe false encV)).map (·.1))))
theorem each_dps (I : Inv X pins σ H s) : ∀ {L : List (V × PyData)} {us : List Value}, Vals (L.map (·.1)) us → (∀ p ∈ L, Dp X.K H p.1 p.2) → W.EachIs (fun v (p : V × PyData) => RelV p.1 v) us L ∧ W.EachIs (fun v (p : V × PyData) => ∃ as, Reads s.heap v (encV p) as) us L
  | [], _, .nil, _ => ⟨.nil, .nil⟩
  | p :: L, _, .cons r t, h => by
    obtain ⟨e1, e2⟩ := each_dps I t fun q hq => h q (List.mem_cons_of_mem _ hq)
    exact ⟨.cons r e1, .cons (Dp.reads I _ _ _ (h p List.mem_cons_self) r) e2⟩
theorem each_vals : ∀ {L : List (V × PyData)} {us : List Value}, W.EachIs (fun v (p : V × PyData) => RelV p.1 v) us L → Vals (L.map (·.1)) us
  | _, _, .nil => .nil
  | _, _, .cons r t => .cons r (each_vals t)
theorem cr_sortedD (hu : X.A.units + 64 < cLine) : CallR X (.builtin "sorted") (rSortD X.K) := by
  intro pins s σ H vs us Q I r h
  obtain ⟨a, L, rfl, hl, hk, hal, hso, hdp, q⟩ := h
  rw [Vals.ref1 r]
  obtain ⟨its, rv, pl, hz⟩ := I.list hl
  obtain ⟨e1, e2⟩ := each_dps I rv hk
  have hn : its.length = L.length := e1.length
  refine W.sorted_data (bs := L) (enc := encV) (R := fun v p => RelV p.1 v) pl.isList e1 e2 hal hso (by rw [← hn]; exact (by simpa [rv.length] using hz)) (fun p hp => by have := hdp p hp; show _ + (p.2).depth < _; omega) fun out ho he => ?_
  obtain ⟨ep, hat⟩ := PyProof.Rows.sortedAll_at s.heap its out.toArray
  refine ⟨.ref _, upd H (s.heap.objs.size + 1) (.lst ((L.mergeSort (W.dataLe false encV)).map (·.1))), I.laid (t' := s.toks) (fun _ _ => PyProof.Rows.sortedAll_old) (Nat.le_succ _) ⟨?_, out, ep, each_vals he, hat⟩, rfl, q _ (I.hok.fresh (Nat.le_succ _))⟩
  rw [List.length_map, List.length_mergeSort, ← hn, ← rv.length]
  exact hz
end
end VI
namespace VI
open PySem PySem.Spec PyProof.Rows L2
/-! ### order of alike data -/
section
variable {α : Type}
theorem sorted_one {le : α → α → Bool} : ∀ {l m : List α}, l.Perm m → l.Pairwise (fun a b => le a b = true) → m.Pairwise (fun a b => le a b = true) → (∀ a ∈ l, ∀ b ∈ l, le a b = true → le b a = true → a = b) → l = m
  | [], m, p, _, _, _ => p.nil_eq
  | a :: l, [], p, _, _, _ => nomatch p.eq_nil
  | a :: l, b :: m, p, hl, hm, anti => by
    have e : a = b := by
      have ha : a ∈ b :: m := p.mem_iff.mp List.mem_cons_self
      have hb : b ∈ a :: l := p.mem_iff.mpr List.mem_cons_self
      rcases List.mem_cons.mp ha with e | ha
      · exact e
      · rcases List.mem_cons.mp hb with e | hb'
        · exact e.symm
        · exact anti a List.mem_cons_self b hb ((List.pairwise_cons.mp hl).1 b hb') ((List.pairwise_cons.mp hm).1 a ha)
    subst e
    rw [sorted_one (List.perm_cons a |>.mp p) (List.pairwise_cons.mp hl).2 (List.pairwise_cons.mp hm).2 fun x hx y hy => anti x (List.mem_cons_of_mem _ hx) y (List.mem_cons_of_mem _ hy)]
theorem sort_perm {le : α → α → Bool} (T : W.TotalLe le) {l m : List α} (p : l.Perm m) (anti : ∀ a ∈ l, ∀ b ∈ l, le a b = true → le b a = true → a = b) : l.mergeSort le = m.mergeSort le :=
  sorted_one ((List.mergeSort_perm l le).trans (p.trans (List.mergeSort_perm m le).symm)) (W.sort_pairwise T l) (W.sort_pairwise T m) fun a ha b hb => anti a ((List.mergeSort_perm l le).mem_iff.mp ha) b ((List.mergeSort_perm l le).mem_iff.mp hb)
end
/-- sorted by putting each in its place -/
def insO {α : Type} (le : α → α → Bool) (x : α) : List α → List α
  | [] => [x]
  | y :: l => if le x y = true then x :: y :: l else y :: insO le x l
def isort {α : Type} (le : α → α → Bool) : List α → List α
  | [] => []
  | x :: l => insO le x (isort le l)
section
variable {α : Type} {le : α → α → Bool}
theorem insO_perm (x : α) : ∀ l : List α, (insO le x l).Perm (x :: l)
  | [] => .refl _
  | y :: l => by
    unfold insO
    split
    · exact .refl _
    · exact ((insO_perm x l).cons y).trans (.swap x y l)
theorem isort_perm : ∀ l : List α, (isort le l).Perm l
  | [] => .refl _
  | x :: l => (insO_perm x _).trans ((isort_perm l).cons x)
theorem insO_sorted (T : W.TotalLe le) (x : α) : ∀ {l : List α}, l.Pairwise (fun a b => le a b = true) → (insO le x l).Pairwise (fun a b => le a b = true)
  | [], _ => List.pairwise_singleton _ _
  | y :: l, h => by
    obtain ⟨h1, h2⟩ := List.pairwise_cons.mp h
    unfold insO
    split
    · rename_i hx
      exact List.pairwise_cons.mpr ⟨fun z hz => (List.mem_cons.mp hz).elim (fun e => e ▸ hx) fun hz => T.trans _ _ _ hx (h1 z hz), h⟩
    · rename_i hx
      have hy : le y x = true := (T.total x y).resolve_left hx
      refine List.pairwise_cons.mpr ⟨fun z hz => ?_, insO_sorted T x h2⟩
      rcases List.mem_cons.mp ((insO_perm x l).mem_iff.mp hz) with rfl | hz
      · exact hy
      · exact h1 z hz
theorem isort_sorted (T : W.TotalLe le) : ∀ l : List α, (isort le l).Pairwise (fun a b => le a b = true)
  | [] => List.Pairwise.nil
  | x :: l => insO_sorted T x (isort_sorted T l)
theorem isort_merge (T : W.TotalLe le) (l : List α) (anti : ∀ a ∈ l, ∀ b ∈ l, le a b = true → le b a = true → a = b) : l.mergeSort le = isort le l :=
  sorted_one ((List.mergeSort_perm l le).trans (isort_perm l).symm) (W.sort_pairwise T l) (isort_sorted T l) fun a ha b hb => anti a ((List.mergeSort_perm l le).mem_iff.mp ha) b ((List.mergeSort_perm l le).mem_iff.mp hb)
theorem isort_same (T : W.TotalLe le) {l m : List α} (p : l.Perm m) (anti : ∀ a ∈ l, ∀ b ∈ l, le a b = true → le b a = true → a = b) : isort le l = isort le m :=
  sorted_one ((isort_perm l).trans (p.trans (isort_perm m).symm)) (isort_sorted T l) (isort_sorted T m) fun a ha b hb => anti a ((isort_perm l).mem_iff.mp ha) b ((isort_perm l).mem_iff.mp hb)
end
theorem dataLe_total {α : Type} (k : α → PyData) : W.TotalLe (W.dataLe false k) := W.sortLe_total _ _ _
theorem lex_nil_cons (x : Int ⊕ List Nat) : PyProof.Rows.lexLt itemOrd [] [x] = true := rfl
mutual
theorem eqv_key : ∀ x y : NestedKey, PyData.eqv x.data y.data = true → x = y
  | .none, .none, _ => rfl
  | .none, .num _, h => by simp [NestedKey.data, PyData.eqv] at h
  | .none, .text _, h => by simp [NestedKey.data, PyData.eqv] at h
  | .none, .tup _, h => by simp [NestedKey.data, PyData.eqv] at h
  | .num i, .none, h => by simp [NestedKey.data, PyData.eqv] at h
  | .num i, .num j, h => by simp [NestedKey.data, PyData.eqv] at h; rw [h]
  | .num i, .text _, h => by simp [NestedKey.data, PyData.eqv] at h
  | .num i, .tup _, h => by simp [NestedKey.data, PyData.eqv] at h
  | .text x, .none, h => by simp [NestedKey.data, PyData.eqv] at h
  | .text x, .num _, h => by simp [NestedKey.data, PyData.eqv] at h
  | .text x, .text y, h => by simp [NestedKey.data, PyData.eqv] at h; rw [h]
  | .text x, .tup _, h => by simp [NestedKey.data, PyData.eqv] at h
  | .tup a, .none, h => by simp [NestedKey.data, PyData.eqv] at h
  | .tup a, .num _, h => by simp [NestedKey.data, PyData.eqv] at h
  | .tup a, .text _, h => by simp [NestedKey.data, PyData.eqv] at h
  | .tup a, .tup b, h => by
    simp only [NestedKey.data, PyData.eqv] at h
    rw [eqv_keys a b h]
theorem eqv_keys : ∀ x y : List NestedKey, PyData.eqvAll (NestedKey.datas x) (NestedKey.datas y) = true → x = y
  | [], [], _ => rfl
  | [], _ :: _, h => by simp [NestedKey.datas, PyData.eqvAll] at h
  | _ :: _, [], h => by simp [NestedKey.datas, PyData.eqvAll] at h
  | a :: x, b :: y, h => by
    simp only [NestedKey.datas, PyData.eqvAll, Bool.and_eq_true] at h
    rw [eqv_key a b h.1, eqv_keys x y h.2]
end
theorem key_anti {x y : NestedKey} (h : W.alike x.data y.data = true) (h1 : W.dataLt y.data x.data = false) (h2 : W.dataLt x.data y.data = false) : x = y := by
  have e : W.keyToks x.data = W.keyToks y.data := lex_total _ _ h2 h1
  cases q : PyData.eqv x.data y.data with
  | true => exact eqv_key x y q
  | false =>
    have z := (W.toks_eqv _ _ h).2 q [] [.inl 0]
    rw [e, W.lex_pre, lex_nil_cons, lex_irrefl] at z
    cases z

/-! ### data as keys -/
mutual
def nkD : D → NestedKey
  | .int i => .num i
  | .str x => .text x
  | .tup ds => .tup (nkDs ds)
  | _ => .none
def nkDs : List D → List NestedKey
  | [] => []
  | d :: ds => nkD d :: nkDs ds
end
mutual
def isKey : D → Bool
  | .non => true
  | .int _ => true
  | .str _ => true
  | .tup ds => isKeys ds
  | _ => false
def isKeys : List D → Bool
  | [] => true
  | d :: ds => isKey d && isKeys ds
end
mutual
theorem dOf_nkD : ∀ d : D, isKey d = true → dOf (nkD d) = d
  | .non, _ => by simp [nkD, dOf]
  | .int _, _ => by simp [nkD, dOf]
  | .str _, _ => by simp [nkD, dOf]
  | .tup ds, h => by simp only [nkD, dOf]; rw [dOfs_nkDs ds (by simpa only [isKey] using h)]
  | .bl _, h => by simp [isKey] at h
  | .ty _, h => by simp [isKey] at h
  | .cl _, h => by simp [isKey] at h
  | .ref _, h => by simp [isKey] at h
  | .lst _, h => by simp [isKey] at h
  | .dic _, h => by simp [isKey] at h
  | .obj _ _, h => by simp [isKey] at h
theorem dOfs_nkDs : ∀ ds : List D, isKeys ds = true → dOfs (nkDs ds) = ds
  | [], _ => by simp [nkDs, dOfs]
  | d :: ds, h => by
    simp only [isKeys, Bool.and_eq_true] at h
    simp only [nkDs, dOfs]
    rw [dOf_nkD d h.1, dOfs_nkDs ds h.2]
end
mutual
theorem nkD_dOf : ∀ k : NestedKey, nkD (dOf k) = k
  | .none => by simp [nkD, dOf]
  | .num _ => by simp [nkD, dOf]
  | .text _ => by simp [nkD, dOf]
  | .tup ks => by simp only [dOf, nkD]; rw [nkDs_dOfs ks]
theorem nkDs_dOfs : ∀ ks : List NestedKey, nkDs (dOfs ks) = ks
  | [] => by simp [nkDs, dOfs]
  | k :: ks => by simp only [dOfs, nkDs]; rw [nkD_dOf k, nkDs_dOfs ks]
end
mutual
theorem toPy_dOf : ∀ k : NestedKey, toPy (dOf k) = k.data
  | .none => by simp [toPy, dOf, NestedKey.data]
  | .num _ => by simp [toPy, dOf, NestedKey.data]
  | .text _ => by simp [toPy, dOf, NestedKey.data]
  | .tup ks => by simp only [dOf, toPy, NestedKey.data]; rw [toPys_dOfs ks]
theorem toPys_dOfs : ∀ ks : List NestedKey, toPys (dOfs ks) = NestedKey.datas ks
  | [] => by simp [toPys, dOfs, NestedKey.datas]
  | k :: ks => by simp only [dOfs, toPys, NestedKey.datas]; rw [toPy_dOf k, toPys_dOfs ks]
end
mutual
theorem isPy_dOf : ∀ k : NestedKey, isPy (dOf k) = true
  | .none => by simp [isPy, dOf]
  | .num _ => by simp [isPy, dOf]
  | .text _ => by simp [isPy, dOf]
  | .tup ks => by simp only [dOf, isPy]; exact isPys_dOfs ks
theorem isPys_dOfs : ∀ ks : List NestedKey, isPys (dOfs ks) = true
  | [] => by simp [isPys, dOfs]
  | k :: ks => by simp only [dOfs, isPys, isPy_dOf k, isPys_dOfs ks, Bool.and_self]
end
def leD (a b : D) : Bool := W.dataLe false toPy a b
theorem leD_dOf (a b : NestedKey) : leD (dOf a) (dOf b) = W.dataLe false NestedKey.data a b := by
  unfold leD W.dataLe W.sortLe
  simp only [toPy_dOf]
theorem leD_total : W.TotalLe leD := dataLe_total toPy
/-- a tuple that may stand in a set and be sorted -/
def keyTup : D → Bool
  | .tup (d :: ds) => isKeys (d :: ds) && decide ((nkD (.tup (d :: ds))).depth ≤ 8) && decide ((toPy (.tup (d :: ds))).depth ≤ 30)
  | _ => false
def alikes (ds : List D) : Bool := ds.all fun a => ds.all fun b => W.alike (toPy a) (toPy b)
theorem leD_anti {a b : D} (ha : keyTup a = true) (hb : keyTup b = true) (h : W.alike (toPy a) (toPy b) = true) (h1 : leD a b = true) (h2 : leD b a = true) : a = b := by
  have key : ∀ d, keyTup d = true → isKey d = true := fun d h => by
    unfold keyTup at h
    split at h
    · simp only [Bool.and_eq_true] at h
      simp only [isKey]; exact h.1.1
    · cases h
  have ea := dOf_nkD a (key a ha)
  have eb := dOf_nkD b (key b hb)
  rw [← ea, ← eb] at h h1 h2 ⊢
  rw [toPy_dOf, toPy_dOf] at h
  rw [leD_dOf] at h1 h2
  have h1 : (!W.dataLt (nkD b).data (nkD a).data) = true := h1
  have h2 : (!W.dataLt (nkD a).data (nkD b).data) = true := h2
  rw [key_anti h (by simpa using h1) (by simpa using h2)]
/-- sorted(set(ds)), tuples -/
def sortSet (ds : List D) : List D := isort leD (nub ds)
theorem sortSet_congr {ds es : List D} (h : ∀ d, d ∈ ds ↔ d ∈ es) (hk : ds.all keyTup = true) (ha : alikes ds = true) : sortSet ds = sortSet es := by
  refine isort_same leD_total (perm_nub (nodup_nub ds) fun x => mem_nub.trans (h x)) fun a ma b mb h1 h2 => ?_
  rw [mem_nub] at ma mb
  unfold alikes at ha
  rw [List.all_eq_true] at hk ha
  exact leD_anti (hk a ma) (hk b mb) (List.all_eq_true.mp (ha a ma) b mb) h1 h2
theorem mem_sortSet {ds : List D} {d : D} : d ∈ sortSet ds ↔ d ∈ ds := ((isort_perm _).mem_iff).trans mem_nub
def sortI (ns : List Int) : List Int := isort (fun a b => decide (a ≤ b)) (nub ns)
theorem mem_sortI {ns : List Int} {d : Int} : d ∈ sortI ns ↔ d ∈ ns := ((isort_perm _).mem_iff).trans mem_nub
theorem leI_total : W.TotalLe fun a b : Int => decide (a ≤ b) := ⟨fun a b c h1 h2 => by simp at *; omega, fun a b => by simp; omega⟩
theorem sortI_of {ns out : List Int} (h : out.Pairwise (· < ·)) (m : ∀ k, k ∈ out ↔ k ∈ ns) : out = sortI ns := by
  have nd : out.Nodup := h.imp fun h => by omega
  refine sorted_one (le := fun a b => decide (a ≤ b)) ((perm_nub nd m).trans (isort_perm _).symm) (h.imp fun h => by simp; omega) (isort_sorted leI_total _) fun a _ b _ h1 h2 => ?_
  simp at h1 h2; omega
end VI
namespace VI
open PySem PySem.Spec PyProof.Rows L2
/-! ### sorted(..), sorted(set(..)), len(set(..)) by value -/
/-- a tuple's or a list's items -/
def colOf (d : D) (st : Store) : Option (List D) := match d with
  | .tup ds => some ds
  | d => (lstOf d st).map (·.1)
def intsD : List D → Option (List Int)
  | [] => some []
  | .int i :: ds => (intsD ds).map fun is => i :: is
  | _ => none
def okKeys (ds : List D) : Bool := decide (ds.length < 307) && ds.all keyTup && alikes ds
def fSortSet (ds : List D) (st : Store) : Res Wv := match ds with
  | [d] => match colOf d st with
    | none => .stuck
    | some ds => match intsD ds with
      | some is => if is.length < 1000 ∧ (nub is).length < 64 then .ok (.new (.lst ((sortI is).map D.int))) st else .stuck
      | none => if okKeys ds = true then .ok (.new (.lst (sortSet ds))) st else .stuck
  | _ => .stuck
def fLenSet (ds : List D) (st : Store) : Res Wv := match ds with
  | [d] => match colOf d st with
    | none => .stuck
    | some ds => if (decide (ds.length < 307) && ds.all keyTup) = true then .ok (.val (.int (nub ds).length)) st else .stuck
  | _ => .stuck
def plainD : D → Bool
  | .bl _ => true
  | .int _ => true
  | .str _ => true
  | .lst ds => isPys ds && decide ((toPy (.lst ds)).depth ≤ 30)
  | _ => false
def fullTup : D → Bool
  | .tup (d :: ds) => isPys (d :: ds) && decide ((toPy (.tup (d :: ds))).depth ≤ 30)
  | _ => false
def antis (ds : List D) : Bool := ds.all fun a => ds.all fun b => !(leD a b && leD b a) || decide (a = b)
def okSort (ds : List D) : Bool := (ds.all plainD || ds.all fullTup) && alikes ds && antis ds
def fSorted (ds : List D) (st : Store) : Res Wv := match ds with
  | [d] => match lstOf d st with
    | none => .stuck
    | some (ds, _) => if okSort ds = true then .ok (.new (.lst (isort leD ds))) st else .stuck
  | _ => .stuck
section
variable {X : Cx} {G : Gx} {E : WX} {as as' : List Addr} {st st' : Store} {H : Hp} {L : Addr → Prop}
theorem colOf_sq (s : StR G as st H) {d : D} {v : V} {ds : List D} (r : RelD G as (Live as st) H d v) (h : colOf d st = some ds) :
    ∃ p vs, v = .ref p ∧ (SqL G.K H p vs ∨ SqT G.K H p vs) ∧ RelDs G as (Live as st) H ds vs := by
  have other : (lstOf d st).map (·.1) = some ds → ∃ p vs, v = .ref p ∧ (SqL G.K H p vs ∨ SqT G.K H p vs) ∧ RelDs G as (Live as st) H ds vs := fun h => by
    cases q : lstOf d st with
    | none => rw [q] at h; cases h
    | some x =>
      rw [q] at h
      obtain ⟨ds', src⟩ := x
      cases h
      obtain ⟨p, vs, e, h1, h2⟩ := lstOf_sq s r q
      exact ⟨p, vs, e, .inl h1, h2⟩
  cases d with
  | tup es =>
    cases h
    cases r with
    | tup h1 h2 => exact ⟨_, _, rfl, .inr h1, h2⟩
  | _ => exact other h
theorem intsD_rel : ∀ {ds : List D} {vs : List V} {is : List Int}, RelDs G as L H ds vs → intsD ds = some is → vs = is.map V.int
  | _, _, _, .nil, h => by cases h; rfl
  | _, _, is, .cons (ds := ds) r t, h => by
    cases r with
    | int b =>
      simp only [intsD] at h
      cases q : intsD ds with
      | none => rw [q] at h; cases h
      | some bs' =>
        rw [q] at h
        cases h
        rw [intsD_rel t q]; rfl
    | _ => simp only [intsD] at h; cases h
theorem callR_or {f : Value} {r r' : List V → Hp → VK → Prop} (h : CallR X f r) (h' : CallR X f r') : CallR X f (fun vs H Q => r vs H Q ∨ r' vs H Q) := by
  intro pins s σ H vs us Q I rv q
  rcases q with q | q
  · exact h pins s σ H vs us Q I rv q
  · exact h' pins s σ H vs us Q I rv q
/-- what stands behind a key -/
def NodeAt (G : Gx) (as : List Addr) (L : Addr → Prop) (H : Hp) (p : Addr × NestedKey) : Prop := KeyAt G.K H p ∧ RelD G as L H (dOf p.2) (.ref p.1) ∧ keyTup (dOf p.2) = true
theorem keyTup_key {d : D} (h : keyTup d = true) : isKey d = true ∧ (nkD d).depth ≤ 8 ∧ (toPy d).depth ≤ 30 ∧ ∃ x r, d = .tup (x :: r) := by
  unfold keyTup at h
  split at h
  · simp only [Bool.and_eq_true, decide_eq_true_eq] at h
    exact ⟨by simp only [isKey]; exact h.1.1, h.1.2, h.2, _, _, rfl⟩
  · cases h
theorem keys_of : ∀ {ds : List D} {vs : List V}, RelDs G as L H ds vs → (∀ d ∈ ds, keyTup d = true) →
    ∃ ps : List (Addr × NestedKey), vs = ps.map (fun p => V.ref p.1) ∧ ps.map (fun p => dOf p.2) = ds ∧ ∀ p ∈ ps, NodeAt G as L H p
  | _, _, .nil, _ => ⟨[], rfl, rfl, fun p h => (by cases h)⟩
  | _, _, .cons (d := d) (v := v) r t, h => by
    obtain ⟨ps, e1, e2, e3⟩ := keys_of t fun x hx => h x (List.mem_cons_of_mem _ hx)
    have hd := h d List.mem_cons_self
    obtain ⟨k1, k2, k3, x, rr, k4⟩ := keyTup_key hd
    have ed := dOf_nkD d k1
    obtain ⟨a, ea⟩ : ∃ a, v = .ref a := by
      subst k4
      cases r with
      | tup _ _ => exact ⟨_, rfl⟩
    subst ea
    have hp : isPy d = true := by rw [← ed]; exact isPy_dOf _
    have dp := r.dp hp
    rw [← ed, toPy_dOf] at dp
    refine ⟨(a, nkD d) :: ps, by rw [e1]; rfl, by rw [List.map_cons, e2, ed], fun p hp => ?_⟩
    rcases List.mem_cons.mp hp with rfl | hp
    · exact ⟨⟨dp, k2⟩, by rw [ed]; exact r, by rw [ed]; exact hd⟩
    · exact e3 p hp
theorem rels_map {M : List (Addr × NestedKey)} (h : ∀ p ∈ M, RelD G as L H (dOf p.2) (.ref p.1)) : RelDs G as L H (M.map fun p => dOf p.2) (M.map fun p => V.ref p.1) := by
  induction M with
  | nil => exact .nil
  | cons p M ih => exact .cons (h p List.mem_cons_self) (ih fun q hq => h q (List.mem_cons_of_mem _ hq))
theorem Dp.ext : ∀ {v : V} {d : PyData} {H' : Hp}, Dp G.K H v d → (∀ b o, H b = some o → H' b = some o) → Dp G.K H' v d
  | _, _, _, .non, _ => .non
  | _, _, _, .bl b, _ => .bl b
  | _, _, _, .int i, _ => .int i
  | _, _, _, .str x, _ => .str x
  | _, _, _, .lst h t, k => .lst (h.imp (fun h => h.imp (k _ _) fun ⟨o, h⟩ => ⟨o, k _ _ h⟩) id) (DpAll.ext t k)
  | _, _, _, .tup h t, k => .tup (h.imp (fun h => h.imp (k _ _) fun ⟨o, h⟩ => ⟨o, k _ _ h⟩) id) (DpAll.ext t k)
where DpAll.ext : ∀ {vs : List V} {ds : List PyData} {H' : Hp}, DpAll G.K H vs ds → (∀ b o, H b = some o → H' b = some o) → DpAll G.K H' vs ds
  | _, _, _, .nil, _ => .nil
  | _, _, _, .cons h t, k => .cons (Dp.ext h k) (DpAll.ext t k)
def rSetA (K : PySem.W.Frag) (w : World) : List V → Hp → VK → Prop := fun vs H Q => rSetN K w vs H Q ∨ rSetI K w vs H Q
def rSortSetA (K : PySem.W.Frag) (w : World) : List V → Hp → VK → Prop := fun vs H Q => rSortN K w vs H Q ∨ rSortedSet w vs H Q
theorem alike_of {ds : List D} {L1 : List (Addr × NestedKey)} (h : alikes ds = true) (hm : ∀ p ∈ L1, dOf p.2 ∈ ds) : W.AllAlike (L1.map encN) := by
  unfold alikes at h
  rw [List.all_eq_true] at h
  intro d hd e he
  obtain ⟨p, hp, rfl⟩ := List.mem_map.mp hd
  obtain ⟨q, hq, rfl⟩ := List.mem_map.mp he
  have z := List.all_eq_true.mp (h _ (hm p hp)) _ (hm q hq)
  rw [toPy_dOf, toPy_dOf] at z
  exact z
theorem sortSet_key {ds : List D} {L1 : List (Addr × NestedKey)} (hok : ds.all keyTup = true) (ha : alikes ds = true) (nd : (L1.map (·.2)).Nodup) (hm : ∀ d, d ∈ L1.map (fun p => dOf p.2) ↔ d ∈ ds) :
    (L1.mergeSort (W.dataLe false encN)).map (fun p => dOf p.2) = sortSet ds := by
  rw [W.sort_maps (r := W.dataLe false encN) (s := leD) (fun p : Addr × NestedKey => dOf p.2) fun a _ b _ => (leD_dOf a.2 b.2).symm]
  have inj : ∀ a b : NestedKey, dOf a = dOf b → a = b := fun a b e => by rw [← nkD_dOf a, e, nkD_dOf]
  have n2 : (L1.map fun p => dOf p.2).Nodup := by
    have : (L1.map fun p => dOf p.2) = (L1.map (·.2)).map dOf := by rw [List.map_map]; rfl
    rw [this]
    exact List.pairwise_map.mpr (nd.imp fun h e => h (inj _ _ e))
  rw [List.all_eq_true] at hok
  unfold alikes at ha
  rw [List.all_eq_true] at ha
  have an : ∀ a ∈ L1.map (fun p => dOf p.2), ∀ b ∈ L1.map (fun p => dOf p.2), leD a b = true → leD b a = true → a = b := fun a ma b mb h1 h2 => leD_anti (hok a ((hm a).mp ma)) (hok b ((hm b).mp mb)) (List.all_eq_true.mp (ha a ((hm a).mp ma)) b ((hm b).mp mb)) h1 h2
  rw [isort_merge leD_total _ an]
  exact isort_same leD_total (perm_nub n2 hm) an
/-- set, then sorted -/
theorem callS_sortSet {w : World} : CallS G E fSortSet (fun vs H Q => rSetA G.K w vs H fun v H1 => rSortSetA G.K w [v] H1 Q) := by
  intro E' as st H ds xs Q s r p
  unfold fSortSet at p
  split at p
  · rename_i d
    cases r with
    | cons r t =>
    cases t
    split at p
    · exact p.elim
    · rename_i ds hd
      obtain ⟨l, vs, rfl, hl, hr⟩ := colOf_sq s r hd
      split at p
      · rename_i is hi
        have ev := intsD_rel hr hi
        subst ev
        split at p
        · rename_i hc
          refine .inr ⟨l, is, rfl, hl, hc.1, fun a ha => .inr ⟨a, _, _, rfl, upd_same, hc.2, fun ns q h1 h2 h3 hq => ?_⟩⟩
          have e : ns = sortI is := sortI_of h1 fun k => (h2 k).trans (by simp)
          have hqa : q ≠ a := fun z => by rw [z, upd_same] at hq; cases hq
          have hqH : H q = none := by rw [upd_ne hqa] at hq; exact hq
          have w1 := RelW.newLst (s.laid ha (o := SetO w a (fun j => decide (j ∈ is)) (nub is).length)) (vs := (sortI is).map V.int) (ds := (sortI is).map D.int) (rel_ints _) hq
          rw [e]
          exact p as _ ((Ext.lay ha).trans (Ext.lay hq) s.len) ((s.laid ha).laid hq) _ (w1.from fun b hb => (by
            by_cases hba : b = a
            · rw [hba]; exact ha
            · rw [upd_ne hba] at hb; exact hb))
        · exact p.elim
      · split at p
        · rename_i hok
          unfold okKeys at hok
          simp only [Bool.and_eq_true, decide_eq_true_eq] at hok
          obtain ⟨⟨hlen, hkt⟩, hal⟩ := hok
          have hkt' := List.all_eq_true.mp hkt
          obtain ⟨ps, rfl, e2, hps⟩ := keys_of hr hkt'
          have memD : ∀ q ∈ ps, dOf q.2 ∈ ds := fun q hq => e2 ▸ List.mem_map.mpr ⟨q, hq, rfl⟩
          refine .inl ⟨l, ps, rfl, hl, fun q hq => (hps q hq).1, by rw [← List.length_map (f := fun p : Addr × NestedKey => dOf p.2), e2]; exact hlen, fun a L ha sub all nd => ?_⟩
          have old : ∀ b o, H b = some o → upd H a (SetNO w a L) b = some o := fun b o e => by rw [upd_ne (ne_of_none e ha)]; exact e
          refine .inl ⟨a, L, rfl, upd_same, fun q hq => ⟨Dp.ext (hps q (sub q hq)).1.1 old, (hps q (sub q hq)).1.2⟩, alike_of hal fun q hq => memD q (sub q hq), .inl fun d hd => ?_, fun q hq => ?_, fun L1 q p1 hq => ?_⟩
          · obtain ⟨q, hq, rfl⟩ := List.mem_map.mp hd
            obtain ⟨_, _, _, x, rr, e⟩ := keyTup_key (hps q (sub q hq)).2.2
            refine ⟨toPy x, toPys rr, ?_⟩
            show q.2.data = _
            rw [← toPy_dOf, e]; simp only [toPy, toPys]
          · have := (keyTup_key (hps q (sub q hq)).2.2).2.2.1
            rw [toPy_dOf] at this
            exact this
          · have ev := sortSet_key (L1 := L1) hkt hal ((p1.map (·.2)).nodup_iff.mpr nd) fun d => by
              constructor
              · intro hd
                obtain ⟨q, hq, rfl⟩ := List.mem_map.mp hd
                exact memD q (sub q (p1.mem_iff.mp hq))
              · intro hd
                rw [← e2] at hd
                obtain ⟨q, hq, rfl⟩ := List.mem_map.mp hd
                obtain ⟨q', hq', e'⟩ := List.mem_map.mp (all q hq)
                exact List.mem_map.mpr ⟨q', p1.mem_iff.mpr hq', by rw [e']⟩
            have eL : ∀ q ∈ L1.mergeSort (W.dataLe false encN), q ∈ ps := fun q hq => sub q (p1.mem_iff.mp ((List.mergeSort_perm _ _).mem_iff.mp hq))
            have w1 := RelW.newLst (s.laid ha (o := SetNO w a L)) (rels_map fun q hq => ((hps q (eL q hq)).2.1).ext (Ext.lay ha) s.len) hq
            rw [ev] at w1
            exact p as _ ((Ext.lay ha).trans (Ext.lay hq) s.len) ((s.laid ha).laid hq) _ (w1.from fun b hb => (by
              by_cases hba : b = a
              · rw [hba]; exact ha
              · rw [upd_ne hba] at hb; exact hb))
        · exact p.elim
  · exact p.elim
theorem callS_lenSet {w : World} : CallS G E fLenSet (fun vs H Q => rSetA G.K w vs H fun v H1 => rLenN w [v] H1 Q) := by
  intro E' as st H ds xs Q s r p
  unfold fLenSet at p
  split at p
  · rename_i d
    cases r with
    | cons r t =>
    cases t
    split at p
    · exact p.elim
    · rename_i ds hd
      obtain ⟨l, vs, rfl, hl, hr⟩ := colOf_sq s r hd
      split at p
      · rename_i hok
        simp only [Bool.and_eq_true, decide_eq_true_eq] at hok
        obtain ⟨hlen, hkt⟩ := hok
        obtain ⟨ps, rfl, e2, hps⟩ := keys_of hr (List.all_eq_true.mp hkt)
        have memD : ∀ q ∈ ps, dOf q.2 ∈ ds := fun q hq => e2 ▸ List.mem_map.mpr ⟨q, hq, rfl⟩
        refine .inl ⟨l, ps, rfl, hl, fun q hq => (hps q hq).1, by rw [← List.length_map (f := fun p : Addr × NestedKey => dOf p.2), e2]; exact hlen, fun a L ha sub all nd => ⟨a, L, rfl, upd_same, ?_⟩⟩
        have inj : ∀ a b : NestedKey, dOf a = dOf b → a = b := fun a b e => by rw [← nkD_dOf a, e, nkD_dOf]
        have n2 : (L.map fun p => dOf p.2).Nodup := by
          have : (L.map fun p => dOf p.2) = (L.map (·.2)).map dOf := by rw [List.map_map]; rfl
          rw [this]
          exact List.pairwise_map.mpr (nd.imp fun h e => h (inj _ _ e))
        have pm := perm_nub (m := ds) n2 fun d => by
          constructor
          · intro hd
            obtain ⟨q, hq, rfl⟩ := List.mem_map.mp hd
            exact memD q (sub q hq)
          · intro hd
            rw [← e2] at hd
            obtain ⟨q, hq, rfl⟩ := List.mem_map.mp hd
            obtain ⟨q', hq', e'⟩ := List.mem_map.mp (all q hq)
            exact List.mem_map.mpr ⟨q', hq', by rw [e']⟩
        have el : L.length = (nub ds).length := by rw [← pm.length_eq, List.length_map]
        rw [el]
        exact p as _ (Ext.lay ha) (s.laid ha) _ (.int _)
      · exact p.elim
  · exact p.elim
/-- sorted of a list -/
theorem pairs_of : ∀ {ds : List D} {vs : List V}, RelDs G as L H ds vs → (∀ d ∈ ds, isPy d = true) →
    ∃ ps : List (V × D), vs = ps.map (·.1) ∧ ps.map (·.2) = ds ∧ ∀ p ∈ ps, RelD G as L H p.2 p.1
  | _, _, .nil, _ => ⟨[], rfl, rfl, fun p h => (by cases h)⟩
  | _, _, .cons (d := d) (v := v) r t, h => by
    obtain ⟨ps, e1, e2, e3⟩ := pairs_of t fun x hx => h x (List.mem_cons_of_mem _ hx)
    refine ⟨(v, d) :: ps, by rw [e1]; rfl, by rw [List.map_cons, e2], fun p hp => ?_⟩
    rcases List.mem_cons.mp hp with rfl | hp
    · exact r
    · exact e3 p hp
theorem rels_pairs {M : List (V × D)} (h : ∀ p ∈ M, RelD G as L H p.2 p.1) : RelDs G as L H (M.map (·.2)) (M.map (·.1)) := by
  induction M with
  | nil => exact .nil
  | cons p M ih => exact .cons (h p List.mem_cons_self) (ih fun q hq => h q (List.mem_cons_of_mem _ hq))
theorem plainD_py {d : D} (h : plainD d = true) : isPy d = true ∧ (toPy d).depth ≤ 30 ∧ toPy d ≠ .none ∧ ∀ xs, toPy d ≠ .tuple xs := by
  unfold plainD at h
  split at h
  · exact ⟨by simp [isPy], by simp [toPy, PyData.depth], by simp [toPy], fun xs => by simp [toPy]⟩
  · exact ⟨by simp [isPy], by simp [toPy, PyData.depth], by simp [toPy], fun xs => by simp [toPy]⟩
  · exact ⟨by simp [isPy], by simp [toPy, PyData.depth], by simp [toPy], fun xs => by simp [toPy]⟩
  · simp only [Bool.and_eq_true, decide_eq_true_eq] at h
    exact ⟨by simp only [isPy]; exact h.1, h.2, by simp [toPy], fun xs => by simp [toPy]⟩
  · cases h
theorem fullTup_py {d : D} (h : fullTup d = true) : isPy d = true ∧ (toPy d).depth ≤ 30 ∧ ∃ x r, toPy d = .tuple (x :: r) := by
  unfold fullTup at h
  split at h
  · rename_i d ds
    simp only [Bool.and_eq_true, decide_eq_true_eq] at h
    exact ⟨by simp only [isPy]; exact h.1, h.2, toPy d, toPys ds, by simp only [toPy, toPys]⟩
  · cases h
theorem callS_sorted : CallS G E fSorted (rSortD G.K) := by
  intro E' as st H ds xs Q s r p
  unfold fSorted at p
  split at p
  · rename_i d
    cases r with
    | cons r t =>
    cases t
    split at p
    · exact p.elim
    · rename_i ds src hd
      obtain ⟨l, vs, rfl, hl, hr⟩ := lstOf_sq s r hd
      split at p
      · rename_i hok
        unfold okSort at hok
        rw [Bool.and_eq_true, Bool.and_eq_true, Bool.or_eq_true] at hok
        obtain ⟨⟨hkind, hal⟩, han⟩ := hok
        have an : ∀ a ∈ ds, ∀ b ∈ ds, leD a b = true → leD b a = true → a = b := fun a ma b mb h1 h2 => by
          have z := List.all_eq_true.mp (List.all_eq_true.mp han a ma) b mb
          rw [h1, h2] at z
          simpa using z
        have py : ∀ d ∈ ds, isPy d = true ∧ (toPy d).depth ≤ 30 := fun d hd => by
          rcases hkind with h | h
          · have := plainD_py (List.all_eq_true.mp h d hd); exact ⟨this.1, this.2.1⟩
          · have := fullTup_py (List.all_eq_true.mp h d hd); exact ⟨this.1, this.2.1⟩
        obtain ⟨ps, rfl, e2, hps⟩ := pairs_of hr fun d hd => (py d hd).1
        have memD : ∀ q ∈ ps, q.2 ∈ ds := fun q hq => e2 ▸ List.mem_map.mpr ⟨q, hq, rfl⟩
        have em : (ps.map fun q => (q.1, toPy q.2)).map (·.1) = ps.map (·.1) := by rw [List.map_map]; rfl
        refine ⟨l, ps.map fun q => (q.1, toPy q.2), rfl, by rw [em]; exact hl, fun q hq => ?_, fun d hd e he => ?_, ?_, fun q hq => ?_, fun x hx => ?_⟩
        · obtain ⟨q', hq', rfl⟩ := List.mem_map.mp hq
          exact (hps q' hq').dp (py _ (memD q' hq')).1
        · rw [List.map_map] at hd he
          obtain ⟨q, hq, rfl⟩ := List.mem_map.mp hd
          obtain ⟨q', hq', rfl⟩ := List.mem_map.mp he
          unfold alikes at hal
          rw [List.all_eq_true] at hal
          exact List.all_eq_true.mp (hal _ (memD q hq)) _ (memD q' hq')
        · rcases hkind with h | h
          · refine .inr fun d hd => ?_
            rw [List.map_map] at hd
            obtain ⟨q, hq, rfl⟩ := List.mem_map.mp hd
            exact (plainD_py (List.all_eq_true.mp h _ (memD q hq))).2.2
          · refine .inl fun d hd => ?_
            rw [List.map_map] at hd
            obtain ⟨q, hq, rfl⟩ := List.mem_map.mp hd
            exact (fullTup_py (List.all_eq_true.mp h _ (memD q hq))).2.2
        · obtain ⟨q', hq', rfl⟩ := List.mem_map.mp hq
          exact (py _ (memD q' hq')).2
        · have s1 : ((ps.map fun q => (q.1, toPy q.2)).mergeSort (W.dataLe false encV)) = (ps.mergeSort fun a b => leD a.2 b.2).map fun q => (q.1, toPy q.2) :=
            (W.sort_maps (r := fun a b : V × D => leD a.2 b.2) (s := W.dataLe false encV) (fun q : V × D => (q.1, toPy q.2)) fun a _ b _ => rfl).symm
          have s2 : (ps.mergeSort fun a b => leD a.2 b.2).map (·.2) = isort leD ds := by
            rw [W.sort_maps (r := fun a b : V × D => leD a.2 b.2) (s := leD) (fun q : V × D => q.2) fun a _ b _ => rfl, e2, isort_merge leD_total _ an]
          rw [s1, List.map_map]
          have w1 := RelW.newLst s (rels_pairs fun q hq => hps q ((List.mergeSort_perm ps fun a b => leD a.2 b.2).mem_iff.mp hq)) hx
          rw [s2] at w1
          exact p as _ (Ext.lay hx) (s.laid hx) _ w1
      · exact p.elim
  · exact p.elim
variable {σ : L2.St} {Q : VK} {e : Expr} {pos p1 p2 : Pos} {m : EM} {ma : AM}
theorem tI_two {f : List D → Store → Res Wv} {r1 r2 : List V → Hp → VK → Prop} (hs : CallS G E f fun vs H Q => r1 vs H fun v H1 => r2 [v] H1 Q) (h : tI G E (evA f ma) σ H Q) : tCB r2 (tCons (tCB r1 (tAr G E ma)) tNil) σ H Q := by
  have z : tCB (fun vs H Q => r1 vs H fun v H1 => r2 [v] H1 Q) (tAr G E ma) σ H Q := tI_evA hs h
  exact z
theorem pI_sortSet {x1 x2 : Str} {pp : Pos} (ex1 : x1 = "sorted" := by rfl) (ex2 : x2 = "set" := by rfl) (hc : X.calm = true) (hu : X.A.units + 64 < cLine) (hK : G.K = X.K) (hg : Gl X "sorted") (hm : X.mg "sorted" = none) (hg2 : Gl X "set") (hm2 : X.mg "set" = none) (ha : PA X [e] (tAr G E ma))
    (he : starEach [e] X.env = (false, eval e X.env) :: starEach [] X.env := by rfl) : PE X (.Call (.Name "sorted" p1) [.Call (.Name "set" p2) [e] [] pp] [] pos) (tI G E (evA fSortSet ma)) := by
  have i1 := pe_callTy (pos := pp) (p := p2) (callR_or (cr_setN hc hu) (cr_setI hc)) hg2 hm2 (by decide +kernel) ha (by decide) (by decide) he rfl
  have i2 := pe_callB (pos := pos) (p := p1) (callR_or (cr_sortedN hc hu) (cr_sortedSet hc)) hg hm (by decide +kernel) (pa_cons i1 pa_nil (by rfl)) (by decide) (by decide) (by rfl) (by rfl)
  rw [← hK] at i2
  exact i2.vi fun _ _ _ => tI_two (callS_sortSet (w := X.w))
theorem pI_lenSet {pp : Pos} (hc : X.calm = true) (hu : X.A.units + 64 < cLine) (hK : G.K = X.K) (hg : Gl X "len") (hm : X.mg "len" = none) (hg2 : Gl X "set") (hm2 : X.mg "set" = none) (ha : PA X [e] (tAr G E ma))
    (he : starEach [e] X.env = (false, eval e X.env) :: starEach [] X.env := by rfl) : PE X (.Call (.Name "len" p1) [.Call (.Name "set" p2) [e] [] pp] [] pos) (tI G E (evA fLenSet ma)) := by
  have i1 := pe_callTy (pos := pp) (p := p2) (callR_or (cr_setN hc hu) (cr_setI hc)) hg2 hm2 (by decide +kernel) ha (by decide) (by decide) he rfl
  have i2 := pe_callB (pos := pos) (p := p1) (cr_lenN (X := X)) hg hm (by decide +kernel) (pa_cons i1 pa_nil (by rfl)) (by decide) (by decide) (by rfl) (by rfl)
  rw [← hK] at i2
  exact i2.vi fun _ _ _ => tI_two (callS_lenSet (w := X.w))
end
end VI
namespace VI
open PySem PySem.Spec PyProof.Rows L2
/-! ### try .. except x as n, the error tracked from then on -/
section
variable {X : Cx} {pins : List (Addr × Obj)} {σ : L2.St} {H : Hp} {sI s s' : Shared} {B : Heap} {a : Addr} {o : HO}
/-- landed, and the error at a is one of ours -/
theorem landed_as (I : Inv X pins σ H sI) (nb : ∀ b u, sI.heap.get? b = some u → b ∉ frs X.stack → B.get? b = some u) (st : B.StaysIn s'.heap) (up : sI.heap.UpToSlots s'.heap) (os : s'.os = sI.os) (ag : AllBare s'.gens)
    (hB : B.get? a = none) (nfr : a ∉ frs X.stack) (na : H a = none) (new : ObjOk X.prog X.w (upd H a o) s'.heap a o) : Inv X pins σ (upd H a o) s' := by
  have gone : sI.heap.get? a = none := by
    cases q : sI.heap.get? a with
    | none => rfl
    | some u => rw [nb a u q nfr] at hB; cases hB
  have ne : ∀ b u, sI.heap.get? b = some u → b ≠ a := fun b u q z => by rw [z, gone] at q; cases q
  have slots : ∀ b ∈ frs X.stack, ∀ u, sI.heap.get? b = some u → ∃ sl, s'.heap.get? b = some { u with slots := sl } := fun b hb u e => by
    obtain ⟨_, v, e', hd⟩ := I.stack.mem hb
    rw [e] at e'; cases e'
    exact up b u e hd
  have J := I.call (ch := []) (h' := s'.heap) (g' := s'.gens) (t' := s'.toks) (d' := s'.drawn) (H' := upd H a o)
    ⟨fun b u e _ hb _ => st b u (nb b u e hb), fun b u e _ hb _ => slots b hb u e, fun b u e n _ => by rw [upd_ne (ne b u e)]; exact n, fun b u e _ => by
      by_cases hb : b ∈ frs X.stack
      · obtain ⟨sl, q⟩ := slots b hb u e
        exact ⟨_, q⟩
      · exact ⟨u, st b u (nb b u e hb)⟩, fun b xs e => by rw [upd_ne (ne_of_none e na)]; exact e, fun b u v e => by rw [upd_ne (ne_of_none e na)]; exact e, fun b ps e => ⟨#[], by rw [upd_ne (ne_of_none e na), e]; simp⟩⟩
    (((I.inGround nb).kept st).laidN (fun b u q => q) na new) ag (fun _ z => nomatch z)
  obtain ⟨a1, a2, a3, a4, a5⟩ := s'
  obtain rfl : a5 = sI.os := os
  exact J
theorem inSuite (I : Inv X pins σ H s) (a : Addr) : Inv (X.suite a (X.pn ++ pins)) [] σ H s :=
  ⟨I.ok.suite _ _, I.os, I.bare, I.base, I.loc, I.cell, I.free, I.freeC, fun p hp => I.pin p (by rw [List.append_nil] at hp; exact hp), I.hok, I.len⟩
theorem outSuite {pn' : List (Addr × Obj)} (I : Inv (X.suite a (X.pn ++ pins)) pn' σ H s) (ok : X.Ok) : Inv X pins σ H s :=
  ⟨ok, I.os, I.bare, I.base, I.loc, I.cell, I.free, I.freeC, fun p hp => I.pin p (List.mem_append_left _ hp), I.hok, I.len⟩
end
/-- what the clause wishes: the error stands tracked in slot i -/
def wKeep (K : PySem.W.Frag) (c : Value) (i : Nat) (ts : TS) (Wout : WX) (De : Ends) : WX := fun cls d σ H =>
  ∃ b, PySem.W.exmOne K cls c = some b ∧ (b = true → ∀ a, H a = none → ts { nx := fun σ' H' => De.nx (σ'.set i none) H', rt := De.rt, bk := fun σ' H' => De.bk (σ'.set i none) H', ct := fun σ' H' => De.ct (σ'.set i none) H' } (σ.set i (some (.ref a))) (upd H a (ErrO cls d a))) ∧
    (b = false → Wout cls d σ H)
section
variable {X : Cx} {x n : Str} {c : Value} {i : Nat} {body rest : List Stmt} {b₀ : Stmt} {np pos pos' : Pos} {tb : WX → TS} {ts : TS} {Wout : WX}
theorem ps_try_keep (hs : X.stack = X.env :: X.outer) (hf : X.env.frame = some X.env.locals) (hN : X.N.Nodup) (hi : X.N[i]? = some n) (hln : X.env.kindOf n = some .local) (hc : Names X x c) (tk : Takes X Wout)
    (hb : ∀ (W : WX) (pn : List (Addr × Obj)) (xe : Value → Shared → Prop), Takes (X.tr pn xe) W → PassesOwn (model X.prog X.w) X.A X.env xe → PSs (X.tr pn xe) body (tb W))
    (hsu : ∀ (a : Addr) (pn : List (Addr × Obj)), PSs (X.suite a pn) (b₀ :: rest) ts) :
    PS X (.Try body [.ExceptHandler (some (.Name x np)) (some n) (b₀ :: rest) pos'] [] [] pos) (fun De σ H => tb (wKeep X.K c i ts Wout De) De σ H) := by
  refine ⟨fun pins s σ H De I h => ?_⟩
  have ok := I.ok
  have frames : X.A.frames = some (X.env :: X.outer) := by rw [ok.frames, hs]
  have loc1 : Loc X.env.scope n := .inl hln
  refine wpAny_Try_except ?_
  refine wpAny_mono ((hb (wKeep X.K c i ts Wout De) (X.pn ++ pins) (fun e s₁ => wpAny (model X.prog X.w) X.A (noteFrame e X.env) (fun _ s₂ => wpAny (model X.prog X.w) X.A (setFlight e none) (fun _ s₃ =>
    wpAny (model X.prog X.w) X.A (handleBy e X.env [.ExceptHandler (some (.Name x np)) (some n) (b₀ :: rest) pos']) (SP X pins De) X.xe s₃) X.xe s₂) X.xe s₁) (fun u t xx => ?_) PassesOwn.looking).run [] s σ H De (I.toTry _) h) (fun f s1 end1 => ?_) (fun e s1 he => he)
  · obtain ⟨a, B, sI, pins', σ', H', cls, d, rfl, J', nb, up, sky, na, os, ag, b, hb1, yes, no⟩ := xx
    have J : Inv X pins σ' H' sI := J'.ofTry ok
    have sky1 : Sky B (X.env :: X.outer) a (Zc cls d) X.env.locals t.heap := by rw [← hs]; exact sky
    show wpAny (model X.prog X.w) X.A (noteFrame (.ref a) X.env) _ _ _
    refine Sky.land Zc.steady frames hf sky1 fun h3 fl3 up3 => ?_
    have J3 : Inv X pins σ' H' { t with heap := h3 } := J.landed nb fl3.1 (up.trans up3) os ag
    obtain ⟨oe3, vs3, he3, hz3, hd3⟩ := fl3.there
    have hB : B.get? a = none := fl3.2.1
    have nfr : a ∉ frs X.stack := fun hm => by
      rw [hs] at hm
      obtain ⟨_, ob, e', hnf⟩ := fl3.2.2.1.mem hm
      rw [he3] at e'; cases e'
      exact hnf _ hd3
    have look : ∀ {h : Heap} {oe : Obj} {vs : Array Value}, HandSPX.FlyingZ B (X.env :: X.outer) a (Zc cls d) h → sI.heap.UpToSlots h → h.get? a = some oe → Zc cls d oe → oe.data = .fields vs → Inv (X.suite a (X.pn ++ pins)) [] σ' (upd H' a (ErrO cls d a)) { t with heap := h } := fun fl u2 e z dd =>
      inSuite (landed_as (s' := { t with heap := _ }) J nb fl.1 u2 os ag hB nfr na (errO_ok e z dd)) a
    have S3 := look fl3 (up.trans up3) he3 hz3 hd3
    refine wpAny_handleBy_cons (codeAny_handlers_test ?_) (by intro q; cases q)
    have LT : PySem.W.Looks (model X.prog X.w) h3 (typeOf (.ref a)) cls := fun A Q E s k q => wpAny_typeOf_ref (k _ _ he3) (by rw [hz3.1]; exact q)
    have LM := PySem.W.exm_one (M := model X.prog X.w) (J3.kIn) LT hb1
    have named : ∀ {Q : Value → Shared → Prop} {E : Value → Shared → Prop}, Q c { t with heap := h3 } → wpAny (model X.prog X.w) (X.A.mark (some (.ref a))) (eval (.Name x np) X.env) Q E { t with heap := h3 } := fun {Q E} q => by
      obtain ⟨hg, hdbg, hm | ⟨hm, hv, hnn⟩⟩ := hc
      · exact ld_glob (X := X.suite a (X.pn ++ pins)) S3 hg hm q hdbg
      · exact ld_blt (X := X.suite a (X.pn ++ pins)) S3 hg hm hv q hnn hdbg
    refine named (LM.here ?_)
    cases b with
    | true =>
      refine codeAny_handlers_suite_as (HandSPX.lands_againZ fl3 fun h4 fl4 up4 => ?_)
      obtain ⟨oe4, vs4, he4, hz4, hd4⟩ := fl4.there
      have S4 := look fl4 ((up.trans up3).trans up4) he4 hz4 hd4
      refine store_ok (X := X.suite a (X.pn ++ pins)) (v := .ref a) S4 hN hi loc1 rfl (fun s5 S5 => ?_) (.inr hln)
      refine wpAny_mono ((hsu a (X.pn ++ pins)).run [] s5 _ _ _ S5 (yes rfl a na)) (fun f s6 end6 => ?_) (fun _ _ z => False.elim z)
      have over : ∀ {σ6 : L2.St} {H6 : Hp} {pn6 : List (Addr × Obj)} {Q : Shared → Prop}, Inv (X.suite a (X.pn ++ pins)) pn6 σ6 H6 s6 → (∀ s7, Inv X pins (σ6.set i none) H6 s7 → Q s7) →
          wpAny (model X.prog X.w) X.A (do bindName X.env n .none; unbindBehindTheSuite X.env n pos') (fun _ s7 => Q s7) X.xe s6 := fun {σ6 H6 pn6 Q} S6 hq => gone_ok (outSuite S6 ok) hN hi hln hq
      cases f with
      | next =>
        obtain ⟨σ6, H6, S6, q6⟩ := end6
        exact over S6 fun s7 J7 => ⟨_, _, J7, q6⟩
      | brk =>
        obtain ⟨σ6, H6, S6, q6⟩ := end6
        exact over S6 fun s7 J7 => ⟨_, _, J7, q6⟩
      | cont =>
        obtain ⟨σ6, H6, S6, q6⟩ := end6
        exact over S6 fun s7 J7 => ⟨_, _, J7, q6⟩
      | ret u =>
        obtain ⟨v6, σ6, H6, S6, r6, q6⟩ := end6
        exact over S6 fun s7 J7 => ⟨_, _, _, J7, r6, q6⟩
    | false =>
      show wpAny _ X.A (handleBy (.ref a) X.env []) _ _ _
      refine wpAny_handleBy_nil ?_
      obtain ⟨k1, k2, k3, oe, vs, T, oT, tt, he, hz, hd, h1, hr⟩ := id fl3
      unfold PySem.passOn
      refine wpAny_bind (wpAny_field he hd h1 ?_)
      rw [if_neg (show ¬ ((Value.ref T == Value.none) = true) from by simp)]
      have on : wpAny (model X.prog X.w) X.A (setFlight (.ref a) X.env.frame) (fun _ s4 => wpAny (model X.prog X.w) X.A (throw (.ref a) : Sem Flow) (SP X pins De) X.xe s4) X.xe { t with heap := h3 } := by
        rw [hf]
        refine HandSPX.setFlight_upZ fl3 fun h4 hh4 up4 => wpAny_throw (tk _ _ ?_)
        exact ⟨a, B, sI, pins, σ', H', cls, d, rfl, J, nb, (up.trans up3).trans up4, .inr (.inr (by rw [hs]; exact hh4)), na, os, ag, no rfl⟩
      first
        | exact wpAny_bind (wpAny_pure (wpAny_bind on))
        | exact wpAny_bind on
  · cases f with
    | next =>
      obtain ⟨σ', H', J', q⟩ := end1
      exact wpAny_execs_nil ⟨σ', H', J'.ofTry ok, q⟩
    | brk =>
      obtain ⟨σ', H', J', q⟩ := end1
      exact ⟨σ', H', J'.ofTry ok, q⟩
    | cont =>
      obtain ⟨σ', H', J', q⟩ := end1
      exact ⟨σ', H', J'.ofTry ok, q⟩
    | ret u =>
      obtain ⟨v, σ', H', J', r, q⟩ := end1
      exact ⟨v, σ', H', J'.ofTry ok, r, q⟩
end
end VI
namespace VI
open PySem PySem.Spec PyProof.Rows L2
/-! ### errors by value -/
def errD (c : String) (r : Option D) : D := match r with
  | none => .dic [(.cl c, .non)]
  | some d => .dic [(.cl c, .tup [d])]
/-- own classes, built-in classes -/
def lookE (l : List (String × String × Bool)) (c k : String) : Option Bool := (l.find? fun t => decide (t.1 = c) && decide (t.2.1 = k)).map (·.2.2)
theorem lookE_of {l : List (String × String × Bool)} {P : String → String → Bool → Prop} (h : ∀ t ∈ l, P t.1 t.2.1 t.2.2) {c k : String} {b : Bool} (e : lookE l c k = some b) : P c k b := by
  unfold lookE at e
  cases q : l.find? fun t => decide (t.1 = c) && decide (t.2.1 = k) with
  | none => rw [q] at e; cases e
  | some t =>
    rw [q] at e
    cases e
    have h1 := List.find?_some q
    simp only [Bool.and_eq_true, decide_eq_true_eq] at h1
    have := h t (List.mem_of_find?_eq_some q)
    rw [h1.1, h1.2] at this
    exact this
def hitE (l : List (String × Bool)) (c : String) : Option Bool := (l.find? fun t => decide (t.1 = c)).map (·.2)
theorem hitE_of {l : List (String × Bool)} {P : String → Bool → Prop} (h : ∀ t ∈ l, P t.1 t.2) {c : String} {b : Bool} (e : hitE l c = some b) : P c b := by
  unfold hitE at e
  cases q : l.find? fun t => decide (t.1 = c) with
  | none => rw [q] at e; cases e
  | some t =>
    rw [q] at e
    cases e
    have h1 := List.find?_some q
    simp only [decide_eq_true_eq] at h1
    have := h t (List.mem_of_find?_eq_some q)
    rw [h1] at this
    exact this
def sRaise (c : String) : SM := fun env st => .exc env ⟨c, none⟩ st
def slotNone (i : Nat) : SRes → SRes
  | .nx e st => .nx (e.set i none) st
  | .ret w st => .ret w st
  | .brk e st => .brk (e.set i none) st
  | .cnt e st => .cnt (e.set i none) st
  | _ => .stuck
/-- try: b / except (hits) as slot i: s -/
def sTry (i : Nat) (hits : List (String × Bool)) (b s : SM) : SM := fun env st => match b env st with
  | .exc env1 x st1 => match hitE hits x.cls with
    | some true => slotNone i (s (env1.set i (some (errD x.cls x.row))) st1)
    | some false => .exc env1 x st1
    | none => .stuck
  | r => r
section
variable {X : Cx} {G : Gx} {W : WX} {as as' : List Addr} {st st' : Store} {H : Hp} {L : Addr → Prop} {De : Ends} {σ : L2.St}
theorem pS_raise {c : String} {C : Addr} {bmB : List Value} {B newId initId : String} {x m : Str} {j : Nat} {p p2 p3 pos : Pos} (hcalm : X.calm = true) (tk : Takes X W) (hcm : G.cm c = some C) (F : ExcBaseFacts B newId initId bmB) (q : PySem.W.excIn X.K C bmB newId = true)
    (gC : X.mg x = some (.ref C)) (kC : PySem.W.keepIn X.K (.ref C) = true) (r : Raises X (.ref C)) (hg : Gl X x) (hdb : (x == ("__debug__" : Str)) = false := by decide) :
    PS X (.Raise (some (.Call (.Name x p) [.Constant (.str m) j p2] [] p3)) none pos) (tS G W (sRaise c)) :=
  (ps_raise hcalm tk (pmk_own F q gC kC r hg hdb)).vi fun De σ H ⟨as, st, env, s, er, p⟩ => p as H σ _ none Ext.rfl' s er ⟨C, hcm, rfl, rfl⟩
theorem relErr {as1 : List Addr} {st1 : Store} {H1 : Hp} {x : EX} {cv : Value} {xd : Option Addr} {a : Addr} (s : StR G as1 st1 H1) (rx : RelX G as1 st1 H1 x cv xd) (na : H1 a = none) :
    RelD G as1 (Live as1 st1) (upd H1 a (ErrO cv xd a)) (errD x.cls x.row) (.ref a) := by
  obtain ⟨C, hcm, rfl, hr⟩ := rx
  have nl : ¬ Live as1 st1 a := fun ⟨i, _, h1, _⟩ => notLive s na i h1
  unfold errD
  cases q : x.row with
  | none =>
    rw [q] at hr
    subst hr
    exact .err hcm upd_same nl
  | some d =>
    rw [q] at hr
    obtain ⟨p, v, rfl, hp, np, rd⟩ := hr
    exact .errR hcm upd_same nl (by rw [upd_ne (ne_of_none hp na)]; exact hp) np (rd.ext (Ext.lay na) s.len)
theorem tS_try {c : Value} {i : Nat} {hits : List (String × Bool)} {b t : SM} (hh : ∀ t ∈ hits, ∀ C, G.cm t.1 = some C → PySem.W.exmOne G.K (.ref C) c = some t.2) (h : tS G W (sTry i hits b t) De σ H) :
    tS G (wKeep G.K c i (tS G E0w t) W De) b De σ H := by
  obtain ⟨as, st, env, s, er, p⟩ := h
  refine ⟨as, st, env, s, er, ?_⟩
  unfold sTry at p
  cases q : b env st with
  | nx e st1 => simp only [q] at p; exact p
  | ret w st1 => simp only [q] at p; exact p
  | brk e st1 => simp only [q] at p; exact p
  | cnt e st1 => simp only [q] at p; exact p
  | stuck => simp only [q] at p; exact p.elim
  | exc env1 x st1 =>
    simp only [q] at p
    intro as1 H1 σ1 cv xd e1 s1 er1 rx
    cases qh : hitE hits x.cls with
    | none => simp only [qh] at p; exact p.elim
    | some r =>
      simp only [qh] at p
      obtain ⟨C, hcm, hcv, hrow⟩ := id rx
      refine ⟨r, by rw [hcv]; exact hitE_of (P := fun k r => ∀ C, G.cm k = some C → PySem.W.exmOne G.K (.ref C) c = some r) hh qh C hcm, fun hr a na => ?_, fun hr => ?_⟩
      · subst hr
        have rd := relErr s1 rx na
        refine ⟨as1, st1, env1.set i (some (errD x.cls x.row)), s1.laid na, (er1.ext (Ext.lay na) s1.len).set rd i, ?_⟩
        simp only at p
        cases qs : t (env1.set i (some (errD x.cls x.row))) st1 with
        | nx e st2 =>
          rw [qs] at p
          exact fun as2 H2 σ2 e2 s2 er2 => p as2 H2 _ ((e1.trans (Ext.lay na) s.len).trans e2 s.len) s2 (er2.unset i)
        | ret w st2 =>
          rw [qs] at p
          exact fun as2 H2 v e2 s2 r2 => p as2 H2 v ((e1.trans (Ext.lay na) s.len).trans e2 s.len) s2 (r2.from (fresh_of (e1.trans (Ext.lay na) s.len)))
        | brk e st2 =>
          rw [qs] at p
          exact fun as2 H2 σ2 e2 s2 er2 => p as2 H2 _ ((e1.trans (Ext.lay na) s.len).trans e2 s.len) s2 (er2.unset i)
        | cnt e st2 =>
          rw [qs] at p
          exact fun as2 H2 σ2 e2 s2 er2 => p as2 H2 _ ((e1.trans (Ext.lay na) s.len).trans e2 s.len) s2 (er2.unset i)
        | exc e y st2 => rw [qs] at p; exact p.elim
        | stuck => rw [qs] at p; exact p.elim
      · subst hr
        exact p as1 H1 σ1 cv xd e1 s1 er1 rx
theorem pS_try {x n : Str} {c : Value} {i : Nat} {body rest : List Stmt} {b₀ : Stmt} {np pos pos' : Pos} {hits : List (String × Bool)} {b t : SM} (hs : X.stack = X.env :: X.outer) (hf : X.env.frame = some X.env.locals) (hN : X.N.Nodup) (hi : X.N[i]? = some n) (hln : X.env.kindOf n = some .local) (hc : Names X x c) (tk : Takes X W) (hK : G.K = X.K)
    (hh : ∀ t ∈ hits, ∀ C, G.cm t.1 = some C → PySem.W.exmOne G.K (.ref C) c = some t.2)
    (hb : ∀ (W : WX) (pn : List (Addr × Obj)) (xe : Value → Shared → Prop), Takes (X.tr pn xe) W → PassesOwn (model X.prog X.w) X.A X.env xe → PSs (X.tr pn xe) body (tS G W b))
    (hsu : ∀ (a : Addr) (pn : List (Addr × Obj)), PSs (X.suite a pn) (b₀ :: rest) (tS G E0w t)) :
    PS X (.Try body [.ExceptHandler (some (.Name x np)) (some n) (b₀ :: rest) pos'] [] [] pos) (tS G W (sTry i hits b t)) :=
  (ps_try_keep hs hf hN hi hln hc tk hb hsu).vi fun De σ H h => by rw [← hK]; exact tS_try hh h

/-! ### isinstance of an error -/
def rIsErr (K : PySem.W.Frag) : List V → Hp → VK → Prop := fun xs H Q => ∃ (a D : Addr) (c : V) (cv : Value) (b : Bool), xs = [.ref a, c] ∧ H a = some (ErrO (.ref D) none a) ∧ ExcC K D ∧ (∀ u, RelV c u → u = cv) ∧ PySem.W.kitOne K (.ref D) cv = some b ∧ Q (.bl b) H
theorem call_isErr : CallR X (.builtin "isinstance") (rIsErr X.K) := by
  intro pins s σ H xs us Q I r h
  obtain ⟨a, D, c, cv, b, rfl, ha, C, hcv, e, q⟩ := h
  cases r with
  | cons rx rr =>
    cases rr with
    | cons rt rr =>
      cases rr
      cases rx
      have ec := hcv _ rt
      subst ec
      obtain ⟨oe, vs, hget, hz, hv⟩ := (I.hok a _ ha).1
      have J : PySem.W.InstAt s.heap a oe D none := by
        obtain ⟨oc, od, oda, osl⟩ := oe
        obtain ⟨h1, h2⟩ := hz
        dsimp only at h1 h2 hv
        subst h1 h2 hv
        exact ⟨hget, rfl, rfl, trivial⟩
      exact PySem.W.kia_one (PySem.W.handS_kitx_exc C.hg C.hk C.hs C.hd C.ha C.hn C.ht C.hm) I.kIn J e (fun z => nomatch z) fun tk => ⟨.bl b, H, I.kept (t' := tk) fun _ _ z => z, rfl, q⟩
def fIsE (lc lt : List (String × String × Bool)) (ds : List D) (st : Store) : Res Wv := match ds with
  | [.dic [(.cl c, .non)], .cl k] => match lookE lc c k with
    | some b => .ok (.val (.bl b)) st
    | none => .stuck
  | [.dic [(.cl c, .non)], .ty k] => match lookE lt c k with
    | some b => .ok (.val (.bl b)) st
    | none => .stuck
  | _ => .stuck
theorem callS_isE {lc lt : List (String × String × Bool)} (hc : ∀ t ∈ lc, ∀ C C', G.cm t.1 = some C → G.cm t.2.1 = some C' → ExcC G.K C ∧ PySem.W.kitOne G.K (.ref C) (.ref C') = some t.2.2)
    (ht : ∀ t ∈ lt, ∀ C, G.cm t.1 = some C → ExcC G.K C ∧ PySem.W.kitOne G.K (.ref C) (.type t.2.1) = some t.2.2) : CallS G W (fIsE lc lt) (rIsErr G.K) := by
  intro E' as st H ds xs Q s r p
  unfold fIsE at p
  split at p
  · rename_i c k
    cases r with
    | cons r t =>
    cases t with
    | cons r2 t =>
    cases t
    cases r2 with
    | cl h2 =>
    cases r with
    | dic hd _ => exact hd.noCl.elim
    | err h1 ha nl =>
    split at p
    · rename_i b hb
      obtain ⟨x1, x2⟩ := lookE_of (P := fun c k b => ∀ C C', G.cm c = some C → G.cm k = some C' → ExcC G.K C ∧ PySem.W.kitOne G.K (.ref C) (.ref C') = some b) hc hb _ _ h1 h2
      exact ⟨_, _, _, _, b, rfl, ha, x1, fun u hu => hu, x2, p.now s _ (.bl _)⟩
    · exact p.elim
  · rename_i c k
    cases r with
    | cons r t =>
    cases t with
    | cons r2 t =>
    cases t
    cases r2 with
    | ty _ =>
    cases r with
    | dic hd _ => exact hd.noCl.elim
    | err h1 ha nl =>
    split at p
    · rename_i b hb
      obtain ⟨x1, x2⟩ := lookE_of (P := fun c k b => ∀ C, G.cm c = some C → ExcC G.K C ∧ PySem.W.kitOne G.K (.ref C) (.type k) = some b) ht hb _ h1
      exact ⟨_, _, _, _, b, rfl, ha, x1, fun u hu => hu, x2, p.now s _ (.bl _)⟩
    · exact p.elim
  · exact p.elim
end

/-! ### defs that may raise -/
def evCallX (n : Nat) (f : FnSem) (a : AM) : EM := fun env st => (a env st).bind fun ds st1 => if ds.length = n then f ds st1 else .stuck
def OkX (P : Program) (w : World) (K : PySem.W.Frag) (mg : Str → Option Value) (base : Heap) (G : Gx) (k : Nat) (x : Str) (n : Nat) (fs : FnSem) : Prop :=
  ∃ a fd ps, FnOk P w K mg base (L2.CX P w) k a fd ps (spI G n fs) ∧ PySem.W.keepIn K (.ref a) = true ∧ Binds K fd ps [] ∧ mg x = some (.ref a)
abbrev xW (Ex : XK) : WX := fun cv xd _ H => Ex cv xd H
section
variable {P : Program} {w : World} {K : PySem.W.Frag} {mg : Str → Option Value} {base : Heap} {G : Gx} {W : WX} {X : Cx}
theorem fnX_ok {x qual : Str} {st : Stmt} {f : Addr} {fd : FuncData} {N ps : List Str} {k n : Nat} {m : SM} (F : Fun K x qual st f fd) (S : FnScope N ps (defScope st)) (hn : N.length = n)
    (hb : ∀ (cdv : Value) (A : Around) (outer : List Env) (s : Shared) (H : Hp) (Ex : XK), Room k (A.deeper (envOfC qual (defScope st) s.heap.objs.size f cdv)) →
      PSs (cxOf (L2.CX P w) P w K mg base N qual (defScope st) f cdv A outer s H Ex) (defBody st) (tS G (xW Ex) m)) : FnOk P w K mg base (L2.CX P w) (k + 1) f fd ps (spI G ps.length (runP n m)) :=
  F.okX S (fun vs H Q E h => h.1) (fun cdv A outer s H vs Q Ex hr h => ⟨_, hb cdv A outer s H Ex hr, run_body hn h.2⟩)
theorem okX_of {x qual : Str} {st : Stmt} {N ps : List Str} {k n nn : Nat} {m : SM} (D : At K mg x qual st ps) (S : FnScope N ps (defScope st)) (hn : N.length = nn) (hp : ps.length = n)
    (hb : ∀ (f : Addr) (cdv : Value) (A : Around) (outer : List Env) (s : Shared) (H : Hp) (Ex : XK), Room k (A.deeper (envOfC qual (defScope st) s.heap.objs.size f cdv)) →
      PSs (cxOf (L2.CX P w) P w K mg base N qual (defScope st) f cdv A outer s H Ex) (defBody st) (tS G (xW Ex) m)) : OkX P w K mg base G (k + 1) x n (runP nn m) := by
  obtain ⟨a, fd, F, b, g⟩ := D
  subst hp
  exact ⟨a, fd, ps, fnX_ok F S hn (hb a), F.kp, b, g⟩
theorem pI_callX {k n : Nat} {x : Str} {p pos : Pos} {e : Expr} {es : List Expr} {m : AM} {fs : FnSem} (O : OkX X.prog X.w X.K X.mg X.base G k x n fs) (hr : Room k X.A) (tk : Takes X W) (hg : Gl X x) (ha : PA X (e :: es) (tAr G W m))
    (hdb : (x == ("__debug__" : Str)) = false := by decide) (he : starEach (e :: es) X.env = (false, eval e X.env) :: starEach es X.env := by rfl) (hpl : (backTo pos (starEach es X.env)).any (·.1) = false := by rfl) : PE X (.Call (.Name x p) (e :: es) [] pos) (tI G W (evCallX n fs m)) := by
  obtain ⟨a, fd, ps, F, kp, b, g⟩ := O
  refine (pe_callS (E := WE W) F hr hg g kp b (fun σ => passAt tk σ) ha hdb he hpl).vi fun σ H Q h => ?_
  obtain ⟨as, st, env, s, er, p⟩ := h
  refine ⟨as, st, env, s, er, (p.bind s.len).mono fun ds as1 st1 H1 e1 s1 p1 vs r1 => ?_⟩
  split at p1
  · rename_i hn
    exact ⟨r1.len_of hn, as1, st1, ds, s1, r1, p1.mono fun w as3 st3 H3 e3 s3 q v rv => q v (rv.from (fresh_of e1))⟩
  · exact p1.elim
end
end VI
namespace VI
open PySem PySem.Spec PyProof.Rows L2
/-! ### own objects -/
section
variable {X : Cx} {CX : CXT} {k : Nat} {f C : Addr} {fd : FuncData} {ps : List Str} {sp : Sp} {E : L2.St → XK} {x m : Str} {p pos apos : Pos} {e o : Expr} {es : List Expr} {ta : TE} {t : TA}
def tMakeS (C : Addr) (sp : Sp) (E : L2.St → XK) (t : TA) : TE := fun σ H Q => t σ H fun vs H1 => ∀ x dx, H1 x = none → H1 dx = none → dx ≠ x → sp (.ref x :: vs) (upd (upd H1 dx (.own x)) x (.ins C dx [])) (fun v H2 => v = .non ∧ Q (.ref x) H2) (E σ)
theorem pe_makeS (M : Mk X.K C f) (F : FnOk X.prog X.w X.K X.mg X.base CX k f fd ps sp) (hr : Room (k + 1) X.A) (hg : Gl X x) (hm : X.mg x = some (.ref C)) (hb : Binds X.K fd ps []) (hx : ∀ σ, PassesAt CX X σ (E σ)) (ha : PA X (e :: es) t)
    (hdb : (x == ("__debug__" : Str)) = false := by decide) (he : starEach (e :: es) X.env = (false, eval e X.env) :: starEach es X.env := by rfl) (hpl : (backTo pos (starEach es X.env)).any (·.1) = false := by rfl) :
    PE X (.Call (.Name x p) (e :: es) [] pos) (tMakeS C sp E t) := by
  refine ⟨fun pins s σ H Q I h => wpAny_Call_Name_kw (ld_glob I hg hm ?_ hdb)⟩
  refine PySem.W.callWith_K (h₀ := X.base) I.ok.mod.kin M.kp (thn (ha.run pos pins s σ H _ I h) fun us s1 ⟨vs, H1, I1, r, q⟩ => ⟨I1.kIn, ?_⟩) he hpl
  have want := q (s1.heap.objs.size + 1) s1.heap.objs.size (I1.hok.fresh (Nat.le_succ _)) (I1.hok.fresh (Nat.le_refl _)) (Nat.ne_of_lt (Nat.lt_succ_self _))
  have made := Inv.made (C := C) I1
  have rv : Vals (V.ref (s1.heap.objs.size + 1) :: vs) (Value.ref (s1.heap.objs.size + 1) :: us) := .cons rfl r
  have len : (Value.ref (s1.heap.objs.size + 1) :: us).length = ps.length := rv.length.symm.trans (F.len _ _ _ _ want)
  have b := hb _ (Value.ref (s1.heap.objs.size + 1) :: us) made.kIn (by rw [List.append_nil]; exact len)
  rw [List.append_nil] at b
  refine wpAny_call (make_map (f := f) I1.kIn M.makes M.init (beq_iff_eq.mp M.fn) (codeAny_mono (F.run _ X.stack _ _ ⟨Value.ref (s1.heap.objs.size + 1) :: us, []⟩ _ _ _ (E σ) (hr.make C us []) (made.env0.make C us []) b rv want) fun res s2 hres => ?_))
  cases res with
  | error e => exact hx σ pins _ _ e s2 made hres
  | ok fl =>
    cases fl with
    | ret u =>
      obtain ⟨v, H', I3, ru, rfl, q3⟩ := made.after hres
      exact ⟨ru, V.ref (s1.heap.objs.size + 1), H', I3, rfl, q3⟩
    | next => exact False.elim hres
    | brk => exact False.elim hres
    | cont => exact False.elim hres
def tMethS (C : Addr) (m : Str) (sp : Sp) (E : L2.St → XK) (ta : TE) (t : TA) : TE := fun σ H Q => ta σ H fun x H1 => ∃ a dx fs, x = .ref a ∧ H1 a = some (.ins C dx fs) ∧ fs.lookup m = none ∧ t σ H1 fun vs H2 => sp (x :: vs) H2 Q (E σ)
theorem pe_methS {pl : Sem Bool} (he : PE X o ta) (c : Cls X.K C) (hm : Meth X.K C m f) (F : FnOk X.prog X.w X.K X.mg X.base CX k f fd ps sp) (hr : Room k X.A) (hb : Binds X.K fd ps []) (hx : ∀ σ, PassesAt CX X σ (E σ)) (ha : PA X (e :: es) t)
    (hst : starEach (e :: es) X.env = (false, eval e X.env) :: starEach es X.env := by rfl) (hpl : (backTo pos (starEach es X.env)).any (·.1) = false := by rfl)
    (ht : eval (.Call (.Attribute o m apos) (e :: es) [] pos) X.env = (do
      let ov ← eval o X.env
      standAt apos.atName
      let (f, first) ← holding [ov] (getMethod ov m pl)
      callWith pos f first (backTo pos (starEach (e :: es) X.env)) (backToKw pos (keywordEach [] X.env))) := by rfl) :
    PE X (.Call (.Attribute o m apos) (e :: es) [] pos) (tMethS C m sp E ta t) := by
  refine ⟨fun pins s σ H Q I h => PySem.W.methodCall_KW (pl := pl) (thn (he.run pins s σ H _ I h) fun u s1 ⟨x, H1, I1, rx, a, dx, fs, ex, ea, l, q⟩ => ?_) ht⟩
  subst ex
  obtain rfl : u = Value.ref a := rx
  refine getmeth_ok I1 ea c hm l (PySem.W.callWith_K (first := [.ref a]) (h₀ := X.base) I.ok.mod.kin hm.kp (thn (ha.run pos pins s1 σ H1 _ I1 q) fun us s2 ⟨vs, H2, I2, r, q2⟩ => ⟨I2.kIn, ?_⟩) hst hpl)
  exact run_fnS (us := .ref a :: us) (vs := .ref a :: vs) F hr hb (hx σ) I2 (.cons rfl r) q2
end
/-! by value -/
def objOf (d : D) (st : Store) : Option (String × List (Str × D)) := match d with
  | .obj c fs => some (c, fs)
  | .ref n => match st[n]? with
    | some (some (.obj c fs)) => some (c, fs)
    | _ => none
  | _ => none
def makeV (c : String) (f : FnSem) (ds : List D) (st : Store) : Res Wv := match f (.ref st.length :: ds) (st ++ [some (.obj c [])]) with
  | .ok (.val .non) st' => fin st (.val (.ref st.length)) st'
  | .exc x st' => finX st x st'
  | _ => .stuck
def evMake (c : String) (n : Nat) (f : FnSem) (a : AM) : EM := fun env st => (a env st).bind fun ds st1 => if ds.length = n then makeV c f ds st1 else .stuck
def evMeth (c : String) (m : Str) (n : Nat) (f : FnSem) (o : EM) (a : AM) : EM := fun env st => (o env st).bind fun w st1 => match objOf w.d st1 with
  | some (k, fs) => if k = c ∧ (fs.lookup m).isNone = true then (a env st1).bind fun ds st2 => if ds.length = n then f (w.d :: ds) st2 else .stuck else .stuck
  | none => .stuck
def evFld (cs : List String) (f : Str) (o : EM) : EM := fun env st => (o env st).bind fun w st1 => match objOf w.d st1 with
  | some (k, fs) => if cs.contains k = true then (match fs.lookup f with | some d => .ok (.val d) st1 | none => .stuck) else .stuck
  | none => .stuck
def putD (f : Str) (d : D) (fs : List (Str × D)) : List (Str × D) := match fs with
  | [] => [(f, d)]
  | (g, x) :: r => if g = f then (f, d) :: r else (g, x) :: putD f d r
def sFldSet (cs : List String) (f : Str) (e o : EM) : SM := fun env st => SRes.of env (e env st) fun w1 st1 => SRes.of env (o env st1) fun w2 st2 => match w2.d with
  | .ref n => match st2[n]? with
    | some (some (.obj k fs)) => if cs.contains k = true ∧ fs.length < 1000 then .nx env (st2.set n (some (.obj k (putD f w1.d fs)))) else .stuck
    | _ => .stuck
  | _ => .stuck
section
variable {X : Cx} {G : Gx} {W : WX} {Ex : XK} {as as' : List Addr} {st st' : Store} {H : Hp} {L : Addr → Prop} {De : Ends} {σ : L2.St} {Q : VK}
theorem objOf_rel (s : StR G as st H) {d : D} {v : V} {c : String} {fs : List (Str × D)} (r : RelD G as (Live as st) H d v) (h : objOf d st = some (c, fs)) :
    ∃ a C dx vfs, v = .ref a ∧ G.cm c = some C ∧ H a = some (.ins C dx vfs) ∧ RelFs G as (Live as st) H fs vfs := by
  cases r with
  | @ref n a ha =>
    unfold objOf at h
    cases q : st[n]? with
    | none => simp only [q] at h; cases h
    | some u =>
      cases u with
      | none => simp only [q] at h; cases h
      | some d =>
        cases d with
        | obj k gs =>
          simp only [q] at h
          cases h
          obtain ⟨a', ha', C, dx, vfs, h1, h2, _, h3⟩ := s.cells n _ q
          rw [ha] at ha'; cases ha'
          exact ⟨a, C, dx, vfs, rfl, h1, h2, h3⟩
        | _ => simp only [q] at h; cases h
  | obj h1 h2 h3 h4 h5 => cases h; exact ⟨_, _, _, _, rfl, h1, h2, h5⟩
  | _ => simp only [objOf] at h; cases h
theorem RelFs.look : ∀ {fs : List (Str × D)} {vfs : List (Str × V)} (f : Str), RelFs G as L H fs vfs → (fs.lookup f = none → vfs.lookup f = none) ∧ ∀ d, fs.lookup f = some d → ∃ v, vfs.lookup f = some v ∧ RelD G as L H d v
  | _, _, _, .nil => ⟨fun _ => rfl, fun d h => nomatch h⟩
  | _, _, f, .cons (f := g) r t => by
    obtain ⟨i1, i2⟩ := RelFs.look f t
    simp only [List.lookup]
    cases q : (f == g) with
    | true =>
      refine ⟨fun h => (by cases h), fun d h => ?_⟩
      cases h
      exact ⟨_, rfl, r⟩
    | false => exact ⟨i1, i2⟩
theorem make_post {c : String} {C : Addr} {fs : FnSem} {ds : List D} {vs : List V} (s : StR G as st H) (rds : RelDs G as (Live as st) H ds vs) (hcm : G.cm c = some C)
    (p : Post G Ex as st H (makeV c fs ds st) fun w as' st' H' => ∀ v, RelW G H as' st' H' w v → Q v H') (x dx : Addr) (nx : H x = none) (ndx : H dx = none) (ne : dx ≠ x) :
    ∃ as1 st1 ds1, StR G as1 st1 (upd (upd H dx (.own x)) x (.ins C dx [])) ∧ RelDs G as1 (Live as1 st1) (upd (upd H dx (.own x)) x (.ins C dx [])) ds1 (.ref x :: vs) ∧ ds1.length = ds.length + 1 ∧
      Post G Ex as1 st1 (upd (upd H dx (.own x)) x (.ins C dx [])) (fs ds1 st1) fun w as' st' H' => ∀ v, RelW G (upd (upd H dx (.own x)) x (.ins C dx [])) as' st' H' w v → v = .non ∧ Q (.ref x) H' := by
  have nx1 : (upd H dx (.own x)) x = none := by rw [upd_ne (Ne.symm ne)]; exact nx
  have s1 := s.laid ndx (o := .own x)
  have sl := s1.lay nx1 (o := .ins C dx [])
  have cell : CellR G as (fun b => Live as st b ∨ b = x) (upd (upd H dx (.own x)) x (.ins C dx [])) x (.obj c []) := ⟨C, dx, [], hcm, upd_same, by rw [upd_ne ne, upd_same], .nil⟩
  have s2 := sl.reg (notLive s1 nx1) cell
  have e2 : Ext as st H (as ++ [x]) (st ++ [some (.obj c [])]) (upd (upd H dx (.own x)) x (.ins C dx [])) := ((Ext.lay ndx).trans (Ext.lay nx1) s.len).regAt s.len s.len nx
  have atx : (as ++ [x])[st.length]? = some x := by rw [← s.len]; simp
  refine ⟨as ++ [x], st ++ [some (.obj c [])], .ref st.length :: ds, s2, .cons (.ref atx) (rds.ext e2 s.len), rfl, ?_⟩
  unfold makeV at p
  cases q : fs (.ref st.length :: ds) (st ++ [some (.obj c [])]) with
  | stuck => simp only [q] at p; exact p.elim
  | ok w st' =>
    cases w with
    | new d => simp only [q] at p; exact p.elim
    | val d =>
      cases d with
      | non =>
        simp only [q] at p
        intro as' H' e' s' v rv
        cases (show RelD G as' _ H' .non v from rv)
        refine ⟨rfl, ?_⟩
        have ee := e2.trans e' s.len
        have rx : RelW G H as' st' H' (.val (.ref st.length)) (.ref x) := show RelD G as' _ H' _ _ from .ref (pre_get e'.pre atx)
        cases qf : fin st (.val (.ref st.length)) st' with
        | ok w2 st2 =>
          rw [qf] at p
          obtain ⟨s3, r3⟩ := fin_rel s ee s' rx qf
          obtain ⟨_, rfl⟩ := fin_ok qf
          exact p _ H' (ee.cut s) s3 _ r3
        | exc y st2 => exact (fin_noexc qf).elim
        | stuck => rw [qf] at p; exact p.elim
      | _ => simp only [q] at p; exact p.elim
  | exc y st' =>
    simp only [q] at p
    intro as' H' cv xd e' s' rx
    have ee := e2.trans e' s.len
    obtain ⟨C', h1, h2, h3⟩ := rx
    unfold finX at p
    cases qr : y.row with
    | none =>
      rw [qr] at p h3
      by_cases hc : cutOk st st' = true
      · rw [if_pos ⟨hc, rfl⟩] at p
        exact p (as'.take st.length) H' cv xd (ee.cut s) ((s.cut s' hc).less fun b z => live_cut z) ⟨C', h1, h2, by rw [qr]; exact h3⟩
      · rw [if_neg fun z => hc z.1] at p; exact p.elim
    | some d =>
      rw [qr] at p h3
      by_cases hc : cutOk st st' = true ∧ refsLt st.length d = true
      · rw [if_pos hc] at p
        obtain ⟨pa, v, g1, g2, gl, g3⟩ := h3
        exact p (as'.take st.length) H' cv xd (ee.cut s) ((s.cut s' hc.1).less fun b z => live_cut z) ⟨C', h1, h2, by rw [qr]; exact ⟨pa, v, g1, g2, fun z => gl (live_cut z), (g3.cut hc.2).lessL fun b z => live_cut z⟩⟩
      · rw [if_neg hc] at p; exact p.elim
/-- a class with an __init__ that may raise -/
def OkMk (P : Program) (w : World) (K : PySem.W.Frag) (mg : Str → Option Value) (base : Heap) (G : Gx) (k : Nat) (x : Str) (c : String) (n : Nat) (fs : FnSem) : Prop :=
  ∃ C f fd ps, Mk K C f ∧ FnOk P w K mg base (L2.CX P w) k f fd ps (spI G (n + 1) fs) ∧ Binds K fd ps [] ∧ mg x = some (.ref C) ∧ G.cm c = some C
theorem pI_make {k n : Nat} {x : Str} {c : String} {p pos : Pos} {e : Expr} {es : List Expr} {m : AM} {fs : FnSem} (O : OkMk X.prog X.w X.K X.mg X.base G k x c n fs) (hr : Room (k + 1) X.A) (tk : Takes X W) (hg : Gl X x) (ha : PA X (e :: es) (tAr G W m))
    (hdb : (x == ("__debug__" : Str)) = false := by decide) (he : starEach (e :: es) X.env = (false, eval e X.env) :: starEach es X.env := by rfl) (hpl : (backTo pos (starEach es X.env)).any (·.1) = false := by rfl) : PE X (.Call (.Name x p) (e :: es) [] pos) (tI G W (evMake c n fs m)) := by
  obtain ⟨C, f, fd, ps, M, F, b, g, hcm⟩ := O
  refine (pe_makeS (E := WE W) M F hr hg g b (fun σ => passAt tk σ) ha hdb he hpl).vi fun σ H Q h => ?_
  obtain ⟨as, st, env, s, er, p⟩ := h
  refine ⟨as, st, env, s, er, (p.bind s.len).mono fun ds as1 st1 H1 e1 s1 p1 vs r1 => ?_⟩
  split at p1
  · rename_i hn
    intro x dx nx ndx ne
    obtain ⟨as2, st2, ds2, s2, r2, l2, p2⟩ := make_post (Q := Q) s1 r1 hcm (p1.mono fun w as3 st3 H3 e3 s3 q v rv => q v (rv.from (fresh_of e1))) x dx nx ndx ne
    exact ⟨r2.len_of (by rw [l2, hn]), as2, st2, ds2, s2, r2, p2⟩
  · exact p1.elim
/-- a method that may raise -/
def OkMe (P : Program) (w : World) (K : PySem.W.Frag) (mg : Str → Option Value) (base : Heap) (G : Gx) (k : Nat) (c : String) (m : Str) (n : Nat) (fs : FnSem) : Prop :=
  ∃ C f fd ps, Cls K C ∧ Meth K C m f ∧ FnOk P w K mg base (L2.CX P w) k f fd ps (spI G (n + 1) fs) ∧ Binds K fd ps [] ∧ G.cm c = some C
theorem pI_meth {k n : Nat} {c : String} {mm : Str} {pos apos : Pos} {o e : Expr} {es : List Expr} {mo : EM} {m : AM} {fs : FnSem} {pl : Sem Bool} (O : OkMe X.prog X.w X.K X.mg X.base G k c mm n fs) (hr : Room k X.A) (tk : Takes X W) (ho : PE X o (tI G W mo)) (ha : PA X (e :: es) (tAr G W m))
    (hst : starEach (e :: es) X.env = (false, eval e X.env) :: starEach es X.env := by rfl) (hpl : (backTo pos (starEach es X.env)).any (·.1) = false := by rfl)
    (ht : eval (.Call (.Attribute o mm apos) (e :: es) [] pos) X.env = (do
      let ov ← eval o X.env
      standAt apos.atName
      let (f, first) ← holding [ov] (getMethod ov mm pl)
      callWith pos f first (backTo pos (starEach (e :: es) X.env)) (backToKw pos (keywordEach [] X.env))) := by rfl) :
    PE X (.Call (.Attribute o mm apos) (e :: es) [] pos) (tI G W (evMeth c mm n fs mo m)) := by
  obtain ⟨C, f, fd, ps, cl, M, F, b, hcm⟩ := O
  refine (pe_methS (E := WE W) ho cl M F hr b (fun σ => passAt tk σ) ha hst hpl ht).vi fun σ H Q h => ?_
  obtain ⟨as, st, env, s, er, p⟩ := h
  refine ⟨as, st, env, s, er, (p.bind s.len).mono fun w as1 st1 H1 e1 s1 p1 v r1 => ?_⟩
  split at p1
  · rename_i kk fl hob
    split at p1
    · rename_i hc
      obtain ⟨a, C', dx, vfs, rfl, h1, h2, h3⟩ := objOf_rel s1 r1.d hob
      rw [hc.1, hcm] at h1
      cases h1
      refine ⟨a, dx, vfs, rfl, h2, (h3.look mm).1 (by simpa using hc.2), as1, st1, env, s1, er.ext e1 s.len, (p1.bind s1.len).mono fun ds as2 st2 H2 e2 s2 p2 vs r2 => ?_⟩
      split at p2
      · rename_i hn
        exact ⟨by rw [List.length_cons, r2.len_of hn], as2, st2, w.d :: ds, s2, .cons (r1.d.ext e2 s1.len) r2, p2.mono fun w as3 st3 H3 e3 s3 q v rv => q v (rv.from (fresh_of (e1.trans e2 s.len)))⟩
      · exact p2.elim
    · exact p1.elim
  · exact p1.elim
theorem pI_fld {cs : List String} {f : Str} {o : Expr} {pos : Pos} {m : EM} (ho : PE X o (tI G W m)) (hK : G.K = X.K) (hcl : ∀ c, cs.contains c = true → ∀ C, G.cm c = some C → Cls X.K C ∧ NoAttr X.K C f) (hb : attributeBase o f X.env (eval o X.env) = eval o X.env := by rfl) :
    PE X (.Attribute o f pos) (tI G W (evFld cs f m)) := (pe_fld ho hb).vi fun σ H Q ⟨as, st, env, s, er, p⟩ =>
  ⟨as, st, env, s, er, (p.bind s.len).mono fun w as1 st1 H1 e1 s1 p1 v r1 => by
    split at p1
    · rename_i kk fl hob
      split at p1
      · rename_i hc
        split at p1
        · rename_i d hd
          obtain ⟨a, C, dx, vfs, rfl, h1, h2, h3⟩ := objOf_rel s1 r1.d hob
          obtain ⟨v, hv, rv⟩ := (h3.look f).2 d hd
          obtain ⟨c1, c2⟩ := hcl _ hc C h1
          exact ⟨a, C, dx, vfs, v, rfl, h2, c1, c2, hv, p1.now s1 v rv⟩
        · exact p1.elim
      · exact p1.elim
    · exact p1.elim⟩
end
end VI
namespace VI
open PySem PySem.Spec PyProof.Rows L2
/-! ### a field set -/
section
variable {X : Cx} {G : Gx} {W : WX} {E : WX} {as as' : List Addr} {st st' : Store} {H : Hp} {L : Addr → Prop} {De : Ends} {σ : L2.St} {Q : VK}
theorem RelFs.put {f : Str} {d : D} {v : V} (r : RelD G as L H d v) : ∀ {fs : List (Str × D)} {vfs : List (Str × V)}, RelFs G as L H fs vfs → RelFs G as L H (putD f d fs) (putF f v vfs) ∧ fs.length = vfs.length
  | _, _, .nil => ⟨.cons r .nil, rfl⟩
  | _, _, .cons (f := g) (fs := fs) (vs := vs) q t => by
    obtain ⟨i1, i2⟩ := RelFs.put r t
    refine ⟨?_, by simp [i2]⟩
    unfold putD putF
    by_cases h : g = f
    · subst h
      rw [if_pos rfl, if_pos rfl]
      exact .cons r t
    · rw [if_neg h, if_neg h]
      exact .cons q i1
theorem tS_fldSet {cs : List String} {f : Str} {e o : EM} (hcl : ∀ c, cs.contains c = true → ∀ C, G.cm c = some C → Cls G.K C ∧ NoAttr G.K C f) (h : tS G W (sFldSet cs f e o) De σ H) : sFld G.K (tI G W o) (tI G W e) f De σ H := by
  obtain ⟨as, st, env, s, er, p⟩ := h
  refine ⟨as, st, env, s, er, (SPost.of s.len er p).mono fun w as1 st1 H1 e1 s1 p1 v1 r1 => ?_⟩
  have p1 := p1.from s.len e1
  refine ⟨as1, st1, env, s1, er.ext e1 s.len, (SPost.of (σ := σ) s1.len (er.ext e1 s.len) p1).mono fun w2 as2 st2 H2 e2 s2 p2 v2 r2 => ?_⟩
  have p2 := p2.from s1.len e2
  split at p2
  · rename_i n hw
    split at p2
    · rename_i k fs hn
      split at p2
      · rename_i hc
        have rd := r2.d
        rw [hw] at rd
        cases rd with
        | @ref _ a ha =>
        obtain ⟨a', ha', C, dx, vfs, h1, h2, h3, h4⟩ := s2.cells n _ hn
        rw [ha] at ha'; cases ha'
        obtain ⟨c1, c2⟩ := hcl _ hc.1 C h1
        obtain ⟨q1, q2⟩ := h4.put (f := f) (r1.d.ext e2 s1.len)
        refine ⟨a, C, dx, vfs, rfl, h2, c1, c2, by rw [← q2]; exact hc.2, ?_⟩
        have live : Live as2 st2 a := ⟨_, _, ha, hn⟩
        have kp : ∀ b u, H2 b = some u → (¬ Live as2 st2 b ∨ notMut u = true) → ∀ z, upd H2 a z b = some u := fun b u eb k z => by
          have ne : b ≠ a := fun z => by
            subst z
            rcases k with k | k
            · exact k live
            · rw [h2] at eb; cases eb; cases k
          rw [upd_ne ne]; exact eb
        obtain ⟨a1, a2⟩ := s2.write (d := .obj k (putD f w.d fs)) (o := .ins C dx (putF f v1 vfs)) hn ha ⟨C, dx, _, h1, upd_same, kp _ _ h3 (.inr rfl) _, q1.mono (List.prefix_refl _) (fun _ _ n => n) fun b u eb k => kp b u eb k _⟩
        exact p2 as2 _ σ a2 a1 (((er.ext e1 s.len).ext e2 s1.len).ext a2 s2.len)
      · exact p2.elim
    · exact p2.elim
  · exact p2.elim
theorem pS_fldSet {cs : List String} {f : Str} {e o : Expr} {pos pos' : Pos} {me mo : EM} (ho : PE X o (tI G W mo)) (he : PE X e (tI G W me)) (hK : G.K = X.K) (hcl : ∀ c, cs.contains c = true → ∀ C, G.cm c = some C → Cls G.K C ∧ NoAttr G.K C f)
    (hs : swapsWith e (some (.Attribute o f pos')) pos.line X.env = pure false := by rfl) : PS X (.Assign [.Attribute o f pos'] e pos) (tS G W (sFldSet cs f me mo)) :=
  (ps_fld ho he hs).vi fun De σ H h => by rw [← hK]; exact tS_fldSet hcl h

/-! ### a new container that becomes a cell within an expression -/
def evReg (m : EM) : EM := fun env st => (m env st).bind fun w st1 => match w with
  | .new d => .ok (.val (.ref st1.length)) (st1 ++ [some d])
  | .val _ => .stuck
theorem Post.bind0 {α β : Type} {Ex : XK} {r : Res α} {k : α → Store → Res β} {R : β → List Addr → Store → Hp → Prop} (h : Post G Ex as st H (r.bind k) R) : Post G Ex as st H r (fun a _ st1 _ => Post G Ex as st H (k a st1) R) := by
  cases r with
  | ok a st1 => exact fun _ _ _ _ => h
  | exc x st1 => exact h
  | stuck => exact h
theorem pI_reg {e : Expr} {m : EM} (h : PE X e (tI G W m)) : PE X e (tI G W (evReg m)) := h.vi fun σ H Q ⟨as, st, env, s, er, p⟩ =>
  ⟨as, st, env, s, er, p.bind0.mono fun w as1 st1 H1 e1 s1 p1 v r => by
    cases w with
    | val d => exact p1.elim
    | new d =>
      obtain ⟨q, rfl, e2, s2, r2⟩ := r.reg e1 s s1
      exact p1 _ H1 e2 s2 _ r2⟩

/-! ### min, max; is not of truths; a tuple some times -/
def fMaxMin (mx : Bool) (ds : List D) (st : Store) : Res Wv := match ds with
  | [.int i, .int j] => .ok (.val (.int (if mx then (if j > i then j else i) else (if j < i then j else i)))) st
  | _ => .stuck
theorem callS_max : CallS G E (fMaxMin true) (fun xs H Q => ∃ i j, xs = [.int i, .int j] ∧ Q (.int (if j > i then j else i)) H) := by
  intro E' as st H ds xs Q s r p
  unfold fMaxMin at p
  split at p
  · cases r with
    | cons r t =>
    cases t with
    | cons r2 t =>
    cases t; cases r; cases r2
    exact ⟨_, _, rfl, p.now s _ (.int _)⟩
  · exact p.elim
theorem callS_min : CallS G E (fMaxMin false) (fun xs H Q => ∃ i j, xs = [.int i, .int j] ∧ Q (.int (if j < i then j else i)) H) := by
  intro E' as st H ds xs Q s r p
  unfold fMaxMin at p
  split at p
  · cases r with
    | cons r t =>
    cases t with
    | cons r2 t =>
    cases t; cases r; cases r2
    exact ⟨_, _, rfl, p.now s _ (.int _)⟩
  · exact p.elim
def fIsnB (a b : D) (st : Store) : Res Wv := match a, b with
  | .bl i, .bl j => .ok (.val (.bl (!decide (i = j)))) st
  | _, _ => .stuck
theorem opS_isnB : OpS G E fIsnB (fun x y H Q => ∃ a b, x = .bl a ∧ y = .bl b ∧ Q (.bl (!decide (a = b))) H) := by
  intro E' as st H d1 d2 x y Q s r1 r2 p
  unfold fIsnB at p
  split at p
  · cases r1; cases r2
    exact ⟨_, _, rfl, rfl, p.now s _ (.bl _)⟩
  · exact p.elim
/-- ints multiplied (one small); a tuple repeated -/
def fMulT (a b : D) (st : Store) : Res Wv := match a, b with
  | .tup ds, .int k => if ds ≠ [] ∧ 2 ≤ k ∧ k ≤ 1000 ∧ ds.length ≤ 1000 then .ok (.val (.tup (List.replicate k.toNat ds).flatten)) st else .stuck
  | a, b => fMul a b st
theorem RelDs.rep {ds : List D} {vs : List V} (r : RelDs G as L H ds vs) : ∀ n : Nat, RelDs G as L H (List.replicate n ds).flatten (List.replicate n vs).flatten
  | 0 => .nil
  | n + 1 => by
    rw [List.replicate_succ, List.replicate_succ, List.flatten_cons, List.flatten_cons]
    exact r.append (RelDs.rep r n)
theorem opS_mulT : OpS G E fMulT (fun x y H Q => rI CMul (fun i j => .int (i * j)) x y H Q ∨ rRepT G.K x y H Q) := by
  intro E' as st H d1 d2 x y Q s r1 r2 p
  unfold fMulT at p
  split at p
  · split at p
    · rename_i h
      cases r2
      cases r1 with
      | @tup ds pa vs h1 hr =>
      exact .inr ⟨pa, _, vs, rfl, rfl, h1, fun z => h.1 (by
        have e := hr.length
        rw [z] at e
        exact List.eq_nil_of_length_eq_zero e), h.2.1, h.2.2.1, by rw [← hr.length]; exact h.2.2.2, fun t ht => p as _ (Ext.lay ht) (s.laid ht) _ (RelD.newTup s (hr.rep _) ht)⟩
    · exact p.elim
  · exact .inl (opS_mul (E := E) E' as st H _ _ x y Q s r1 r2 p)

/-! ### count, index, clear -/
def flatD : D → Bool
  | .non => true
  | .bl _ => true
  | .int _ => true
  | _ => false
theorem flat_lay : ∀ {ds : List D}, ds.all flatD = true → PyData.canLayAll0 (toPys ds) = true ∧ PyData.depthAll (toPys ds) = 0 ∧ isPys ds = true
  | [], _ => ⟨by simp [toPys, PyData.canLayAll0], by simp [toPys, PyData.depthAll], by simp [isPys]⟩
  | d :: ds, h => by
    simp only [List.all_cons, Bool.and_eq_true] at h
    obtain ⟨i1, i2, i3⟩ := flat_lay h.2
    cases d <;> simp_all [flatD, toPys, toPy, PyData.canLayAll0, PyData.canLay0, PyData.depthAll, PyData.depth, isPys, isPy]
theorem flat_one {d : D} (h : flatD d = true) : (toPy d).canLay0 = true ∧ (toPy d).depth = 0 ∧ isPy d = true := by
  cases d <;> simp_all [flatD, toPy, PyData.canLay0, PyData.depth, isPy]
def rCountD (K : PySem.W.Frag) : V → List V → Hp → VK → Prop := fun x xs H Q => ∃ (a : Addr) (y : V) (d : PyData) (ds : List PyData), x = V.ref a ∧ xs = [y] ∧ Dp K H (V.ref a) (.list ds) ∧ Dp K H y d ∧ PyData.canLayAll0 ds = true ∧ PyData.depthAll ds ≤ 30 ∧ d.canLay0 = true ∧
  Q (.int (ds.countP fun z => PyData.eqv z d : Nat)) H
theorem mt_countD (hu : X.A.units + 64 < cLine) : MtR X "list.count" (rCountD X.K) := by
  intro pins s σ H x xs v us Q I rx rxs h
  obtain ⟨a, y, d, ds, rfl, rfl, hl, hy, hxs, hdep, hd, q⟩ := h
  cases rx
  cases rxs with
  | cons ry rt =>
    rename_i uy ut
    cases rt
    obtain ⟨bs, r1⟩ := Dp.reads I d y uy hy ry
    cases hl with
    | lst hs ha =>
      obtain ⟨its, rv, ⟨⟨cls, dd, data, sls⟩, n, ho, hc, hdn, hdt⟩, hlen⟩ := I.list hs
      simp only at hc hdt
      subst hc hdt
      obtain ⟨as, h4⟩ := Dp.readsAll I ds _ its ha rv
      have hmap : its.map (SeqAt.readOf s.heap) = ds := SeqAt.readsAll_map ds its as hxs h4
      refine call_meets PySem.F.slot_list_count ⟨_, ho, rfl⟩ PySem.F.entry_list_count (PySem.F.args_list_count_2 _ _)
        (SeqAt.list_countAt a its.toArray n dd sls uy (fun u => PyData.eqv (SeqAt.readOf s.heap u) d)) ⟨ho, SeqAt.items_eqAt (vs := its.toArray) (show ReadsAll s.heap its.toArray.toList ds as from h4) r1 hxs hd (by omega), ?_⟩
      refine ⟨.int (ds.countP fun z => PyData.eqv z d : Nat), H, I.tok _, ⟨s.toks, ?_⟩, q⟩
      rw [← hmap, List.countP_map]
      rfl
def fCount (o : D) (ds : List D) (st : Store) : Res Wv := match ds with
  | [d] => match lstOf o st with
    | some (xs, _) => if (xs.all flatD && flatD d) = true then .ok (.val (.int (xs.countP fun z => eqD z d : Nat))) st else .stuck
    | none => .stuck
  | _ => .stuck
theorem mtS_count : MtS' G E fCount (rCountD G.K) := by
  intro E' as st H d ds x xs Q s r rs p
  unfold fCount at p
  split at p
  · rename_i d2
    cases rs with
    | cons r2 t =>
    cases t
    split at p
    · rename_i xs src hl
      split at p
      · rename_i hf
        rw [Bool.and_eq_true] at hf
        obtain ⟨pa, vs, rfl, h1, hr⟩ := lstOf_sq s r hl
        obtain ⟨f1, f2, f3⟩ := flat_lay hf.1
        obtain ⟨g1, g2, g3⟩ := flat_one hf.2
        refine ⟨pa, _, _, toPys xs, rfl, rfl, .lst h1 (hr.dp f3), r2.dp g3, f1, by rw [f2]; omega, g1, ?_⟩
        have e : (toPys xs).countP (fun z => PyData.eqv z (toPy d2)) = xs.countP fun z => eqD z d2 := by
          rw [toPys_map, List.countP_map]; rfl
        rw [e]
        exact p.now s _ (.int _)
      · exact p.elim
    · exact p.elim
  · exact p.elim
def fIndex (o : D) (ds : List D) (st : Store) : Res Wv := match ds with
  | [d] => match lstOf o st with
    | some (xs, _) => if (xs.all flatD && flatD d) = true then (match xs.findIdx? fun z => eqD z d with | some j => .ok (.val (.int (j : Nat))) st | none => .stuck) else .stuck
    | none => .stuck
  | _ => .stuck
theorem mtS_index : MtS' G E fIndex (rIndexD G.K) := by
  intro E' as st H d ds x xs Q s r rs p
  unfold fIndex at p
  split at p
  · rename_i d2
    cases rs with
    | cons r2 t =>
    cases t
    split at p
    · rename_i xs src hl
      split at p
      · rename_i hf
        rw [Bool.and_eq_true] at hf
        obtain ⟨pa, vs, rfl, h1, hr⟩ := lstOf_sq s r hl
        obtain ⟨f1, f2, f3⟩ := flat_lay hf.1
        obtain ⟨g1, g2, g3⟩ := flat_one hf.2
        split at p
        · rename_i j hj
          obtain ⟨hlt, hj1, hj2⟩ := List.findIdx?_eq_some_iff_getElem.mp hj
          have gj : (toPys xs)[j]? = some (toPy xs[j]) := by rw [toPys_map, List.getElem?_map, List.getElem?_eq_getElem hlt]; rfl
          refine ⟨pa, _, toPy d2, toPys xs, j, toPy xs[j], rfl, rfl, .lst h1 (hr.dp f3), r2.dp g3, ?_, ?_, gj, hj1, fun m z' hm hz => ?_, p.now s _ (.int _)⟩
          · unfold SeqAt.shaped
            simp [PyData.canLay0, PyData.depth, f1, f2]
          · unfold SeqAt.shaped
            simp [g1, g2]
          · have hml : m < xs.length := by omega
            rw [toPys_map, List.getElem?_map, List.getElem?_eq_getElem hml] at hz
            cases hz
            simpa [eqD] using hj2 m hm
        · exact p.elim
      · exact p.elim
    · exact p.elim
  · exact p.elim
end
end VI
namespace VI
open PySem PySem.Spec PyProof.Rows L2
theorem room65 {k : Nat} {A : Around} (r : Room k A) : A.units + 65 < cLine := by have := r.un; omega
/-! ### methods without arguments -/
def evMt0 (T : String) (f : D → List D → Store → Res Wv) (o : EM) : EM := fun env st => (o env st).bind fun w st1 => if tyD w.d st1 = some T ∧ (T = "str" ∨ T = "list" ∨ T = "dict") then f w.d [] st1 else .stuck
def fClear (o : D) (ds : List D) (st : Store) : Res Wv := match o, ds with
  | .ref n, [] => match st[n]? with
    | some (some (.lst xs)) => .ok (.val .non) (st.set n (some (.lst [])))
    | _ => .stuck
  | _, _ => .stuck
section
variable {X : Cx} {G : Gx} {W : WX} {E : WX} {as as' : List Addr} {st st' : Store} {H : Hp} {L : Addr → Prop}
theorem pI_bm0 {T id : String} {o : Expr} {name : Str} {apos cpos : Pos} {f : D → List D → Store → Res Wv} {r : V → List V → Hp → VK → Prop} {mo : EM} (hK : G.K = X.K) (pa : PlainAttrs T) (slot : Slot T name id) (hty : typeOf (.builtin id) = pure (.type "method_descriptor")) (hm : MtR X id r) (hs : MtS' G W f r) (ho : PE X o (tI G W mo))
    (hbase : attributeBase o name X.env (eval o X.env) = eval o X.env := by rfl) (hline : (apos.endLine == cpos.line) = true := by rfl) : PE X (.Call (.Attribute o name apos) [] [] cpos) (tI G W (evMt0 T f mo)) :=
  (pe_bm0 pa slot hty hm ho hbase hline).vi fun σ H Q h => by
    rw [← hK]
    obtain ⟨as, st, env, s, er, p⟩ := h
    refine ⟨as, st, env, s, er, (p.bind s.len).mono fun w as1 st1 H1 e1 s1 p1 v1 r1 => ?_⟩
    split at p1
    · rename_i c
      exact ⟨tyD_v s1 r1.d c.1 c.2, hs _ as1 st1 H1 _ _ _ _ _ s1 r1.d .nil (p1.mono fun w as3 st3 H3 e3 s3 q v rv => q v (rv.from (fresh_of e1)))⟩
    · exact p1.elim
theorem mtS_clear : MtS' G E fClear rClear := by
  intro E' as st H d ds x xs Q s r rs p
  unfold fClear at p
  split at p
  · cases rs
    split at p
    · rename_i zs e
      cases r with
      | @ref _ a ha =>
      obtain ⟨a', ha', vs, hv, rr⟩ := s.cells _ _ e
      rw [ha] at ha'; cases ha'
      have live : Live as st a := ⟨_, _, ha, e⟩
      refine ⟨a, vs, rfl, rfl, hv, ?_⟩
      obtain ⟨a1, a2⟩ := s.write (d := .lst []) (o := .lst []) e ha ⟨[], upd_same, .nil⟩
      exact p as _ a2 a1 _ .non
    · exact p.elim
  · exact p.elim
/-! ### a cell given up: from now on it is a value -/
def evKill (i : Nat) : EM := fun env st => match env[i]? with
  | some (some (.ref m)) => match st[m]? with
    | some (some d) => .ok (.val d) (st.set m none)
    | _ => .stuck
  | _ => .stuck
theorem live_kill {m : Nat} {b : Addr} (h : Live as (st.set m none) b) : Live as st b := by
  obtain ⟨j, d, h1, h2⟩ := h
  by_cases hj : m = j
  · subst hj
    by_cases hlt : m < st.length
    · rw [List.getElem?_set_self hlt] at h2; cases h2
    · rw [List.getElem?_eq_none (by simp; omega)] at h2; cases h2
  · rw [List.getElem?_set_ne hj] at h2
    exact ⟨j, d, h1, h2⟩
theorem kill_ext (s : StR G as st H) (m : Nat) : Ext as st H as (st.set m none) H ∧ StR G as (st.set m none) H := by
  refine ⟨⟨List.prefix_refl _, fun i a h hi => ?_, fun i h => ?_, by simp, fun _ _ h _ => h, fun _ o h => ⟨o, h⟩⟩, ⟨by simp [s.len], s.nd, fun i d h => ?_, s.there⟩⟩
  · rw [List.getElem?_eq_none_iff.mpr hi] at h; cases h
  · by_cases hj : m = i
    · subst hj
      obtain ⟨hlt, _⟩ := List.getElem?_eq_some_iff.mp h
      rw [List.getElem?_set_self hlt]
    · rw [List.getElem?_set_ne hj]; exact h
  · have hj : m ≠ i := fun z => by
      subst z
      by_cases hlt : m < st.length
      · rw [List.getElem?_set_self hlt] at h; cases h
      · rw [List.getElem?_eq_none (by simp; omega)] at h; cases h
    rw [List.getElem?_set_ne hj] at h
    obtain ⟨a, h1, c⟩ := s.cells i d h
    exact ⟨a, h1, c.lessL fun b z => live_kill z⟩
theorem tI_kill {i : Nat} {σ : L2.St} {Q : VK} (h : tI G W (evKill i) σ H Q) : tVar i σ H Q := by
  obtain ⟨as, st, env, s, er, p⟩ := h
  unfold evKill at p
  split at p
  · rename_i m hm
    split at p
    · rename_i d hd
      obtain ⟨v, hv, r⟩ := er.2 i _ hm
      cases r with
      | @ref _ a ha =>
      obtain ⟨a', ha', c⟩ := s.cells m d hd
      rw [ha] at ha'; cases ha'
      obtain ⟨e1, s1⟩ := kill_ext s m
      have nl : ¬ Live as (st.set m none) a := fun ⟨j, d', h1, h2⟩ => by
        obtain ⟨hj, ej⟩ := List.getElem?_eq_some_iff.mp h1
        obtain ⟨hm', em⟩ := List.getElem?_eq_some_iff.mp ha
        have q := (List.getElem_inj s.nd).mp (ej.trans em.symm)
        subst q
        obtain ⟨hlt, _⟩ := List.getElem?_eq_some_iff.mp hd
        rw [List.getElem?_set_self hlt] at h2; cases h2
      exact ⟨_, hv, p as H e1 s1 _ ((c.lessL fun b z => live_kill z).val nl)⟩
    · exact p.elim
  · exact p.elim
theorem pI_kill {i : Nat} {x : Str} {pos : Pos} (hN : X.N[i]? = some x) (hv : Vis X.env.scope x) (hd : (x == ("__debug__" : Str)) = false := by decide) (hcd : (x == ("__classdict__" : Str)) = false := by decide) : PE X (.Name x pos) (tI G W (evKill i)) :=
  (pe_var hN hv hd hcd).vi fun _ _ _ => tI_kill
end
end VI
namespace VI
open PySem PySem.Spec PyProof.Rows L2
/-! ### mathematics: comprehensions whose tests and items write the store -/
def closedB (k : Nat) (st : Store) : Bool := st.all (cellLt k)
theorem closed_set {k n : Nat} {st : Store} {d : D} (h : closedB k st = true) (hd : refsLt k d = true) : closedB k (st.set n (some d)) = true := by
  unfold closedB at h ⊢
  rw [List.all_eq_true] at h ⊢
  intro x hx
  rcases List.mem_or_eq_of_mem_set hx with hx | rfl
  · exact h x hx
  · exact hd
theorem closed_none {k n : Nat} {st : Store} (h : closedB k st = true) : closedB k (st.set n none) = true := by
  unfold closedB at h ⊢
  rw [List.all_eq_true] at h ⊢
  intro x hx
  rcases List.mem_or_eq_of_mem_set hx with hx | rfl
  · exact h x hx
  · rfl
theorem closed_app {k : Nat} {st more : Store} : closedB k (st ++ more) = true ↔ closedB k st = true ∧ closedB k more = true := by
  unfold closedB
  rw [List.all_append, Bool.and_eq_true]
theorem cutOk_closed {st st' : Store} (hl : st.length ≤ st'.length) (h : closedB st.length (st'.take st.length) = true) : cutOk st st' = true := by
  unfold cutOk closedB at *
  simp [hl, h]
theorem lcGo_inv {α : Type} {iv : IterV} (hs : iv.src = none) {g : GD} {t : TM} {e : EM} {env : DEnv} (inj : α → D) (e1 : α → DEnv) (I : Nat → List D → Store → Prop) (k : Nat) :
    ∀ (items : List α) (i0 : Nat) (acc : List D) (b : Store), b.length = k → acc.length + items.length ≤ 100000 → I i0 acc b → (∀ d ∈ items, g (inj d) env = some (e1 d)) →
      (∀ j d, items[j]? = some d → ∀ acc b, b.length = k → I (i0 + j) acc b → ∃ c b1, t (e1 d) (b ++ [some (.lst acc)]) = .ok c (b1 ++ [some (.lst acc)]) ∧ b1.length = k ∧ (c = false → I (i0 + j + 1) acc b1) ∧
        (c = true → ∃ w b2, e (e1 d) (b1 ++ [some (.lst acc)]) = .ok w (b2 ++ [some (.lst acc)]) ∧ b2.length = k ∧ I (i0 + j + 1) (acc ++ [w.d]) b2)) →
      ∃ acc' b', lcGo iv g t e k (items.map inj) acc env (b ++ [some (.lst acc)]) = .ok acc' (b' ++ [some (.lst acc')]) ∧ b'.length = k ∧ I (i0 + items.length) acc' b'
  | [], i0, acc, b, hb, _, hI, _, _ => by
    refine ⟨acc, b, ?_, hb, hI⟩
    unfold lcGo
    have h1 : (b ++ [some (D.lst acc)])[k]? = some (some (.lst acc)) := by rw [← hb]; simp
    simp [List.map_nil, srcOk, hs, h1]
  | d :: items, i0, acc, b, hb, hl, hI, hg, hstep => by
    obtain ⟨c, b1, q1, hb1, n1, y1⟩ := hstep 0 d rfl acc b hb hI
    have h1 : (b ++ [some (D.lst acc)])[k]? = some (some (.lst acc)) := by rw [← hb]; simp
    simp only [List.length_cons] at hl
    have next : ∀ j x, items[j]? = some x → ∀ acc b, b.length = k → I (i0 + 1 + j) acc b → ∃ c b1, t (e1 x) (b ++ [some (.lst acc)]) = .ok c (b1 ++ [some (.lst acc)]) ∧ b1.length = k ∧ (c = false → I (i0 + 1 + j + 1) acc b1) ∧
        (c = true → ∃ w b2, e (e1 x) (b1 ++ [some (.lst acc)]) = .ok w (b2 ++ [some (.lst acc)]) ∧ b2.length = k ∧ I (i0 + 1 + j + 1) (acc ++ [w.d]) b2) := fun j x hx acc b hb hI => by
      have q := hstep (j + 1) x (by simpa using hx) acc b hb (by rw [show i0 + (j + 1) = i0 + 1 + j by omega]; exact hI)
      rw [show i0 + (j + 1) + 1 = i0 + 1 + j + 1 by omega] at q
      exact q
    rw [List.map_cons]
    unfold lcGo
    have go1 : srcOk iv (b ++ [some (.lst acc)]) = true := by simp [srcOk, hs]
    rw [if_pos ⟨go1, h1⟩, hg d List.mem_cons_self]
    simp only [q1, noX, bind_ok]
    have fl : i0 + (d :: items).length = i0 + 1 + items.length := by simp; omega
    rw [fl]
    cases c with
    | false =>
      rw [if_neg Bool.false_ne_true]
      exact lcGo_inv hs inj e1 I k items (i0 + 1) acc b1 hb1 (by omega) (n1 rfl) (fun x hx => hg x (List.mem_cons_of_mem _ hx)) next
    | true =>
      obtain ⟨w, b2, q2, hb2, I2⟩ := y1 rfl
      rw [if_pos rfl, q2]
      have h2 : (b2 ++ [some (D.lst acc)])[k]? = some (some (.lst acc)) := by rw [← hb2]; simp
      have h3 : (b2 ++ [some (D.lst acc)]).set k (some (.lst (acc ++ [w.d]))) = b2 ++ [some (.lst (acc ++ [w.d]))] := by
        rw [List.set_append_right _ _ (by omega), show k - b2.length = 0 by omega]; rfl
      simp only [noX, bind_ok]
      rw [if_pos ⟨h2, by omega⟩, h3]
      exact lcGo_inv hs inj e1 I k items (i0 + 1) (acc ++ [w.d]) b2 hb2 (by simp; omega) I2 (fun x hx => hg x (List.mem_cons_of_mem _ hx)) next
/-- a comprehension that writes the store, by an invariant -/
theorem evLc_inv {α : Type} {own : List Nat} {m : IM} {g : GD} {t : TM} {e : EM} {env : DEnv} {st st1 : Store} {items : List α} (inj : α → D) (e1 : α → DEnv) (I : Nat → List D → Store → Prop) (hm : m env st = .ok ⟨items.map inj, none⟩ st1) (hl : items.length ≤ 100000) (h0 : I 0 [] st1)
    (hc : ∀ acc b, b.length = st1.length → I items.length acc b → refsLts st1.length acc = true ∧ closedB st1.length b = true) (hg : ∀ d ∈ items, g (inj d) (wipeD env own) = some (e1 d))
    (hstep : ∀ j d, items[j]? = some d → ∀ acc b, b.length = st1.length → I j acc b → ∃ c b1, t (e1 d) (b ++ [some (.lst acc)]) = .ok c (b1 ++ [some (.lst acc)]) ∧ b1.length = st1.length ∧ (c = false → I (j + 1) acc b1) ∧
        (c = true → ∃ w b2, e (e1 d) (b1 ++ [some (.lst acc)]) = .ok w (b2 ++ [some (.lst acc)]) ∧ b2.length = st1.length ∧ I (j + 1) (acc ++ [w.d]) b2)) :
    ∃ acc b, evLc own m g t e env st = .ok (.new (.lst acc)) b ∧ b.length = st1.length ∧ I items.length acc b := by
  unfold evLc
  rw [hm]
  simp only [bind_ok]
  obtain ⟨acc, b, q, hb, hI⟩ := lcGo_inv (iv := ⟨items.map inj, none⟩) rfl inj e1 I st1.length items 0 [] st1 rfl (by simpa using hl) h0 hg (fun j d hd acc b hb hI => by
    have q := hstep j d hd acc b hb (by rw [Nat.zero_add] at hI; exact hI)
    rw [show 0 + j + 1 = j + 1 by omega]
    exact q)
  rw [Nat.zero_add] at hI
  obtain ⟨r1, r2⟩ := hc acc b hb hI
  refine ⟨acc, b, ?_, hb, hI⟩
  rw [q]
  simp only [bind_ok]
  have tk : (b ++ [some (D.lst acc)]).take st1.length = b := by rw [← hb]; simp
  rw [if_pos ⟨cutOk_closed (by simp; omega) (by rw [tk]; exact r2), r1⟩, tk]
end VI
namespace VI
open PySem PySem.Spec PyProof.Rows L2
theorem lcGo_mapS {α : Type} {g : GD} {t : TM} {e : EM} {env : DEnv} {iv : IterV} (st : Store) (hs : ∀ more : Store, srcOk iv (st ++ more) = true) (inj : α → D) (c : α → Bool) (f : α → D) (e1 : α → DEnv) : ∀ (items : List α) (acc : List D), items.length + acc.length ≤ 100000 →
    (∀ d ∈ items, g (inj d) env = some (e1 d) ∧ ∀ more : Store, t (e1 d) (st ++ more) = .ok (c d) (st ++ more) ∧ (c d = true → ∃ w, e (e1 d) (st ++ more) = .ok w (st ++ more) ∧ w.d = f d)) →
    lcGo iv g t e st.length (items.map inj) acc env (st ++ [some (.lst acc)]) = .ok (acc ++ (items.filter c).map f) (st ++ [some (.lst (acc ++ (items.filter c).map f))])
  | [], acc, _, _ => by
    unfold lcGo
    have : srcOk iv (st ++ [some (.lst acc)]) = true := hs _
    simp [this]
  | d :: items, acc, hl, h => by
    have ok : srcOk iv (st ++ [some (.lst acc)]) = true := hs _
    obtain ⟨h1, h2⟩ := h d List.mem_cons_self
    obtain ⟨h3, h4⟩ := h2 [some (D.lst acc)]
    have hc : (st ++ [some (.lst acc)])[st.length]? = some (some (.lst acc)) := by simp
    rw [List.map_cons]
    unfold lcGo
    rw [if_pos ⟨ok, hc⟩]
    simp only [h1, h3, noX_ok, bind_ok]
    simp only [List.length_cons] at hl
    cases q : c d with
    | true =>
      obtain ⟨w, hw, hd⟩ := h4 q
      rw [if_pos rfl, hw]
      simp only [noX_ok, bind_ok]
      rw [if_pos ⟨hc, by omega⟩, hd]
      have e2 : (st ++ [some (D.lst acc)]).set st.length (some (D.lst (acc ++ [f d]))) = st ++ [some (D.lst (acc ++ [f d]))] := by
        rw [List.set_append_right _ _ (Nat.le_refl _)]; simp
      rw [e2, lcGo_mapS st hs inj c f e1 items (acc ++ [f d]) (by simp; omega) fun x hx => h x (List.mem_cons_of_mem _ hx)]
      simp [List.filter_cons, q]
    | false =>
      rw [if_neg Bool.false_ne_true, lcGo_mapS st hs inj c f e1 items acc (by omega) fun x hx => h x (List.mem_cons_of_mem _ hx)]
      simp [List.filter_cons, q]

/-- a comprehension over a list that may be a cell -/
theorem evLc_mapS {own : List Nat} {m : IM} {g : GD} {t : TM} {e : EM} {env : DEnv} {st : Store} {items : List D} {src : Option Nat} (c : D → Bool) (f : D → D) (e1 : D → DEnv) (hm : m env st = .ok ⟨items, src⟩ st) (hsrc : ∀ k, src = some k → st[k]? = some (some (.lst items))) (hl : items.length ≤ 100000)
    (h : ∀ d ∈ items, g d (wipeD env own) = some (e1 d) ∧ ∀ more : Store, t (e1 d) (st ++ more) = .ok (c d) (st ++ more) ∧ (c d = true → ∃ w, e (e1 d) (st ++ more) = .ok w (st ++ more) ∧ w.d = f d))
    (hr : ∀ d ∈ items, c d = true → refsLt st.length (f d) = true) :
    evLc own m g t e env st = .ok (.new (.lst ((items.filter c).map f))) st := by
  have ok : ∀ more : Store, srcOk ⟨items, src⟩ (st ++ more) = true := fun more => by
    cases src with
    | none => rfl
    | some k =>
      have q := hsrc k rfl
      obtain ⟨hk, _⟩ := List.getElem?_eq_some_iff.mp q
      simp [srcOk, List.getElem?_append_left hk, q]
  unfold evLc
  rw [hm]
  simp only [bind_ok]
  have q := lcGo_mapS (iv := ⟨items, src⟩) (g := g) (t := t) (e := e) (env := wipeD env own) st ok (fun d => d) c f e1 items [] (by simpa using hl) h
  rw [List.map_id'] at q
  rw [q]
  simp only [bind_ok, List.nil_append]
  have hr' : refsLts st.length ((items.filter c).map f) = true := by
    rw [refsLts_all]
    intro d hd
    obtain ⟨x, hx, rfl⟩ := List.mem_map.mp hd
    obtain ⟨h1, h2⟩ := List.mem_filter.mp hx
    exact hr x h1 h2
  have e2 : (st ++ [some (D.lst ((items.filter c).map f))]).take st.length = st := by simp
  rw [if_pos ⟨cutOk_self _ _, hr'⟩, e2]
end VI
namespace VI
open PySem PySem.Spec PyProof.Rows L2
theorem chars_inj : ∀ {a b : List Char}, a.map Char.toNat = b.map Char.toNat → a = b
  | [], [], _ => rfl
  | [], _ :: _, h => by simp at h
  | _ :: _, [], h => by simp at h
  | x :: a, y :: b, h => by
    simp only [List.map_cons, List.cons.injEq] at h
    have h1 : x.val.toNat = y.val.toNat := h.1
    have e : x = y := Char.ext (UInt32.toNat_inj.mp h1)
    rw [e, chars_inj h.2]
@[simp] theorem ofStr_inj (a b : String) : (Str.ofString a = Str.ofString b) ↔ a = b := by
  constructor
  · intro h
    rw [Str.ofString_eq_toList, Str.ofString_eq_toList] at h
    have h1 := congrArg (fun s : Str => s.cps.toList) h
    simp only [List.toList_toArray] at h1
    exact String.toList_inj.mp (chars_inj h1)
  · intro h; rw [h]
@[simp] theorem ofStr_beq (a b : String) : (Str.ofString a == Str.ofString b) = decide (a = b) := by
  rw [Bool.eq_iff_iff]; simp
end VI
namespace VI
open PySem PySem.Spec PyProof.Rows L2
/-! ### promises where no repr is under way -/
structure FnG (P : Program) (w : World) (K : PySem.W.Frag) (mg : Str → Option Value) (base : Heap)
    (CX : CXT) (k : Nat) (f : Addr) (fd : FuncData) (ps : List Str) (sp : Sp) : Prop where
  ln : ∀ vs H Q E, sp vs H Q E → vs.length = ps.length
  go : ∀ (A : Around) (outer : List Env) (s : Shared) (H : Hp) (args : Args)
    (us : List Value) (vs : List V) (Q : VK) (E : XK), Room k A → A.guards = some [] →
      Env0 P w K mg base A outer s H → BindsTo s fd args (ps.zip us) → Vals vs us →
        sp vs H Q E → codeAny (model P w) A (.call (.ref f) args) (CR CX outer P w H s Q E) s
section
variable {P : Program} {w : World} {K : PySem.W.Frag} {mg : Str → Option Value} {base : Heap} {CX : CXT}
theorem FnG.of {k : Nat} {f : Addr} {fd : FuncData} {ps : List Str} {sp : Sp} (F : FnOk P w K mg base CX k f fd ps sp) : FnG P w K mg base CX k f fd ps sp :=
  ⟨F.len, fun A outer s H args us vs Q E hr _ => F.run A outer s H args us vs Q E hr⟩
theorem FnG.imp {k : Nat} {f : Addr} {fd : FuncData} {ps : List Str} {sp sp' : Sp} (F : FnG P w K mg base CX k f fd ps sp) (h : ∀ vs H Q E, sp' vs H Q E → sp vs H Q E) : FnG P w K mg base CX k f fd ps sp' :=
  ⟨fun vs H Q E z => F.ln vs H Q E (h _ _ _ _ z), fun A outer s H args us vs Q E hr hg e b r z => F.go A outer s H args us vs Q E hr hg e b r (h _ _ _ _ z)⟩
/-- a def's body keeps it -/
theorem fnG_of {x qual : Str} {st : Stmt} {f : Addr} {fd : FuncData} {N ps : List Str} {k : Nat} {sp : Sp} (F : Fun K x qual st f fd) (S : FnScope N ps (defScope st))
    (ln : ∀ vs H Q E, sp vs H Q E → vs.length = ps.length)
    (bd : ∀ (cdv : Value) (A : Around) (outer : List Env) (s : Shared) (H : Hp) (vs : List V) (Q : VK) (E : XK),
      Room k (A.deeper (envOfC qual (defScope st) s.heap.objs.size f cdv)) → (A.deeper (envOfC qual (defScope st) s.heap.objs.size f cdv)).guards = some [] →
      sp vs H Q E → ∃ t, PSs (cxOf CX P w K mg base N qual (defScope st) f cdv A outer s H E) (defBody st) t ∧ t { nx := fun _ H' => Q .non H', rt := Q } (L2.start N vs) H) :
    FnG P w K mg base CX (k + 1) f fd ps sp := by
  obtain ⟨oc, od, kV, doc, pm, an, cdv, ct, osl, rfl, lk, hcd⟩ := F.ex
  constructor
  · exact ln
  · intro A outer s H args us vs Q E hr hg e0 hb r z
    have n1 := ln _ _ _ _ z
    have kx : K.In s.heap := e0.mod.kin.keeps fun b o q => (e0.bs b o q).1
    have nl : s.heap.NoLimit := e0.mod.nolimit.keeps fun b o q => (e0.bs b o q).1
    have kinds : ∀ y ∈ ps.zip us, (defScope st).names.lookup y.1 = some .local ∨
        ((defScope st).names.lookup y.1 = some .cell ∧ ((cellsFrom (s.heap.objs.size + 1) (defScope st).names []).lookup y.1).isSome = true) := by
      rintro ⟨n, v⟩ hy
      rcases S.par n (List.of_mem_zip hy).1 with q | q
      · exact Or.inl q
      · exact Or.inr (And.intro q (PySem.W.cellsFrom_some _ _ _ (.inl q)))
    apply codeAny_call_function hr.depth (kx _ _ lk) rfl S.co S.gen rfl (PySem.W.codeRec_of kx hcd) (hb _ _ _ _ ?_)
    apply wpAny_newFunctionEnv_cells S.kind kinds
    intro env he s1 x
    subst he
    refine And.intro (nl.keeps x.toInCall.keep) (codeAny_func ?_)
    obtain ⟨t, ht, hq⟩ := bd cdv A outer s H vs Q E (hr.deeper _) hg z
    have J0 : Inv (cxOf CX P w K mg base N qual (defScope st) f cdv A outer s H E) [] (L2.start N vs) H s1 := inv_start S hr.hd e0 n1 r x
    refine wpAny_mono (ht.run [] s1 (L2.start N vs) H _ J0 hq) ?_ (fun e s' hs => hs)
    intro fl s' hs
    have done : ∀ {σ' : L2.St} {H' : Hp} {v : V} {u : Value}, Inv (cxOf CX P w K mg base N qual (defScope st) f cdv A outer s H E) [] σ' H' s' → RelV v u → Q v H' → CE outer P w H s Q u s' := by
      intro σ' H' v u J rv q
      exact ⟨v, H', J.os, J.bare, J.base, J.hok, rv, q⟩
    cases fl with
    | next => obtain ⟨σ', H', J, q⟩ := hs; exact done (v := V.non) (u := Value.none) J rfl q
    | ret u => obtain ⟨v, σ', H', J, rv, q⟩ := hs; exact done J rv q
    | brk => exact hs.elim fun _ z => z.elim fun _ z => False.elim z.2
    | cont => exact hs.elim fun _ z => z.elim fun _ z => False.elim z.2
end
section
variable {X : Cx} {CX : CXT} {k : Nat} {f : Addr} {fd : FuncData} {ps : List Str} {sp : Sp} {E : XK} {x : Str} {p pos : Pos} {e : Expr} {es : List Expr} {t : TA}
theorem runG_fn {pins : List (Addr × Obj)} {σ : L2.St} {H : Hp} {s : Shared} {Q : VK} {us : List Value} {vs : List V} (F : FnG X.prog X.w X.K X.mg X.base CX k f fd ps sp)
    (hr : Room k X.A) (hgd : X.A.guards = some []) (hb : Binds X.K fd ps []) (hx : Passes CX X E) (I : Inv X pins σ H s) (r : Vals vs us) (h : sp vs H Q E) :
    wpAny (model X.prog X.w) X.A (call (.ref f) us) (EP X pins σ Q) X.xe s := by
  have n1 : us.length = ps.length := by
    rw [← r.length]; exact F.ln _ _ _ _ h
  have hb' := hb s us I.kIn (by rw [List.append_nil]; exact n1)
  rw [List.append_nil] at hb'
  apply wpAny_call
  refine codeAny_mono (F.go X.A X.stack s H ⟨us, []⟩ us vs Q E hr hgd I.env0 hb' r h) ?_
  intro res s' hq
  match res, hq with
  | .error e, hq => exact hx pins σ H s e s' I hq
  | .ok (.ret u), hq => exact I.after hq
  | .ok .next, hq => exact hq.elim
  | .ok .brk, hq => exact hq.elim
  | .ok .cont, hq => exact hq.elim
theorem peG_call (F : FnG X.prog X.w X.K X.mg X.base CX k f fd ps sp) (hr : Room k X.A) (hgd : X.A.guards = some []) (hg : Gl X x) (hm : X.mg x = some (.ref f)) (hk : PySem.W.keepIn X.K (.ref f) = true) (hb : Binds X.K fd ps [])
    (hx : Passes CX X E) (ha : PA X (e :: es) t) (hdb : (x == ("__debug__" : Str)) = false := by decide)
    (he : starEach (e :: es) X.env = (false, eval e X.env) :: starEach es X.env := by rfl) (hpl : (backTo pos (starEach es X.env)).any (·.1) = false := by rfl) :
    PE X (.Call (.Name x p) (e :: es) [] pos) (fun σ H Q => t σ H fun vs H1 => sp vs H1 Q E) := by
  constructor
  intro pins s σ H Q I h
  apply wpAny_Call_Name_kw (ld_glob I hg hm ?_ hdb)
  exact PySem.W.callWith_K (h₀ := X.base) I.ok.mod.kin hk (thn (ha.run pos pins s σ H _ I h) fun us s1 ⟨vs, H1, I1, r, q⟩ => And.intro I1.kIn (runG_fn F hr hgd hb hx I1 r q)) he hpl
end
/-! by value -/
def OkG (P : Program) (w : World) (K : PySem.W.Frag) (mg : Str → Option Value) (base : Heap) (G : Gx) (k : Nat) (x : Str) (n : Nat) (fs : FnSem) : Prop :=
  ∃ a fd ps, FnG P w K mg base CX0 k a fd ps (spN G n fs) ∧ PySem.W.keepIn K (.ref a) = true ∧ Binds K fd ps [] ∧ mg x = some (.ref a)
section
variable {P : Program} {w : World} {K : PySem.W.Frag} {mg : Str → Option Value} {base : Heap} {G : Gx} {E : WX} {X : Cx}
theorem fnG_ok {x qual : Str} {st : Stmt} {f : Addr} {fd : FuncData} {N ps : List Str} {k n : Nat} {m : SM} (F : Fun K x qual st f fd) (S : FnScope N ps (defScope st)) (hn : N.length = n)
    (hb : ∀ (cdv : Value) (A : Around) (outer : List Env) (s : Shared) (H : Hp) (Ex : XK), Room k (A.deeper (envOfC qual (defScope st) s.heap.objs.size f cdv)) → (A.deeper (envOfC qual (defScope st) s.heap.objs.size f cdv)).guards = some [] →
      PSs (cxOf CX0 P w K mg base N qual (defScope st) f cdv A outer s H Ex).nox (defBody st) (tS G E0w m)) : FnG P w K mg base CX0 (k + 1) f fd ps (spN G ps.length (runP n m)) :=
  fnG_of F S (fun vs H Q E h => h.1) (fun cdv A outer s H vs Q Ex hr hg h => ⟨_, (hb cdv A outer s H Ex hr hg).nox, run_body hn h.2⟩)
theorem okG_of {x qual : Str} {st : Stmt} {N ps : List Str} {k n nn : Nat} {m : SM} (D : At K mg x qual st ps) (S : FnScope N ps (defScope st)) (hn : N.length = nn) (hp : ps.length = n)
    (hb : ∀ (f : Addr) (cdv : Value) (A : Around) (outer : List Env) (s : Shared) (H : Hp) (Ex : XK), Room k (A.deeper (envOfC qual (defScope st) s.heap.objs.size f cdv)) → (A.deeper (envOfC qual (defScope st) s.heap.objs.size f cdv)).guards = some [] →
      PSs (cxOf CX0 P w K mg base N qual (defScope st) f cdv A outer s H Ex).nox (defBody st) (tS G E0w m)) : OkG P w K mg base G (k + 1) x n (runP nn m) := by
  obtain ⟨a, fd, F, b, g⟩ := D
  subst hp
  exact ⟨a, fd, ps, fnG_ok F S hn (hb a), F.kp, b, g⟩
theorem pI_callG {k n : Nat} {x : Str} {p pos : Pos} {e : Expr} {es : List Expr} {m : AM} {fs : FnSem} (O : OkG X.prog X.w X.K X.mg X.base G k x n fs) (hr : Room k X.A) (hgd : X.A.guards = some []) (hg : Gl X x) (ha : PA X (e :: es) (tAr G E m))
    (hdb : (x == ("__debug__" : Str)) = false := by decide) (he : starEach (e :: es) X.env = (false, eval e X.env) :: starEach es X.env := by rfl) (hpl : (backTo pos (starEach es X.env)).any (·.1) = false := by rfl) : PE X (.Call (.Name x p) (e :: es) [] pos) (tI G E (evCall n fs m)) := by
  obtain ⟨a, fd, ps, F, kp, b, g⟩ := O
  refine (peG_call (E := fun _ _ _ => False) F hr hgd hg g kp b (fun _ _ _ _ _ _ _ h => h.elim) ha hdb he hpl).vi fun σ H Q h => ?_
  obtain ⟨as, st, env, s, er, p⟩ := h
  refine ⟨as, st, env, s, er, (p.bind s.len).mono fun ds as1 st1 H1 e1 s1 p1 vs r1 => ?_⟩
  split at p1
  · rename_i hn
    exact ⟨r1.len_of hn, as1, st1, ds, s1, r1, Post.noX (p1.mono fun w as3 st3 H3 e3 s3 q v rv => q v (rv.from (fresh_of e1)))⟩
  · exact p1.elim
end
/-! ### repr of data -/
def rRepr (K : PySem.W.Frag) : List V → Hp → VK → Prop := fun xs H Q => ∃ (x : V) (d : PyData), xs = [x] ∧ Dp K H x d ∧ d.showable = true ∧ d.hasDict = false ∧ d.depth ≤ 60 ∧ d.shown.length ≤ sizeLine ∧ Q (.str d.shown) H
theorem call_repr {X : Cx} (hu : X.A.units + 65 < cLine) (hgd : X.A.guards = some []) : CallR X (.builtin "repr") (rRepr X.K) := by
  intro pins s σ H xs us Q I r h
  obtain ⟨x, d, rfl, hd, hs, hn, hdp, hz, q⟩ := h
  obtain ⟨u, rfl, rx⟩ : ∃ u, us = [u] ∧ RelV x u := by
    cases r with
    | cons a t => cases t; exact ⟨_, rfl, a⟩
  obtain ⟨as, rd⟩ := Dp.reads I d x u hd rx
  cases hd with
  | non => cases rx; exact PySem.P.repr_of_none ⟨.str _, H, I.tok _, ⟨_, rfl⟩, q⟩
  | bl b => cases rx; exact PySem.P.repr_of_bool ⟨.str _, H, I.tok _, ⟨_, rfl⟩, q⟩
  | int i =>
    obtain ⟨t, rfl⟩ := rx
    exact PySem.P.repr_of_int (by simpa [PyData.showable] using hs) ⟨.str _, H, I.tok _, ⟨_, rfl⟩, q⟩
  | str z =>
    obtain ⟨t, rfl⟩ := rx
    exact PySem.P.repr_of_str ⟨.str _, H, I.tok _, ⟨_, rfl⟩, q⟩ (by simpa [PyData.shown] using hz)
  | lst h1 h2 =>
    obtain rfl : u = Value.ref _ := rx
    exact repr_of_reads' rd hs (PyData.noDict_hsm hn) hgd (by omega) (fun b o e => e) (fun h' u tk hk => ⟨.str _, H, I.kept (t' := tk) hk, ⟨u, rfl⟩, q⟩) hz
  | tup h1 h2 =>
    obtain rfl : u = Value.ref _ := rx
    exact repr_of_reads' rd hs (PyData.noDict_hsm hn) hgd (by omega) (fun b o e => e) (fun h' u tk hk => ⟨.str _, H, I.kept (t' := tk) hk, ⟨u, rfl⟩, q⟩) hz
def fRepr (ds : List D) (st : Store) : Res Wv := match ds with
  | [d] => if isPy (unref d st) = true ∧ (toPy (unref d st)).showable = true ∧ (toPy (unref d st)).hasDict = false ∧ (toPy (unref d st)).depth ≤ 60 ∧ (toPy (unref d st)).shown.length ≤ 100000 then .ok (.val (.str (toPy (unref d st)).shown)) st else .stuck
  | _ => .stuck
theorem callS_repr {G : Gx} {E : WX} : CallS G E fRepr (rRepr G.K) := by
  intro E' as st H ds xs Q s r p
  unfold fRepr at p
  split at p
  · split at p
    · rename_i c
      cases r with
      | cons r t =>
      cases t
      exact ⟨_, _, rfl, unref_dp s r c.1, c.2.1, c.2.2.1, c.2.2.2.1, szl c.2.2.2.2, p.now s _ (.str _)⟩
    · exact p.elim
  · exact p.elim
end VI
namespace VI
open PySem PySem.Spec PyProof.Rows L2
/-! ### the head for promises where no repr is under way -/
section
variable {P : Program} {w : World} {K : PySem.W.Frag} {mg mb : Str → Option Value} {CX : CXT} {k : Nat} {fa a : Addr} {fd : FuncData} {x : Str} {sp : Sp} {s1 : Shared} {vs : List Value} {ns : List Int}
abbrev LawEnd (s1 : Shared) (r : Result) (s' : Shared) : Prop := r = .ok (.ret (.bool true)) ∧ OldK s1.heap s'.heap ∧ s'.os = s1.os ∧ AllBare s'.gens
theorem lawG_core (kx : K.In s1.heap) (nsM : s1.heap.Ns mainGlobals mg) (nsB : s1.heap.Ns builtinsNs mb) (boot : ∀ y : Str, y ≠ "__name__" → mb y = bootBuiltins y) (lim : s1.heap.NoLimit) (gen0 : s1.gens = #[])
    (scr : s1.heap.get? a = some { cls := .type "list", data := .seq vs.toArray }) (room : Room k callerA)
    (F : ∀ base : Heap, K.In base → base.Ns mainGlobals mg → FnG P w K mg base CX k fa fd [x] sp) (bind : ∀ (s : Shared) (u : Value), BindsTo s fd ⟨[u], []⟩ [(x, u)])
    (noX : ∀ H e s', CX [] H s1 (fun _ _ _ => False) e s' → False) {H : Hp} (only : Only H) (want : sp [.ref a] H (fun v _ => v = .bl true) fun _ _ _ => False)
    (ok : HOk P w H s1.heap) (at1 : ∀ b, H b ≠ none → b = a) (atK : H a ≠ none → K.lookup a = none) :
    codeAny (model P w) callerA (.call (.ref fa) ⟨[.ref a], []⟩) (LawEnd s1) s1 := by
  have isA : ∀ {b : Addr} {u : HO}, H b = some u → b = a := fun {b u} q => at1 b (by rw [q]; exact fun z => nomatch z)
  have keepD : ∀ {b : Addr} {o : Obj} {es : Array DictEntry} {ep : Nat}, s1.heap.get? b = some o → o.data = .dict es ep → H b = none := by
    intro b o es ep e d
    cases q : H b with
    | none => rfl
    | some u =>
      obtain rfl := isA q
      rw [scr] at e
      cases e
      exact nomatch (show Data.seq vs.toArray _ = Data.dict es ep from d)
  have ns1 : ∀ {b : Addr} {m : Str → Option Value}, s1.heap.Ns b m → (hidT s1.heap H).Ns b m := by
    rintro b m ⟨o, es, ep, e, d, r⟩
    exact ⟨o, es, ep, hidT_get e (keepD e d), d, r⟩
  have inb : K.In (hidT s1.heap H) := by
    intro b o e
    refine hidT_get (kx b o e) ?_
    cases q : H b with
    | none => rfl
    | some u =>
      obtain rfl := isA q
      rw [atK (by rw [q]; exact fun z => nomatch z)] at e
      cases e
  obtain ⟨mc, lim1, lim2⟩ := lim
  have env0 : Env0 P w K mg (hidT s1.heap H) callerA [] s1 H := by
    refine ⟨rfl, ⟨inb, ns1 nsM, ⟨mb, ns1 nsB, boot⟩, ⟨mc, ns1 lim1, lim2⟩⟩, fun b o e => of_hidT e, Nat.le_of_eq (hidT_size _ _), trivial, ?_, ok, .of_eq gen0⟩
    intro b hb
    exact nomatch (show b ∈ ([] : List Addr) from hb)
  have run := (F _ inb (ns1 nsM)).go callerA [] s1 H ⟨[.ref a], []⟩ [.ref a] [.ref a] _ _ room rfl env0 (bind s1 (.ref a)) (.cons rfl .nil) want
  refine codeAny_mono run ?_
  intro r s' hr
  match r, hr with
  | .error e, hr => exact (noX H e s' hr).elim
  | .ok .next, hr => exact hr.elim
  | .ok .brk, hr => exact hr.elim
  | .ok .cont, hr => exact hr.elim
  | .ok (.ret u), hr =>
    obtain ⟨v, H', hos, hbare, hun, hok', hrel, hv⟩ := hr
    obtain rfl : v = .bl true := hv
    obtain rfl : u = Value.bool true := hrel
    refine ⟨rfl, OldK.of_keep ?_, hos, hbare⟩
    intro b o e
    cases q : H b with
    | none => exact hun.keep b o e q (fun z => nomatch (show b ∈ ([] : List Addr) from z)) (fun z => nomatch z)
    | some u =>
      rcases only b with z | ⟨ob, xs, z⟩
      · rw [z] at q; cases q
      · have z2 := hun.frzs b ob _ z
        obtain ⟨e1, _⟩ := ok b _ z
        obtain ⟨e2, _⟩ := hok' b _ z2
        rw [e] at e1
        cases e1
        exact e2
theorem lawG_call (kx : K.In s1.heap) (nsM : s1.heap.Ns mainGlobals mg) (nsB : s1.heap.Ns builtinsNs mb) (boot : ∀ y : Str, y ≠ "__name__" → mb y = bootBuiltins y) (lim : s1.heap.NoLimit) (gen0 : s1.gens = #[])
    (scr : s1.heap.get? a = some { cls := .type "list", data := .seq vs.toArray }) (scrI : IntsAre vs ns) (ln : ns.length ≤ sizeLine) (room : Room k callerA)
    (F : ∀ base : Heap, K.In base → base.Ns mainGlobals mg → FnG P w K mg base CX k fa fd [x] sp) (bind : ∀ (s : Shared) (u : Value), BindsTo s fd ⟨[u], []⟩ [(x, u)])
    (want : ∀ H : Hp, Only H → SqL K H a (ns.map V.int) → sp [.ref a] H (fun v _ => v = .bl true) fun _ _ _ => False)
    (noX : ∀ H e s', CX [] H s1 (fun _ _ _ => False) e s' → False) :
    codeAny (model P w) callerA (.call (.ref fa) ⟨[.ref a], []⟩) (LawEnd s1) s1 := by
  have rel := vals_ints scrI
  have lv := scrI.length
  cases hk : K.lookup a with
  | some o =>
    have e := kx a o hk
    rw [scr] at e
    cases e
    have only : Only fun _ => none := fun _ => Or.inl rfl
    have sq : SqL K (fun _ => none) a (ns.map V.int) := Or.inr ⟨_, vs.toArray, _, hk, rfl, rfl, rfl, by rw [List.size_toArray, lv]; exact ln, by simpa using rel⟩
    exact lawG_core kx nsM nsB boot lim gen0 scr room F bind noX only (want _ only sq) (fun b u z => nomatch (show (none : Option HO) = some u from z)) (fun b z => absurd rfl z) (fun z => absurd rfl z)
  | none =>
    let o1 : Obj := { cls := .type "list", data := .seq vs.toArray }
    let H1 : Hp := fun b => if b = a then some (.frz o1 (.lst (ns.map V.int))) else none
    have yes : H1 a = some (.frz o1 (.lst (ns.map V.int))) := if_pos rfl
    have no : ∀ {b : Addr}, b ≠ a → H1 b = none := fun h => if_neg h
    have only : Only H1 := by
      intro b
      by_cases hb : b = a
      · subst hb; exact Or.inr ⟨_, _, yes⟩
      · exact Or.inl (no hb)
    refine lawG_core kx nsM nsB boot lim gen0 scr room F bind noX only (want _ only (Or.inl (Or.inr ⟨o1, yes⟩))) ?_ ?_ (fun _ => hk)
    · intro b u z
      by_cases hb : b = a
      · subst hb
        rw [yes] at z
        cases z
        exact ⟨scr, by rw [List.length_map]; exact ln, vs, _, rel, scr⟩
      · rw [no hb] at z; cases z
    · intro b z
      by_cases hb : b = a
      · exact hb
      · exact absurd (no hb) z
end
theorem walkG_of {l : PySem.W.OpenLaw} {n k : Nat} {q : Program} {loose : List Str} {XP : (Str → Option Value) → Heap → Prop} {YP : World → Heap → Prop} {d : DefRec} {K : Params → PySem.W.Frag} {CX : World → CXT} {sp : World → Sp} {x : Str}
    (most : l.most = some n) (mostL : n ≤ sizeLine) (nodef : d.params.defaults = []) (room : Room k callerA) (inK : ∀ (w : World) (h : Heap), YP w h → (K w.params).In h)
    (F : ∀ (w : World) (mg : Str → Option Value) (fa : Addr) (h : Heap), (K w.params).In h → h.Ns mainGlobals mg → mg d.name = some (.ref fa) → ∃ fd : FuncData, (∀ (s : Shared) (u : Value), BindsTo s fd ⟨[u], []⟩ [(x, u)]) ∧
        ∀ base : Heap, (K w.params).In base → base.Ns mainGlobals mg → FnG l.prog w (K w.params) mg base (CX w) k fa fd [x] (sp w))
    (want : ∀ (w : World) (H : Hp) (a : Addr) (ns : List Int), ns.length ≤ n → Only H → SqL (K w.params) H a (ns.map V.int) → sp w [.ref a] H (fun v _ => v = .bl true) fun _ _ _ => False)
    (noX : ∀ (w : World) (H : Hp) (s : Shared) (e : Value) (s' : Shared), CX w [] H s (fun _ _ _ => False) e s' → False) :
    PySem.W.WalkO q loose XP YP l.row.toRowW d [] (fun f vs => PySem.call f vs) := by
  refine Att.attach_call most nodef fun w s0 s1 mg mb fa o pm cd doc a vs ns G Y ho hd hcd hmg hobj scrI ln hg => ?_
  have kx := inK w _ Y
  obtain ⟨fd, hb, hF⟩ := F w mg fa _ kx G.T.g hmg
  exact lawG_call kx G.T.g G.T.b G.T.builtins G.T.nolimit hg hobj scrI (Nat.le_trans ln mostL) room hF hb (fun H only sq => want w H a ns ln only sq) (fun H e s' => noX w H s1 e s')
end VI
namespace VI
open PySem PySem.Spec PyProof.Rows L2
section
variable {X : Cx} {G : Gx} {E : WX} {De : Ends} {as as' as1 : List Addr} {st st' st1 : Store} {H H' H1 : Hp} {σ : L2.St} {pos : Pos} {L : Addr → Prop}
/-! ### xs[::-1] -/
def evRev (m : EM) : EM := fun env st => (m env st).bind fun w st1 => match lstOf w.d st1 with
  | some (ds, _) => .ok (.new (.lst ds.reverse)) st1
  | none => .stuck
theorem RelDs.rev {ds : List D} {vs : List V} (r : RelDs G as L H ds vs) : RelDs G as L H ds.reverse vs.reverse := by
  induction ds generalizing vs with
  | nil => cases r; exact .nil
  | cons d ds ih =>
    cases r with
    | cons r t =>
      rw [List.reverse_cons, List.reverse_cons]
      exact (ih t).append (.cons r .nil)
theorem pI_rev {e : Expr} {k : Nat} {p1 p2 p3 : Pos} {m : EM} (hK : G.K = X.K) (he : PE X e (tI G E m)) : PE X (.Subscript e (.Slice none none (some (.UnaryOp .USub (.Constant (.int 1) k p1) p2)) p3) pos) (tI G E (evRev m)) :=
  (pe_revL he).vi fun σ H Q ⟨as, st, env, s, er, p⟩ => ⟨as, st, env, s, er, (p.bind s.len).mono fun w as1 st1 H1 e1 s1 p1 v r => by
    split at p1
    · rename_i ds src hl
      obtain ⟨pa, vs, rfl, h1, hr⟩ := lstOf_sq s1 r.d hl
      rw [← hK]
      exact ⟨pa, vs, rfl, h1, fun t ht => p1 as1 _ (Ext.lay ht) (s1.laid ht) _ ((RelW.newLst s1 hr.rev ht).from (fresh_of e1))⟩
    · exact p1.elim⟩
/-! ### a text so many times -/
def fMulA (a b : D) (st : Store) : Res Wv := match a, b with
  | .str x, .int n => if x.length ≤ 1000 ∧ 0 ≤ n ∧ n ≤ 1000 then .ok (.val (.str (Txt.mul x n))) st else .stuck
  | a, b => fMulT a b st
def rMulS : R2 := fun x y H Q => ∃ i n, x = .str i ∧ y = .int n ∧ MulOk i n ∧ Q (.str (Txt.mul i n)) H
theorem op_mulS : OpR X (binaryOp .Mult) rMulS := by
  intro pins s σ H x y v u Q I rx ry h
  obtain ⟨i, n, rfl, rfl, ok, q⟩ := h
  obtain ⟨t, rfl⟩ := rx
  obtain ⟨t2, rfl⟩ := ry
  exact SB.mul ok fun t' k => ⟨.str _, H, I.tok _, ⟨_, rfl⟩, q⟩
theorem mulOk {x : Str} {n : Int} (h : x.length ≤ 1000) (h0 : 0 ≤ n) (h1 : n ≤ 1000) : MulOk x n := by
  refine ⟨by rw [decide_eq_false (by omega), decide_eq_false (by omega)]; rfl, fun h2 _ => ?_, fun h2 _ => ?_⟩
  · have : (9223372036854775 : Int) ≤ (2 ^ 63 - 1) / n := by
      rw [Int.le_ediv_iff_mul_le (by omega)]; omega
    omega
  · have e : x.length * n.toNat ≤ 1000 * 1000 := Nat.mul_le_mul h (by omega)
    unfold Builtin.Str.tooLong
    exact decide_eq_false (by have : (1000 * 1000 : Nat) < sizeLine := by decide
                              omega)
theorem opS_mulA : OpS G E fMulA (fun x y H Q => rMulS x y H Q ∨ (rI CMul (fun i j => .int (i * j)) x y H Q ∨ rRepT G.K x y H Q)) := by
  intro E' as st H d1 d2 x y Q s r1 r2 p
  unfold fMulA at p
  split at p
  · split at p
    · rename_i h
      cases r1; cases r2
      exact .inl ⟨_, _, rfl, rfl, mulOk h.1 h.2.1 h.2.2, p.now s _ (.str _)⟩
    · exact p.elim
  · exact .inr (opS_mulT (E := E) E' as st H _ _ x y Q s r1 r2 p)
/-! ### int(..), str(..) -/
def fInt1 (ds : List D) (st : Store) : Res Wv := match ds with
  | [.int i] => .ok (.val (.int i)) st
  | [.bl b] => .ok (.val (.int (if b then 1 else 0))) st
  | _ => .stuck
theorem callS_int1 : CallS G E fInt1 (fun xs H Q => (∃ i, xs = [.int i] ∧ Q (.int i) H) ∨ ∃ k, xs = [.bl k] ∧ Q (.int (if k then 1 else 0)) H) := by
  intro E' as st H ds xs Q s r p
  unfold fInt1 at p
  split at p
  · cases r with
    | cons r t =>
    cases t; cases r
    exact .inl ⟨_, rfl, p.now s _ (.int _)⟩
  · cases r with
    | cons r t =>
    cases t; cases r
    exact .inr ⟨_, rfl, p.now s _ (.int _)⟩
  · exact p.elim
def fStrI (ds : List D) (st : Store) : Res Wv := match ds with
  | [.int i] => if i.natAbs.log2 < 1920 then .ok (.val (.str (toString i : String))) st else .stuck
  | _ => .stuck
theorem callS_strI : CallS G E fStrI (fun xs H Q => ∃ i, xs = [.int i] ∧ i.natAbs.log2 < 1920 ∧ Q (.str (toString i)) H) := by
  intro E' as st H ds xs Q s r p
  unfold fStrI at p
  split at p
  · split at p
    · rename_i h
      cases r with
      | cons r t =>
      cases t; cases r
      exact ⟨_, rfl, h, p.now s _ (.str _)⟩
    · exact p.elim
  · exact p.elim
/-! ### a, b, .. = x, x a tuple, a list or a cell -/
def colX (d : D) (st : Store) : Option (List D) := match d with
  | .tup ds => some ds
  | d => (lstOf d st).map (·.1)
def sUn (gs : List GD) (m : EM) : SM := fun env st => SRes.of env (m env st) fun w st1 => match colX w.d st1 with
  | some ds => match gdSeq gs ds env with
    | some env1 => .nx env1 st1
    | none => .stuck
  | none => .stuck
def tGX (G : Gx) (gs : List GD) (sl : List Nat) : TG := fun v σ H Q => ∃ as st env d ds env', StR G as st H ∧ EnvR G as (Live as st) H env σ ∧ RelD G as (Live as st) H d v ∧ colX d st = some ds ∧ gdSeq gs ds env = some env' ∧ ∀ σ', EnvR G as (Live as st) H env' σ' → SameBut sl σ' σ → Q σ' H
theorem gdSeq_len : ∀ (gs : List GD) (ds : List D) (env env' : DEnv), gdSeq gs ds env = some env' → ds.length = gs.length
  | [], [], _, _, _ => rfl
  | [], _ :: _, _, _, h => nomatch h
  | _ :: _, [], _, _, h => nomatch h
  | g :: gs, d :: ds, env, env', h => by
    have h : (g d env).bind (fun env1 => gdSeq gs ds env1) = some env' := h
    cases q1 : g d env with
    | none => rw [q1] at h; cases h
    | some env1 =>
      rw [q1] at h
      simp [gdSeq_len gs ds env1 env' h]
theorem pG_unX {es : List Expr} {k : Nat} {gs : List GD} {sl : List Nat} {n : Nat} (hK : G.K = X.K) (hc : X.calm = true) (h : PGs X es (tGs G gs sl)) (hgs : gs.length = n)
    (hn : (assignEach es X.env).length = n := by rfl) (hst : (assignEach es X.env).findIdx? (·.1) = none := by rfl) : PG X (.Tuple es k pos) (tGX G gs sl) :=
  (L2.PG.viOr (pg_tup (k := k) (pos := pos) hc h hn hst) (pg_unl (k := k) (pos := pos) hc h hn hst)).vi fun v σ H Q ⟨as, st, env, d, ds, env', s, er, r, hcol, q, kk⟩ => by
    have ln := gdSeq_len _ _ _ _ q
    cases d with
    | tup ds' =>
      cases hcol
      cases r with
      | @tup _ p vs hT hd =>
        rw [hK] at hT
        exact .inl ⟨p, vs, rfl, hT, by rw [← hd.length, ln, hgs], as, st, env, _, env', s, er, hd, q, kk⟩
    | _ =>
      simp only [colX] at hcol
      cases hl : lstOf _ st with
      | none => rw [hl] at hcol; cases hcol
      | some ps =>
        obtain ⟨ds', src⟩ := ps
        rw [hl] at hcol
        cases hcol
        obtain ⟨p, vs, rfl, h1, hr⟩ := lstOf_sq s r hl
        rw [hK] at h1
        exact .inr ⟨p, vs, rfl, h1, by rw [← hr.length, ln, hgs], as, st, env, _, env', s, er, hr, q, kk⟩
theorem pS_un {es : List Expr} {k : Nat} {e : Expr} {m : EM} {gs : List GD} {sl : List Nat} {n : Nat} {p2 : Pos} (hK : G.K = X.K) (hc : X.calm = true) (he : PE X e (tI G E m)) (h : PGs X es (tGs G gs sl)) (hgs : gs.length = n)
    (hn : (assignEach es X.env).length = n := by rfl) (hst : (assignEach es X.env).findIdx? (·.1) = none := by rfl)
    (hs : swapsWithSole [.Tuple es k p2] e pos.line X.env = pure false := by rfl) (hw : swappedStores [.Tuple es k p2] e X.env = pure none := by rfl)
    (h1 : (assignEach [.Tuple es k p2] X.env).map (·.2) = [assign (.Tuple es k p2) X.env] := by rfl) : PS X (.Assign [.Tuple es k p2] e pos) (tS G E (sUn gs m)) :=
  (ps_asg he (pG_unX (k := k) (pos := p2) hK hc h hgs hn hst) hs hw h1).vi fun De σ H ⟨as, st, env, s, er, p⟩ => by
    refine ⟨as, st, env, s, er, (SPost.of s.len er p).mono fun w as1 st1 H1 e1 s1 p1 v r => ?_⟩
    split at p1
    · rename_i ds hcol
      split at p1
      · rename_i env1 q
        exact ⟨as1, st1, env, w.d, ds, env1, s1, er.ext e1 s.len, r.d, hcol, q, fun σ' er' _ => p1 as1 H1 σ' e1 s1 er'⟩
      · exact p1.elim
    · exact p1.elim
end
end VI
namespace VI
open PySem PySem.Spec PyProof.Rows L2
theorem le_lv {j m n : Nat} (h : j ≤ m) : j ≤ Nat.add m n := Nat.le_trans h (Nat.le_add_right m n)
/-- what never comes to an end promises anything -/
theorem ok_stuck {P : Program} {w : World} {K : PySem.W.Frag} {mg : Str → Option Value} {base : Heap} {G : Gx} {k n : Nat} {x qual : Str} {st : Stmt} {ps : List Str} (D : At K mg x qual st ps) (hp : ps.length = n) :
    Ok P w K mg base G k x n (fun _ _ => .stuck) := by
  obtain ⟨a, fd, F, b, g⟩ := D
  have no : ∀ vs H Q E, spN G n (fun _ _ => .stuck) vs H Q E → False := fun vs H Q E ⟨_, as, st, ds, s, r, p⟩ => p.elim
  exact ⟨a, fd, ps, ⟨fun vs H Q E h => (no _ _ _ _ h).elim, fun A outer s H args us vs Q E _ _ _ _ h => (no _ _ _ _ h).elim⟩, F.kp, b, g⟩
end VI
namespace VI
open PySem PySem.Spec PyProof.Rows L2
/-! ### comprehensions whose items leave cells behind -/
theorem lcGo_full {α : Type} {iv : IterV} (hs : iv.src = none) {g : GD} {t : TM} {e : EM} {env : DEnv} (inj : α → D) (e1 : α → DEnv) (I : Nat → List D → Store → Prop) (k : Nat) :
    ∀ (items : List α) (i0 : Nat) (acc : List D) (s : Store), s[k]? = some (some (.lst acc)) → acc.length + items.length ≤ 100000 → I i0 acc s → (∀ d ∈ items, g (inj d) env = some (e1 d)) →
      (∀ j d, items[j]? = some d → ∀ acc s, s[k]? = some (some (.lst acc)) → I (i0 + j) acc s → ∃ c s1, t (e1 d) s = .ok c s1 ∧ s1[k]? = some (some (.lst acc)) ∧ (c = false → I (i0 + j + 1) acc s1) ∧
        (c = true → ∃ w s2, e (e1 d) s1 = .ok w s2 ∧ s2[k]? = some (some (.lst acc)) ∧ I (i0 + j + 1) (acc ++ [w.d]) (s2.set k (some (.lst (acc ++ [w.d])))))) →
      ∃ acc' s', lcGo iv g t e k (items.map inj) acc env s = .ok acc' s' ∧ s'[k]? = some (some (.lst acc')) ∧ I (i0 + items.length) acc' s'
  | [], i0, acc, s, hk, _, hI, _, _ => by
    refine ⟨acc, s, ?_, hk, hI⟩
    unfold lcGo
    simp [List.map_nil, srcOk, hs, hk]
  | d :: items, i0, acc, s, hk, hl, hI, hg, hstep => by
    obtain ⟨c, s1, q1, hk1, n1, y1⟩ := hstep 0 d rfl acc s hk hI
    simp only [List.length_cons] at hl
    have next : ∀ j x, items[j]? = some x → ∀ acc s, s[k]? = some (some (.lst acc)) → I (i0 + 1 + j) acc s → ∃ c s1, t (e1 x) s = .ok c s1 ∧ s1[k]? = some (some (.lst acc)) ∧ (c = false → I (i0 + 1 + j + 1) acc s1) ∧
        (c = true → ∃ w s2, e (e1 x) s1 = .ok w s2 ∧ s2[k]? = some (some (.lst acc)) ∧ I (i0 + 1 + j + 1) (acc ++ [w.d]) (s2.set k (some (.lst (acc ++ [w.d]))))) := fun j x hx acc s hk hI => by
      have q := hstep (j + 1) x (by simpa using hx) acc s hk (by rw [show i0 + (j + 1) = i0 + 1 + j by omega]; exact hI)
      rw [show i0 + (j + 1) + 1 = i0 + 1 + j + 1 by omega] at q
      exact q
    rw [List.map_cons]
    unfold lcGo
    have go1 : srcOk iv s = true := by simp [srcOk, hs]
    rw [if_pos ⟨go1, hk⟩, hg d List.mem_cons_self]
    simp only [q1, noX, bind_ok]
    have fl : i0 + (d :: items).length = i0 + 1 + items.length := by simp; omega
    rw [fl]
    cases c with
    | false =>
      rw [if_neg Bool.false_ne_true]
      exact lcGo_full hs inj e1 I k items (i0 + 1) acc s1 hk1 (by omega) (n1 rfl) (fun x hx => hg x (List.mem_cons_of_mem _ hx)) next
    | true =>
      obtain ⟨w, s2, q2, hk2, I2⟩ := y1 rfl
      rw [if_pos rfl, q2]
      obtain ⟨hlt, _⟩ := List.getElem?_eq_some_iff.mp hk2
      simp only [noX, bind_ok]
      rw [if_pos ⟨hk2, by omega⟩]
      exact lcGo_full hs inj e1 I k items (i0 + 1) (acc ++ [w.d]) (s2.set k (some (.lst (acc ++ [w.d])))) (List.getElem?_set_self hlt) (by simp; omega) I2 (fun x hx => hg x (List.mem_cons_of_mem _ hx)) next
theorem evLc_full {α : Type} {own : List Nat} {m : IM} {g : GD} {t : TM} {e : EM} {env : DEnv} {st st1 : Store} {items : List α} (inj : α → D) (e1 : α → DEnv) (I : Nat → List D → Store → Prop) (hm : m env st = .ok ⟨items.map inj, none⟩ st1) (hl : items.length ≤ 100000) (h0 : I 0 [] (st1 ++ [some (.lst [])]))
    (hc : ∀ acc s, I items.length acc s → refsLts st1.length acc = true ∧ cutOk st1 s = true) (hg : ∀ d ∈ items, g (inj d) (wipeD env own) = some (e1 d))
    (hstep : ∀ j d, items[j]? = some d → ∀ acc s, s[st1.length]? = some (some (.lst acc)) → I j acc s → ∃ c s1, t (e1 d) s = .ok c s1 ∧ s1[st1.length]? = some (some (.lst acc)) ∧ (c = false → I (j + 1) acc s1) ∧
        (c = true → ∃ w s2, e (e1 d) s1 = .ok w s2 ∧ s2[st1.length]? = some (some (.lst acc)) ∧ I (j + 1) (acc ++ [w.d]) (s2.set st1.length (some (.lst (acc ++ [w.d])))))) :
    ∃ acc s, evLc own m g t e env st = .ok (.new (.lst acc)) (s.take st1.length) ∧ I items.length acc s := by
  unfold evLc
  rw [hm]
  simp only [bind_ok]
  obtain ⟨acc, s, q, _, hI⟩ := lcGo_full (iv := ⟨items.map inj, none⟩) rfl inj e1 I st1.length items 0 [] (st1 ++ [some (.lst [])]) (by simp) (by simpa using hl) h0 hg (fun j d hd acc s hk hI => by
    have q := hstep j d hd acc s hk (by rw [Nat.zero_add] at hI; exact hI)
    rw [show 0 + j + 1 = j + 1 by omega]
    exact q)
  rw [Nat.zero_add] at hI
  obtain ⟨r1, r2⟩ := hc acc s hI
  refine ⟨acc, s, ?_, hI⟩
  rw [q]
  simp only [bind_ok]
  rw [if_pos ⟨r2, r1⟩]
/-- statement by statement -/
theorem run_step {a b : SM} {env env' : DEnv} {s s' : Store} (h : a env s = .nx env' s') : sSeq a b env s = b env' s' := by
  rw [sSeq_s, h]; rfl
theorem run_ret {k : Nat} {b : SM} {args : List D} {s s' : Store} {w : Wv} (h : b (args.map some ++ List.replicate (k - args.length) none) s = .ret w s') : runP k b args s = fin s w s' := by
  unfold runP
  rw [h]
theorem itR1_of {me : EM} {env : DEnv} {st st1 : Store} {j : Int} (h : me env st = .ok (.val (.int j)) st1) (ok : okR j = true) : itR1 (acons me anil) env st = .ok ⟨rangeD 0 j.toNat, none⟩ st1 := by simp [h, ok]
end VI
namespace VI
open PySem PySem.Spec PyProof.Rows L2
/-! ### sets of texts (after the kit's sets of ints) -/
def keyT (e : Int × Value) : Str := match e.2 with | .str k _ => k | _ => Str.empty
def GoodT (w : World) (e : Int × Value) : Prop := ∃ k tk, e.2 = Value.str k tk ∧ e.1 = hashStr w k
def SetT (w : World) (h : Heap) (a : Addr) (S : Str → Bool) (n : Nat) : Prop :=
  ∃ o es ep t, h.get? a = some o ∧ o.ExactSet ∧ o.data = .set es ep t ∧ (∀ e ∈ es.toList, GoodT w e) ∧ (es.toList.map keyT).Nodup ∧ (∀ k, S k = true ↔ k ∈ es.toList.map keyT) ∧
    es.size < scanBound ∧ t.fits es.size = true ∧ es.size = n ∧ Ris t.place.toList ∧ (w.params.followText "set-order" = true ∨ t.led = true)
section
variable {P : Program} {w : World} {h h' : Heap} {a : Addr} {S : Str → Bool} {n : Nat}

theorem SetT.at (R : SetT w h a S n) (k : ∀ o, h.get? a = some o → h'.get? a = some o) : SetT w h' a S n := by
  obtain ⟨o, es, ep, t, ho, r⟩ := R
  exact ⟨o, es, ep, t, k o ho, r⟩
theorem SetT.lt (R : SetT w h a S n) : a < h.objs.size := by
  obtain ⟨o, es, ep, t, ho, r⟩ := R
  exact Heap.lt_size ho
theorem SetT.congr {S' : Str → Bool} (R : SetT w h a S n) (e : ∀ k, S' k = S k) : SetT w h a S' n := by
  have q : S' = S := funext e
  rw [q]; exact R
theorem goodT_elems {l : List (Int × Value)} (g : ∀ e ∈ l, GoodT w e) : ElemsOf (PySem.strKind P w) l := fun e he => by
  obtain ⟨k, tk, h1, h2⟩ := g e he
  exact ⟨⟨k, by rw [h1]; exact strKind_is P w k tk, h2⟩, by rw [h1] <;> rfl⟩
theorem goodT_is {e : Int × Value} (g : GoodT w e) (k : Str) : (PySem.strKind P w).is k e.2 = true ↔ keyT e = k := by
  obtain ⟨k0, tk, h1, _⟩ := g
  unfold keyT
  rw [h1]
  show ((k0 == k) = true) ↔ k0 = k
  exact beq_iff_eq
theorem goodT_mem {l : List (Int × Value)} (g : ∀ e ∈ l, GoodT w e) (k : Str) : k ∈ l.map keyT ↔ ∃ e ∈ l, (PySem.strKind P w).is k e.2 = true := by
  rw [List.mem_map]
  constructor
  · rintro ⟨e, he, q⟩
    exact ⟨e, he, (goodT_is (g e he) k).2 q⟩
  · rintro ⟨e, he, q⟩
    exact ⟨e, he, (goodT_is (g e he) k).1 q⟩
theorem SetT.setOf (R : SetT w h a S n) : h.SetOf (PySem.strKind P w) a S n := by
  obtain ⟨o, es, ep, t, ho, hx, hd, g, nd, hm, hb, hf, hn, _⟩ := R
  exact ⟨o, es, ep, t, ho, hx, hd, goodT_elems g, fun k => (hm k).trans (goodT_mem g k), hb, hf, hn⟩
end

section
variable {P : Program} {w : World} {A : Around} {E : Value → Shared → Prop} {s : Shared} {a : Addr} {S : Str → Bool} {n : Nat}

/-! ### add -/
theorem setT_add_tail {g : Bool → Sem Unit} (hg : ∀ (b : Bool) (s₁ : Shared) (Q' : Unit → Shared → Prop), Q' () s₁ → wpAny (model P w) A (g b) Q' E s₁)
    {o : Obj} {es : Array (Int × Value)} {ep : Nat} {t : SetTable} (ho : s.heap.get? a = some o) (hex : o.ExactSet) (hd : o.data = .set es ep t)
    {es1 : Array (Int × Value)} {t2 : SetTable} {S' : Str → Bool} (g1 : ∀ e ∈ es1.toList, GoodT w e) (nd1 : (es1.toList.map keyT).Nodup) (m1 : ∀ k, S' k = true ↔ k ∈ es1.toList.map keyT)
    (hb1 : es1.size < scanBound) (hf2 : t2.fits es1.size = true) (hr : Ris t2.place.toList) (hl : w.params.followText "set-order" = true ∨ t2.led = true) {wasDummy : Bool} {R : Option Bool → Shared → Prop}
    (hR : ∀ h', Heap.SameBut a s.heap h' → SetT w h' a S' es1.size → R (some true) { s with heap := h' }) :
    wpAny (model P w) A (do
        storeSet a es1 t2
        if (!wasDummy && t2.tooFull) = true then do
            g (relayAll t2 es1 (SetTable.grown es1.size)).2.2
            storeSet a (relayAll t2 es1 (SetTable.grown es1.size)).1 (relayAll t2 es1 (SetTable.grown es1.size)).2.1
            pure (some true)
          else pure (some true)) R E s := by
  refine wpAny_bind (wpAny_storeSet_of ho hd ?_ (fits_of_scanBound hb1))
  have ho1 := store_at (es' := es1) (t' := t2) ho hd
  have sb1 := Heap.SameBut.update s.heap a (Obj.putSet es1 t2)
  split
  · have pm := relayAll_perm t2 es1 (SetTable.grown es1.size)
    have hf3 := relayAll_fits t2 es1 (SetTable.grown es1.size)
    have hr3 := relayAll_ris t2 es1 (SetTable.grown es1.size)
    have hl3 := relayAll_led t2 es1 (SetTable.grown es1.size)
    generalize relayAll t2 es1 (SetTable.grown es1.size) = Z at pm hf3 hr3 hl3 ⊢
    obtain ⟨es2, t3, gave⟩ := Z
    dsimp only at pm hf3 hr3 hl3 ⊢
    have hsz : es2.size = es1.size := by rw [← Array.length_toList, pm.length_eq, Array.length_toList]
    have hb2 : es2.size < scanBound := by rw [hsz]; exact hb1
    refine wpAny_bind (hg _ _ _ ?_)
    refine wpAny_bind (wpAny_storeSet_of ho1 rfl ?_ (fits_of_scanBound hb2))
    have ho2 := store_at (es' := es2) (t' := t3) ho1 rfl
    refine wpAny_pure (hR _ (sb1.trans (Heap.SameBut.update _ a _)) ?_)
    exact ⟨_, es2, _, t3, ho2, hex, rfl, fun e he => g1 e (pm.mem_iff.mp he), (pm.map keyT).nodup_iff.mpr nd1, fun k => (m1 k).trans (pm.map keyT).mem_iff.symm, hb2, hf3, hsz, hr3,
      hl.imp id fun z => by rw [hl3]; exact z⟩
  · exact wpAny_pure (hR _ sb1 ⟨_, es1, _, t2, ho1, hex, rfl, g1, nd1, m1, hb1, hf2, rfl, hr, hl⟩)

theorem setT_add_hashed {k : Str} {tk : Tok} {Q : Bool → Shared → Prop} (R : SetT w s.heap a S n) (room : n + 1 < scanBound)
    (hQ : ∀ h', Heap.SameBut a s.heap h' → SetT w h' a (fun j => S j || decide (j = k)) (if S k = true then n else n + 1) → Q (!S k) { s with heap := h' }) :
    wpAny (model P w) A (setAddHashed a (.str k tk) ((PySem.strKind P w).hash k)) Q E s := by
  obtain ⟨o, es, ep, t, ho, hex, hd, g, nd, hm, hb, hf, hn, hr, hl⟩ := R
  have hkey : (PySem.strKind P w).is k (.str k tk) = true := strKind_is P w k tk
  have hsc : (Value.str k tk).scannable = true := rfl
  have hel : ElemsOf (PySem.strKind P w) es.toList := goodT_elems g
  unfold setAddHashed setAddHashedIn
  refine wpAny_holding (wpAny_bind (wpAny_setState_of ho hd hf ?_))
  dsimp only
  rw [byScan_of hsc hb hel]
  simp only [↓reduceIte]
  unfold setAddByScan
  refine wpAny_bind ?_
  refine wpAny_bind (wpAny_rule ?_)
  refine wpAny_bind (wpAny_setScan_of hkey ho hd hf hel ?_)
  cases hfi : List.findIdx? (fun e => (PySem.strKind P w).is k e.2) es.toList with
  | some j =>
    dsimp only
    obtain ⟨hj, pj, _⟩ := List.findIdx?_eq_some_iff_getElem.mp hfi
    have hSk : S k = true := (hm k).2 ((goodT_mem (P := P) (w := w) g k).2 ⟨es.toList[j], List.getElem_mem hj, pj⟩)
    refine wpAny_pure (wpAny_pure ?_)
    have q := hQ s.heap (Heap.SameBut.refl a s.heap) ⟨o, es, ep, t, ho, hex, hd, g, nd, fun i => by
      rw [Bool.or_eq_true, decide_eq_true_eq, ← hm i]
      exact ⟨fun z => z.elim id (fun e => e ▸ hSk), .inl⟩, hb, hf, by rw [if_pos hSk]; exact hn, hr, hl⟩
    rw [hSk] at q
    exact q
  | none =>
    dsimp only
    have hnk : k ∉ es.toList.map keyT := fun z => by
      obtain ⟨e, he, q⟩ := (goodT_mem (P := P) (w := w) g k).1 z
      have c := List.findIdx?_eq_none_iff.mp hfi e he
      rw [q] at c
      cases c
    have hSk : S k = false := by
      cases q : S k with
      | false => rfl
      | true => exact absurd ((hm k).1 q) hnk
    have hgw : ∀ (b : Bool) {s₁ : Shared} {Q' : Unit → Shared → Prop}, Q' () s₁ → wpAny (model P w) A (match b with | true => rule "set.scan.the-table-gave-way" | false => pure ()) Q' E s₁ :=
      fun b s₁ Q' q => by cases b <;> first | exact wpAny_pure q | exact wpAny_rule q
    have pm := layNew_perm t es ((PySem.strKind P w).hash k) (.str k tk)
    have hf1 := layNew_fits t es ((PySem.strKind P w).hash k) (.str k tk)
    have hr1 := layNew_ris t es ((PySem.strKind P w).hash k) (.str k tk) hr
    have hl1 := layNew_led t es ((PySem.strKind P w).hash k) (.str k tk)
    generalize layNew t es ((PySem.strKind P w).hash k) (.str k tk) = Z at pm hf1 hr1 hl1 ⊢
    obtain ⟨es1, t1, wasDummy, gave⟩ := Z
    dsimp only at pm hf1 hr1 hl1 ⊢
    rw [Array.toList_push] at pm
    have pc : es1.toList.Perm (((PySem.strKind P w).hash k, Value.str k tk) :: es.toList) := pm.trans (List.perm_append_singleton _ _)
    have pk : (es1.toList.map keyT).Perm (k :: es.toList.map keyT) := pc.map keyT
    have g1 : ∀ e ∈ es1.toList, GoodT w e := fun e he => by
      rcases List.mem_cons.mp (pc.mem_iff.mp he) with z | z
      · rw [z]; exact ⟨k, tk, rfl, rfl⟩
      · exact g e z
    have nd1 : (es1.toList.map keyT).Nodup := pk.nodup_iff.mpr (List.nodup_cons.mpr ⟨hnk, nd⟩)
    have m1 : ∀ i, (S i || decide (i = k)) = true ↔ i ∈ es1.toList.map keyT := fun i => by
      rw [Bool.or_eq_true, decide_eq_true_eq, hm i, pk.mem_iff, List.mem_cons]
      exact Or.comm
    have hsz : es1.size = n + 1 := by rw [← Array.length_toList, pc.length_eq, List.length_cons, Array.length_toList, hn]
    have hb1 : es1.size < scanBound := by rw [hsz]; exact room
    have hled : w.params.followText "set-order" = true ∨ t1.led = true := hl.imp id fun z => by rw [hl1]; exact z
    have fin : ∀ h', Heap.SameBut a s.heap h' → SetT w h' a (fun j => S j || decide (j = k)) es1.size → Q true { s with heap := h' } := fun h' sb r => by
      have q := hQ h' sb
      rw [hSk] at q
      rw [hsz] at r
      exact q r
    refine wpAny_bind (hgw _ ?_)
    split
    · refine wpAny_bind ?_
      rw [hashByValue_scannable 8 hsc]
      refine wpAny_pure ?_
      refine setT_add_tail ?_ ho hex hd g1 nd1 m1 hb1 ?_ ?_ ?_ ?_
      · intro b s₁ Q' q; cases b <;> first | exact wpAny_pure q | exact wpAny_rule q
      · first | (split <;> first | exact hf1 | exact SetTable.fits_plain_off hf1) | exact hf1
      · first | (split <;> exact hr1) | exact hr1
      · first | (split <;> exact hled) | exact hled
      · intro h' sb r; dsimp only; exact wpAny_pure (fin h' sb r)
    · refine wpAny_bind (wpAny_pure ?_)
      simp only [↓reduceIte]
      refine setT_add_tail ?_ ho hex hd g1 nd1 m1 hb1 hf1 hr1 hled ?_
      · intro b s₁ Q' q; cases b <;> first | exact wpAny_pure q | exact wpAny_rule q
      · intro h' sb r; dsimp only; exact wpAny_pure (fin h' sb r)

end
theorem setT_new_at {w : World} {h : Heap} {a : Addr} {ns : List Str} (ho : h.get? a = some { cls := .type "set", dict := none, data := .set #[] 0 (.fresh 0 0 (!w.params.followText "set-order")) }) : SetT w h a (fun j => decide (j ∈ ns.take 0)) 0 :=
  ⟨_, #[], 0, _, ho, ⟨rfl, rfl, rfl⟩, rfl, (fun e he => by simp at he), (by simp), (fun k => by simp), (by decide), (by rfl), rfl, List.Pairwise.nil, by
    show _ ∨ (!w.params.followText "set-order") = true
    cases w.params.followText "set-order"
    · exact .inr rfl
    · exact .inl rfl⟩
section
variable {P : Program} {w : World} {A : Around} {E : Value → Shared → Prop} {s : Shared}
theorem set_update_strs {I : Addr} {fp wr : List Addr} {G : Array GenState → Array GenState → Prop} {n : Nat} {Pv : Nat → Value → Prop} {St : Nat → Shared → Prop} {R : Result → Shared → Prop}
    (W : WalksS P w A.in1 I fp wr G n Pv St) (S : Addr) (hSf : S ∉ fp) (ns : List Str) (hn : n = ns.length) (hb : ns.length + 1 < scanBound) (hval : ∀ i v, Pv i v → ∃ k t, ns[i]? = some k ∧ v = .str k t) :
    ∀ (k i : Nat) (s : Shared), n - i = k → i ≤ n → St i s → (∃ c, c ≤ i ∧ SetT w s.heap S (fun j => decide (j ∈ ns.take i)) c) →
      (∀ s' c, Moved (S :: wr) G s s' → c ≤ n → SetT w s'.heap S (fun j => decide (j ∈ ns)) c → R (.ok (.ret .none)) s') →
      codeAny (model P w) A (.builtin "set.update.loop" ⟨[.ref S, .ref I], []⟩) R s := by
  have hSw : S ∉ wr := fun h => hSf (W.sub _ h)
  have hsub : ∀ b ∈ wr, b ∈ S :: wr := fun b hb => List.mem_cons_of_mem _ hb
  intro k
  induction k with
  | zero =>
    intro i s hk' hi hst ⟨c, hc, hS⟩ hR
    have hin : i = n := by omega
    subst hin
    refine codeAny_builtin F.entry_set_update_loop ?_
    rw [Around.under_plainId F.plain_set_update_loop _]
    show wpAny _ A.in1 (pyNext (.ref I) >>= _) _ _ s
    refine wpAny_bind (W.done s _ _ hst fun s' hm => ?_)
    show wpAny _ A.in1 (ret Value.none) _ _ s'
    have e : ns.take i = ns := List.take_of_length_le (by omega)
    rw [e] at hS
    exact wpAny_pure (hR s' c (hm.mono hsub) hc (hS.at fun o e => hm.heap S o hSw e))
  | succ k ih =>
    intro i s hk' hi hst ⟨c, hc, hS⟩ hR
    have hlt : i < n := by omega
    refine codeAny_builtin F.entry_set_update_loop ?_
    rw [Around.under_plainId F.plain_set_update_loop _]
    show wpAny _ A.in1 (pyNext (.ref I) >>= _) _ _ s
    refine wpAny_bind (W.item i s _ _ hlt hst fun v s' hP hst' hm => ?_)
    obtain ⟨z, t, hz, rfl⟩ := hval i v hP
    have hS' : SetT w s'.heap S (fun j => decide (j ∈ ns.take i)) c := hS.at fun o e => hm.heap S o hSw e
    show wpAny _ A.in1 (holding [Value.str z t] (setAdd S (.str z t)) >>= _) _ _ s'
    refine wpAny_bind (wpAny_holding ?_)
    unfold setAdd
    refine wpAny_holding ?_
    refine wpAny_bind ((PySem.strKind P w).pyHash (k := z) (strKind_is _ _ _ _) ?_)
    refine setT_add_hashed (s := { s' with toks := s'.toks + 1 }) hS' (by omega) fun h' hsb hS2 => ?_
    have hS3 : SetT w h' S (fun j => decide (j ∈ ns.take (i + 1))) (if decide (z ∈ ns.take i) = true then c else c + 1) := hS2.congr fun j => by
      rw [List.take_add_one, hz]
      simp [List.mem_append]
    have hc3 : (if decide (z ∈ ns.take i) = true then c else c + 1) ≤ i + 1 := by
      split <;> omega
    refine wpAny_pure ⟨plainId_quiet F.plain_set_update_loop _, ih (i + 1) _ (by omega) hlt (W.frame _ s' _ _ hst' (Nat.le_succ _) fun b hb o e => ?_) ⟨_, hc3, hS3⟩ fun s'' c2 hm'' hc'' hS'' => ?_⟩
    · rw [hsb.2 b (fun h : b = S => hSf (by rw [← h]; exact hb))]; exact e
    · refine hR s'' c2 (Moved.trans W.gtrans ((hm.mono hsub).then_heap (Nat.le_succ _) fun b o hb e => ?_) hm'') hc'' hS''
      rw [hsb.2 b (fun h : b = S => hb (by rw [h]; exact List.mem_cons_self))]; exact e
end
end VI
namespace VI
open PySem PySem.Spec PyProof.Rows L2
theorem fills_s {P : Program} {w : World} {s : Shared} {ns : List Str} {n u : Nat} {Pv : Nat → Value → Prop} (hn : n = ns.length) (hfew : ns.length + 1 < scanBound) (getv : ∀ i v, Pv i v → ∃ k t, ns[i]? = some k ∧ v = .str k t) :
    Fills P w s u n Pv fun h' => ∃ c, SetT w h' s.heap.objs.size (fun j => decide (j ∈ ns)) c := by
  intro A' I fp wr G St W s0 R sf hw au hh st0 nw old hR
  refine set_update_strs W s.heap.objs.size sf ns hn hfew getv (n - 0) 0 s0 rfl (Nat.zero_le _) st0 ⟨0, Nat.le_refl 0, setT_new_at nw⟩ fun s' c hm _ R2 => hR s' hm ⟨c, R2⟩ fun b o e => ?_
  exact hm.heap b o (fun hb => by
    rcases List.mem_cons.mp hb with rfl | hb
    · exact Nat.lt_irrefl _ (Heap.lt_size e)
    · rw [hw b hb] at e; cases e) (old b o e)
def SetTO (w : World) (a : Addr) (S : Str → Bool) (n : Nat) : HO := .ext fun h => SetT w h a S n
section
variable {X : Cx}
theorem setTO_new {w : World} {P : Program} {H : Hp} {h : Heap} {a : Addr} {S : Str → Bool} {n : Nat} (R : SetT w h a S n) : ObjOk P w H h a (SetTO w a S n) := by
  have ⟨o, _, _, _, ho, _⟩ := R
  exact ⟨R, ⟨o, ho⟩, fun h1 h2 p k => SetT.at p k⟩
theorem setTO_get {pins : List (Addr × Obj)} {σ : L2.St} {H : Hp} {s : Shared} {a : Addr} {S : Str → Bool} {n : Nat} (I : Inv X pins σ H s) (ha : H a = some (SetTO X.w a S n)) : SetT X.w s.heap a S n := (I.hok a _ ha).1
theorem setT_len {w : World} {h : Heap} {a : Addr} {ns : List Str} {c : Nat} (R : SetT w h a (fun j => decide (j ∈ ns)) c) : SetT w h a (fun j => decide (j ∈ ns)) (nub ns).length := by
  obtain ⟨o, es, ep, t, h1, h2, h3, h4, h5, h6, h7, h8, h9, r⟩ := R
  have pm := perm_nub h5 fun k => ((h6 k).symm.trans (by simp) : k ∈ es.toList.map keyT ↔ k ∈ ns)
  have e : es.size = (nub ns).length := by rw [← pm.length_eq, List.length_map, Array.length_toList]
  exact ⟨o, es, ep, t, h1, h2, h3, h4, h5, h6, h7, h8, e, r⟩
theorem getv_strs {ns : List Str} {items : Array Value} (h : StrsAre items.toList ns) (i : Nat) (v : Value) (hv : items[i]? = some v) : ∃ k t, ns[i]? = some k ∧ v = .str k t := by
  obtain ⟨y, t, e1, e2⟩ := StrsAre.item h i v (by rw [Array.getElem?_toList]; exact hv)
  exact ⟨y, t, e2, e1⟩
theorem strs_of_vals : ∀ {ns : List Str} {us : List Value}, Vals (ns.map V.str) us → StrsAre us ns
  | [], _, .nil => .nil
  | k :: ns, _, .cons r t => by
    obtain ⟨tk, rfl⟩ := r
    exact .cons _ _ (strs_of_vals t)
/-- set(texts) -/
def rSetS (K : PySem.W.Frag) (w : World) : List V → Hp → VK → Prop := fun xs H Q => ∃ (l : Addr) (ns : List Str), xs = [V.ref l] ∧ (SqL K H l (ns.map V.str) ∨ SqT K H l (ns.map V.str)) ∧ ns.length < 1000 ∧
  ∀ a, H a = none → Q (.ref a) (upd H a (SetTO w a (fun j => decide (j ∈ ns)) (nub ns).length))
theorem cr_setS (hc : X.calm = true) : CallR X (.type "set") (rSetS X.K X.w) := by
  intro pins s σ H xs us Q I r h
  obtain ⟨l, ns, rfl, hl, hf, q⟩ := h
  rw [Vals.ref1 r]
  have hn : H s.heap.objs.size = none := I.hok.fresh (Nat.le_refl _)
  have fin : ∀ (h' : Heap) (tk : Nat), (∃ c, SetT X.w h' s.heap.objs.size (fun j => decide (j ∈ ns)) c) → (∀ b o, s.heap.get? b = some o → h'.get? b = some o) →
      ∃ y H', Inv X pins σ H' { s with heap := h', toks := tk } ∧ RelV y (.ref s.heap.objs.size) ∧ Q y H' := fun h' tk ⟨c, R⟩ k =>
    ⟨.ref s.heap.objs.size, _, I.laid (t' := tk) k (Nat.le_refl _) (setTO_new (setT_len R)), rfl, q _ hn⟩
  rcases hl with hl | hl
  · obtain ⟨its, rv, pl, hz⟩ := I.list hl
    have ev : StrsAre its.toArray.toList ns := by simpa using strs_of_vals rv
    have el : its.toArray.size = ns.length := by have := rv.length; simp at this; simp [this]
    exact call_set_list (P := X.prog) (w := X.w) (I.ok.hd hc) pl.isList (fills_s el (by unfold scanBound; omega) (getv_strs ev)) fin
  · obtain ⟨its, rv, pl, hz⟩ := I.tuple hl
    have ev : StrsAre its.toArray.toList ns := by simpa using strs_of_vals rv
    have el : its.toArray.size = ns.length := by have := rv.length; simp at this; simp [this]
    exact call_set_tuple (P := X.prog) (w := X.w) (I.ok.hd hc) pl (fills_s el (by unfold scanBound; omega) (getv_strs ev)) fin
/-- sorted(set of texts) -/
def rSortS (w : World) : List V → Hp → VK → Prop := fun vs H Q => ∃ (a : Addr) (S : Str → Bool) (n : Nat), vs = [V.ref a] ∧ H a = some (SetTO w a S n) ∧
  ∀ (ks : List Str) (p : Addr), ks.Nodup → (∀ k, k ∈ ks ↔ S k = true) → H p = none → Q (.ref p) (upd H p (.lst ((ks.mergeSort (W.dataLe false PyData.str)).map V.str)))
theorem texts_of {w : World} : ∀ {vs : List Value}, (∀ v ∈ vs, ∃ k tk, v = Value.str k tk) → W.EachIs (fun v (x : Str) => RelV (.str x) v) vs (vs.map fun v => match v with | .str k _ => k | _ => Str.empty)
  | [], _ => .nil
  | v :: vs, h => by
    obtain ⟨k, tk, rfl⟩ := h v List.mem_cons_self
    exact .cons ⟨tk, rfl⟩ (texts_of (w := w) fun u hu => h u (List.mem_cons_of_mem _ hu))
theorem each_reads {h : Heap} {a : Addr} : ∀ {vs : List Value} {ks : List Str}, W.EachIs (fun v (x : Str) => RelV (.str x) v) vs ks → W.EachIs (fun v (x : Str) => ∃ as, Reads h v (PyData.str x) as ∧ a ∉ as) vs ks
  | _, _, .nil => .nil
  | _, _, .cons r t => by
    obtain ⟨tk, rfl⟩ := r
    exact .cons ⟨[], .str _ _, by simp⟩ (each_reads t)
theorem each_texts : ∀ {ks : List Str} {vs : List Value}, W.EachIs (fun v (x : Str) => RelV (.str x) v) vs ks → Vals (ks.map V.str) vs
  | _, _, .nil => .nil
  | _, _, .cons r t => .cons r (each_texts t)
theorem cr_sortS (hc : X.calm = true) (hu : X.A.units + 64 < cLine) : CallR X (.builtin "sorted") (rSortS X.w) := by
  intro pins s σ H vs us Q I r h
  obtain ⟨a, S, n, rfl, ha, q⟩ := h
  obtain ⟨ob, es, ep, t, hob, hex, hdt, g, nd, hm, hb, hf, hsz, hr, hl⟩ := setTO_get I ha
  rw [Vals.ref1 r]
  refine Calls.call_function_entry kind_sorted plain_sorted entry_sorted (args_sorted1 _) ?_
  unfold Builtin.«sorted»
  refine wpAny_bind (m := checkCount "sorted" 1 1 _) (wpAny_pure ?_)
  refine wpAny_bind (collect_set (A := X.A.in1) (I.ok.hd hc) ⟨ob, hob, hex.1, hdt⟩ hf hb hr hl fun s1 vs k1 hz g1 o1 pm => ?_)
  have hst : ∀ v ∈ vs, ∃ k tk, v = Value.str k tk := fun v hv => by
    obtain ⟨e, he, q⟩ := List.mem_map.mp (pm.mem_iff.mp hv)
    obtain ⟨k, tk, h1, _⟩ := g e he
    exact ⟨k, tk, by rw [← q]; exact h1⟩
  obtain ⟨ks, hks⟩ : ∃ ks : List Str, ks = vs.map fun v => match v with | .str k _ => k | _ => Str.empty := ⟨_, rfl⟩
  have eks : W.EachIs (fun v (x : Str) => RelV (.str x) v) vs ks := hks ▸ texts_of (w := X.w) hst
  have pk : ks.Perm (es.toList.map keyT) := by
    have q := pm.map fun v : Value => match v with | .str k _ => k | _ => Str.empty
    rw [List.map_map] at q
    rw [hks]
    exact q
  have few : vs.length < 4096 := by rw [pm.length_eq, List.length_map, Array.length_toList]; exact hb
  have fewk : ks.length < 4096 := by rw [pk.length_eq, List.length_map, Array.length_toList]; exact hb
  refine wpAny_bind (wpAny_newList ?_ (by rw [sizeLine_eq]; omega))
  have hoL : (s1.heap.push (seqObj "list" vs.toArray 0)).get? s1.heap.objs.size = some (seqObj "list" vs.toArray 0) := Heap.get?_push_size _ rfl
  have al : W.AllAlike (ks.map PyData.str) := fun d hd e he => by
    obtain ⟨x, _, rfl⟩ := List.mem_map.mp hd
    obtain ⟨y, _, rfl⟩ := List.mem_map.mp he
    rfl
  have so : W.Sortable (ks.map PyData.str) := .inr fun d hd => by
    obtain ⟨x, _, rfl⟩ := List.mem_map.mp hd
    exact ⟨fun z => (nomatch z), fun xs z => (nomatch z)⟩
  refine wpAny_bind (wpAny_holding (W.list_sort_data (s := { s1 with heap := s1.heap.push (seqObj "list" vs.toArray 0) }) (bs := ks) (enc := PyData.str) (R := fun v x => RelV (.str x) v) hoL eks
    (each_reads eks) al so (by rw [sizeLine_eq]; omega)
    (fun p hp => by simp [PyData.depth]; omega) fun out ho he => ?_))
  obtain ⟨c, hcp⟩ := sortedHeap_at (vs := vs) (out := out.toArray) hoL
  have hn' : H s1.heap.objs.size = none := I.hok.fresh hz
  have old : ∀ b o, s.heap.get? b = some o → (sortedHeap (s1.heap.push (seqObj "list" vs.toArray 0)) s1.heap.objs.size vs out.toArray).get? b = some o := fun b o e => by
    have k := k1 b o e
    have hlt := Heap.lt_size k
    rw [sortedHeap_old (Nat.ne_of_lt hlt) (by rw [size_push']; exact Nat.lt_succ_of_lt hlt)]
    exact Heap.get?_push_of_some _ k
  have J : Inv X pins σ (upd H s1.heap.objs.size (.lst ((ks.mergeSort (W.dataLe false PyData.str)).map V.str))) { s with heap := sortedHeap (s1.heap.push (seqObj "list" vs.toArray 0)) s1.heap.objs.size vs out.toArray, gens := s1.gens, drawn := s1.drawn, toks := s1.toks } :=
    I.call (ch := []) (Un.laid old hz hn') (I.hok.laid old hz ⟨by rw [List.length_map, List.length_mergeSort, sizeLine_eq]; omega, out, c, each_texts he, hcp⟩) (by rw [g1]; exact I.bare) (fun _ z => nomatch z)
  have e : ({ s1 with heap := sortedHeap (s1.heap.push (seqObj "list" vs.toArray 0)) s1.heap.objs.size vs out.toArray } : Shared) = { s with heap := sortedHeap (s1.heap.push (seqObj "list" vs.toArray 0)) s1.heap.objs.size vs out.toArray, gens := s1.gens, drawn := s1.drawn, toks := s1.toks } := by
    cases s1
    cases s
    cases o1
    rfl
  refine wpAny_pure ⟨_, rfl, ?_⟩
  rw [e]
  exact ⟨.ref _, _, J, rfl, q ks _ (pk.nodup_iff.mpr nd) (fun k => by rw [pk.mem_iff, ← hm k]) hn'⟩
end
end VI
namespace VI
open PySem PySem.Spec PyProof.Rows L2 HT
/-! ### x[::-1]: tuples, texts -/
section
variable {prog : Program} {w : World} {A : Around} {E : Value → Shared → Prop} {s : Shared}
theorem adjust_rev (n : Nat) : Builtin.Slice.sliceAdjust none none (-1) (n : Int) = ((n : Int) - 1, -1) := rfl
theorem places_rev (n : Nat) : Builtin.Slice.slicePlaces ((n : Int) - 1) (-1) (-1) = n := by
  unfold Builtin.Slice.slicePlaces
  have h1 : ¬ ((-1 : Int) > 0) := by omega
  simp only [h1, if_false]
  split
  · rw [show (-(-1) : Int) = 1 by decide, Int.ediv_one]; omega
  · have : n = 0 := by omega
    subst this; rfl
theorem sliceApplied_rev {sl : Addr} {vk : Value} {n : Nat} {Q : Int × Int × Nat → Shared → Prop} (hs : s.heap.IsSliceOf sl .none .none vk) (pk : IsPart vk (some (-1)))
    (h : Q ((n : Int) - 1, -1, n) s) : wpAny (model prog w) A (Builtin.Slice.sliceApplied (.ref sl) (pure (n : Int))) Q E s := by
  obtain ⟨os, hos, hcs, hds⟩ := id hs
  unfold Builtin.Slice.sliceApplied Builtin.Slice.sliceFields
  refine wpAny_bind (wpAny_bind (wpAny_field hos hds (x := .none) rfl (wpAny_bind (wpAny_field hos hds (x := .none) rfl (wpAny_bind (wpAny_field hos hds (x := vk) rfl (wpAny_pure ?_)))))))
  refine wpAny_bind (slicePart_ pk ?_)
  show wpAny _ _ (if ((-1 : Int) == 0) = true then _ else _) _ _ s
  rw [if_neg (by decide)]
  refine wpAny_bind (slicePart_none (wpAny_bind (slicePart_none (wpAny_bind (wpAny_pure ?_)))))
  show wpAny _ _ (match Builtin.Slice.sliceAdjust none none (-1) (n : Int) with | (lo, hi) => pure (lo, (-1 : Int), Builtin.Slice.slicePlaces lo hi (-1))) _ _ s
  rw [adjust_rev]
  show wpAny _ _ (pure ((n : Int) - 1, (-1 : Int), Builtin.Slice.slicePlaces ((n : Int) - 1) (-1) (-1))) _ _ s
  rw [places_rev]
  exact wpAny_pure h
theorem fm_congr {α β : Type} {f g : α → Option β} : ∀ {l : List α}, (∀ a ∈ l, f a = g a) → l.filterMap f = l.filterMap g
  | [], _ => rfl
  | a :: l, h => by
    rw [List.filterMap_cons, List.filterMap_cons, h a List.mem_cons_self, fm_congr fun b hb => h b (List.mem_cons_of_mem _ hb)]
theorem pick_rev (xs : Array Value) : ((List.range xs.size).filterMap fun (m : Nat) => xs[(((xs.size : Int) - 1) + (m : Int) * (-1)).toNat]?).toArray = xs.toList.reverse.toArray := by
  have e : (List.range xs.size).filterMap (fun (m : Nat) => xs[(((xs.size : Int) - 1) + (m : Int) * (-1)).toNat]?) = ((List.range xs.size).map fun k => xs.size - 1 - k).filterMap (xs[·]?) := by
    rw [List.filterMap_map]
    refine fm_congr fun m hm => ?_
    have : (((xs.size : Int) - 1) + (m : Int) * (-1)).toNat = xs.size - 1 - m := by
      have := List.mem_range.mp hm
      omega
    rw [this]; rfl
  rw [e, PySem.W.krv_range, List.filterMap_reverse, PySem.W.krv_all]
theorem getItem_tuple_rev {t sl : Addr} {items : Array Value} {vk : Value} {Q : Value → Shared → Prop} (ht : IsTup s.heap t items) (hs : s.heap.IsSliceOf sl .none .none vk) (pk : IsPart vk (some (-1)))
    (h : Q (.ref s.heap.objs.size) { s with heap := s.heap.push { cls := .type "tuple", data := .seq items.toList.reverse.toArray } })
    (hsz : items.size ≤ sizeLine) : wpAny (model prog w) A (getItem (.ref t) (.ref sl)) Q E s := by
  have htake : sizeOk (.seq items.toList.reverse.toArray) := by
    show items.toList.reverse.toArray.size ≤ sizeLine
    simpa using hsz
  obtain ⟨os, hos, hcs, hds⟩ := id hs
  have hTs : s.TypeIs (.ref sl) "slice" := ⟨os, hos, hcs⟩
  unfold getItem
  try with_reducible refine wpAny_holding ?_
  first | refine wpAny_bind (wpAny_pure ?_) | skip
  refine wpAny_bind (wpAny_sequenceKey ht.typeIs (by decide) ?_)
  refine wpAny_bind (wpAny_callSpecial?_slot (name := Str.ofString "__getitem__") ht.typeIs PyProof.Rows.slot_tuple_getitem
    (wpAny_call_entry PyProof.Rows.slot_tuple_getitem ht.typeIs entry_tuple_getitem ?_ (args_tuple_getitem _ _)))
  show wpAny _ _ (Builtin.Tuple.tupleItemsOf (.ref t) >>= _) _ _ s
  refine wpAny_bind (tupleItemsOf_ ht ?_)
  refine wpAny_bind (wpAny_typeOf hTs ?_)
  rw [if_pos (by decide)]
  refine wpAny_bind (sliceApplied_rev hs pk ?_)
  have hno : ¬ ((((items.size : Int) - 1) == 0 && (-1 : Int) == 1 && items.size == items.size) = true) := by
    intro q
    rw [Bool.and_eq_true, Bool.and_eq_true] at q
    exact absurd q.1.2 (by decide)
  show wpAny _ _ (if (((items.size : Int) - 1) == 0 && (-1 : Int) == 1 && items.size == items.size) = true then _ else _) _ _ s
  rw [if_neg hno, pick_rev]
  first
    | exact wpAny_bind (m := Builtin.Tuple.tupleExact _) (wpAny_newObj_type (wpAny_pure ⟨_, rfl, wpAny_pure h⟩) htake)
    | exact wpAny_bind (m := Builtin.Tuple.tupleExact _) (wpAny_newObj_type (wpAny_bind (wpAny_pure (wpAny_pure ⟨_, rfl, wpAny_pure h⟩))) htake)
    | exact wpAny_bind (wpAny_bind (m := Builtin.Tuple.tupleExact _) (wpAny_newObj_type (wpAny_pure (wpAny_pure ⟨_, rfl, wpAny_pure h⟩)) htake))
    | exact wpAny_bind (wpAny_bind (m := Builtin.Tuple.tupleExact _) (wpAny_newObj_type (wpAny_pure ⟨_, rfl, wpAny_pure h⟩) htake))
end
/-- a text turned round -/
def revS (x : Str) : Str := ⟨x.cps.toList.reverse.toArray⟩
theorem picked_rev (x : Str) : (Builtin.Str.strSliceIndices none none (-1) x.length).filterMap (x.cps[·]?) = x.cps.toList.reverse := by
  have e : Builtin.Str.strSliceIndices none none (-1) x.length = sliceRange ((x.cps.size : Int) - 1) (-1) (-1) := rfl
  rw [e, PySem.W.krv_sliceRange, PySem.W.krv_range, List.filterMap_reverse, PySem.W.krv_all]
def rRev (K : PySem.W.Frag) : V → Hp → VK → Prop := fun x H1 Q => (∃ a xs, x = .ref a ∧ SqL K H1 a xs ∧ ∀ p, H1 p = none → Q (.ref p) (upd H1 p (.lst xs.reverse))) ∨
  (∃ a xs, x = .ref a ∧ SqT K H1 a xs ∧ ∀ p, H1 p = none → Q (.ref p) (upd H1 p (.tup xs.reverse))) ∨ ∃ t, x = .str t ∧ t.length ≤ sizeLine ∧ Q (.str (revS t)) H1
def tRevA (K : PySem.W.Frag) (te : TE) : TE := fun σ H Q => te σ H fun x H1 => rRev K x H1 Q
theorem pe_revA {X : Cx} {e : Expr} {te : TE} {k : Nat} {p1 p2 p3 pos : Pos} (he : PE X e te) : PE X (.Subscript e (.Slice none none (some (.UnaryOp .USub (.Constant (.int 1) k p1) p2)) p3) pos) (tRevA X.K te) := by
  refine ⟨fun pins s σ H Q I h => ?_⟩
  refine Subscript_ (thn (he.run pins s σ H _ I h) fun v s1 ⟨x, H1, I1, r1, q1⟩ => ?_)
  have hst : PO X (some (.UnaryOp .USub (.Constant (.int 1) k p1) p2)) (tPart (tUn (rU fun i => .int (-i)) (tC (.int 1)))) := po_some (pe_un un_neg pe_int)
  refine wpAny_Slice (thn (po_none.run pins s1 σ H1 (fun o H2 => o = none ∧ H2 = H1) I1 ⟨rfl, rfl⟩) fun vl s2 ⟨l, H2, I2, pl, el, e2⟩ => ?_)
  subst el e2
  refine thn (po_none.run pins s2 σ H2 (fun o H3 => o = none ∧ H3 = H2) I2 ⟨rfl, rfl⟩) fun vu s3 ⟨u, H3, I3, pu, eu, e3⟩ => ?_
  subst eu e3
  refine thn (hst.run pins s3 σ H3 (fun o H4 => o = some (-1) ∧ H4 = H3) I3 ⟨1, rfl, -1, rfl, rfl, rfl⟩) fun vs s4 ⟨o, H4, I4, ps, eo, e4⟩ => ?_
  subst eo e4
  have I5 : Inv X pins σ H4 { s4 with heap := s4.heap.push { cls := .type "slice", data := .fields #[vl, vu, vs] } } := I4.kept (t' := s4.toks) fun b ob q => Heap.get?_push_of_some _ q
  show wpAny (model X.prog X.w) X.A (subscriptTail e (.Slice none none (some (.UnaryOp .USub (.Constant (.int 1) k p1) p2)) p3) v (.ref s4.heap.objs.size)) (EP X pins σ Q) X.xe { s4 with heap := s4.heap.push { cls := .type "slice", data := .fields #[vl, vu, vs] } }
  rcases q1 with ⟨a, xs, ex, hx, q⟩ | ⟨a, xs, ex, hx, q⟩ | ⟨t, ex, hz, q⟩
  · subst ex
    cases r1
    obtain ⟨its, r, ht, hz⟩ := I5.list hx
    have hlen := r.length
    refine tail_any (ops := [.ref a, .ref s4.heap.objs.size]) ht.isList.typeIs (PySem.slot_list_getitem.lookup) ?_ (by with_unfolding_all rfl)
    refine wpAny_getItem_list_slice ht.isList (Heap.IsSliceOf.new _ vl vu vs) pl pu ps (by decide) ?_ (by rw [List.size_toArray]; omega)
    rw [PySem.W.krv_pick]
    refine ⟨.ref _, _, I5.laid (t' := s4.toks) (o := .lst xs.reverse) (fun b ob q => Heap.get?_push_of_some _ q) (Nat.le_refl _) ?_, rfl, q _ (I5.hok.fresh (Nat.le_refl _))⟩
    exact ⟨by rw [List.length_reverse]; exact hz, _, 0, r.reverse, Heap.get?_push_size _ rfl⟩
  · subst ex
    cases r1
    obtain ⟨its, r, ht, hz⟩ := I5.tuple hx
    have hlen := r.length
    cases pl
    cases pu
    refine tail_any (ops := [.ref a, .ref s4.heap.objs.size]) ht.typeIs (PyProof.Rows.slot_tuple_getitem.lookup) ?_ (by with_unfolding_all rfl)
    refine getItem_tuple_rev ht (Heap.IsSliceOf.new _ _ _ vs) ps ?_ (by rw [List.size_toArray]; omega)
    refine ⟨.ref _, _, I5.laid (t' := s4.toks) (o := .tup xs.reverse) (fun b ob q => Heap.get?_push_of_some _ q) (Nat.le_refl _) ?_, rfl, q _ (I5.hok.fresh (Nat.le_refl _))⟩
    exact ⟨by rw [List.length_reverse]; exact hz, _, r.reverse, ⟨_, Heap.get?_push_size _ rfl, rfl, 0, rfl⟩⟩
  · subst ex
    obtain ⟨tk, rfl⟩ := r1
    cases pl
    cases pu
    obtain ⟨u, rfl, hu⟩ := IsPart.raw ps
    cases u with
    | none => cases hu
    | some u =>
      obtain ⟨i, ui⟩ := u
      have hi : i = -1 := by simpa using hu
      subst hi
      refine tail_any (ops := [.ref s4.heap.objs.size, .str t tk]) (typeIs_str _ _ _) (F.slot_str_getitem.lookup) ?_ (by with_unfolding_all rfl)
      refine wpAny_getItem_str_slice (l := none) (u := none) (st := some (-1, ui)) ⟨_, Heap.get?_push_size _ rfl, rfl, rfl⟩ rfl ?_
      show Made.post (if ((-1 : Int) == 1 && (Builtin.Str.strSliceIndices none none (-1) t.length).length == t.length) = true then Made.val (.str t tk)
        else Made.str ⟨((Builtin.Str.strSliceIndices none none (-1) t.length).filterMap (t.cps[·]?)).toArray⟩) (EP X pins σ Q) _
      rw [if_neg (by simp), picked_rev]
      refine ⟨?_, .str _, H4, I5.tok _, ⟨_, rfl⟩, q⟩
      show t.cps.toList.reverse.toArray.size ≤ sizeLine
      rw [List.size_toArray, List.length_reverse, Array.length_toList]
      exact hz
end VI
namespace VI
open PySem PySem.Spec PyProof.Rows L2 HT
/-! ### a list so many times -/
theorem rmul_any (a : Int) (t : Tok) (l : Addr) (items : Array Value) (n : Nat) (o : Obj) (hc : o.cls = .type "list") (hd : o.data = .seq items n) :
    Meets (Builtin.«int.__rmul__» ⟨[.int a t, .ref l], []⟩) (fun _ R s => s.heap.get? l = some o ∧ R (.ok (.ret Value.notImplemented)) s) :=
  .of_wp fun prog w A R s h => by
    obtain ⟨c, dd, data, sl⟩ := o
    simp only at hc hd
    subst hc hd
    obtain ⟨hp, g, d, tk, os⟩ := s; obtain ⟨hl, h⟩ := h; wp_walk; exact ⟨_, rfl, h⟩
theorem mul_any (l : Addr) (items : Array Value) (n : Nat) (x : Int) (u : Tok) (o : Obj) (hc : o.cls = .type "list") (hd : o.data = .seq items n) (hc0 : ¬(!Builtin.List.listFitsIndex x) = true) (hc1 : ¬items.size * x.toNat > (2 ^ 63 - 1) / 8) (hc2 : ¬Builtin.List.listTooLong (items.size * x.toNat) = true) :
    Meets (Builtin.«list.__mul__» ⟨[.ref l, .int x u], []⟩) (fun _ R s => s.heap.get? l = some o ∧ R (.ok (.ret (Value.ref s.heap.objs.size))) { s with heap := s.heap.push { cls := Value.type "list", data := Data.seq (List.foldl (fun x1 x2 => x1 ++ x2) #[] (List.replicate (if items.isEmpty = true then 0 else x.toNat) items)) }, toks := s.toks }) :=
  .of_wp fun prog w A R s h => by
    obtain ⟨c, dd, data, sl⟩ := o
    simp only at hc hd
    subst hc hd
    obtain ⟨hp, g, d, tk, os⟩ := s; obtain ⟨hl, h⟩ := h
    have hsz := AutoListH.joined_fits hc2
    wp_walk; refine wpAny_ite_false (decide_eq_false (Nat.not_lt.mpr hsz)) ?_; wp_walk; exact ⟨_, rfl, h⟩
def rRepL (K : PySem.W.Frag) : R2 := fun x y H Q => ∃ l k xs, x = .ref l ∧ y = .int k ∧ SqL K H l xs ∧ -(2 ^ 63) ≤ k ∧ k < 2 ^ 63 ∧ xs.length * k.toNat ≤ sizeLine ∧
  ∀ p, H p = none → Q (.ref p) (upd H p (.lst (List.replicate k.toNat xs).flatten))
theorem op_repL {X : Cx} : OpR X (binaryOp .Mult) (rRepL X.K) := by
  intro pins s σ H x y v u Q I rx ry h
  obtain ⟨l, k, xs, rfl, rfl, hH, h1, h2, hz, q⟩ := h
  cases rx
  obtain ⟨t, rfl⟩ := ry
  obtain ⟨its, r, ⟨o, n, e, hcl, hdi, hda⟩, hsz⟩ := I.list hH
  have hl : xs.length = its.length := r.length
  have hlen : its.toArray.size * k.toNat ≤ sizeLine := by rw [List.size_toArray, ← hl]; exact hz
  have hcap : ¬ its.toArray.size * k.toNat > (2 ^ 63 - 1) / 8 := by
    have : (sizeLine : Nat) ≤ (2 ^ 63 - 1) / 8 := by decide
    omega
  have hfit : ¬ (!Builtin.List.listFitsIndex k) = true := by
    rw [fitsIndex_both h1 h2]
    exact Bool.false_ne_true
  have hlong : ¬ Builtin.List.listTooLong (its.toArray.size * k.toNat) = true := by
    rw [notLongL hlen]
    exact Bool.false_ne_true
  have hnew : List.foldl (fun x1 x2 => x1 ++ x2) #[] (List.replicate (if its.toArray.isEmpty = true then 0 else k.toNat) its.toArray) = (List.replicate k.toNat its).flatten.toArray := by
    have f0 : ∀ m : Nat, List.foldl (fun x1 x2 => x1 ++ x2) #[] (List.replicate m its.toArray) = (List.replicate m its).flatten.toArray := fun m => by
      have := foldl_rep its m []
      rw [List.nil_append] at this
      exact this
    rw [f0]
    cases its with
    | nil => simp
    | cons a r' => rw [if_neg (by simp)]
  refine wpAny_binaryOp_repeat_ref (T := "list") (U := "int") (by decide) ⟨_, e, hcl⟩ (fun s' => typeIs_int s' k t) noFill_list_mul F.fills_int_mul F.slot_int_rmul repeat_list F.slot_int_index.lookup
    (call_meets F.slot_int_rmul (typeIs_int s k t) F.entry_int_rmul (F.args_int_rmul_2 _ _) (rmul_any k t l its.toArray n o hcl hda)
      ⟨e, rfl, ⟨_, e, hcl⟩, call_meets F.slot_list_mul ⟨_, e, hcl⟩ F.entry_list_mul (F.args_list_mul_2 _ _) (mul_any l its.toArray n k t o hcl hda hfit hcap hlong) ⟨e, ?_⟩⟩)
  rw [hnew]
  exact ⟨.ref _, _, I.lnew (t' := s.toks) (r.rep k.toNat) (by rw [PyProof.Rows.lm_len_rep_flat, Nat.mul_comm]; exact hz), rfl, q _ I.fresh⟩
section
variable {X : Cx} {G : Gx} {E : WX} {De : Ends} {as as' as1 : List Addr} {st st' st1 : Store} {H H' H1 : Hp} {σ : L2.St} {pos : Pos} {L : Addr → Prop}
def fMulB (a b : D) (st : Store) : Res Wv := match b with
  | .int k => match lstOf a st with
    | some (ds, _) => if 0 ≤ k ∧ k ≤ 1000 ∧ ds.length ≤ 1000 then .ok (.new (.lst (List.replicate k.toNat ds).flatten)) st else .stuck
    | none => fMulA a b st
  | _ => fMulA a b st
theorem opS_mulB : OpS G E fMulB (fun x y H Q => rRepL G.K x y H Q ∨ rMulS x y H Q ∨ rI CMul (fun i j => .int (i * j)) x y H Q ∨ rRepT G.K x y H Q) := by
  intro E' as st H d1 d2 x y Q s r1 r2 p
  unfold fMulB at p
  split at p
  · rename_i kk
    split at p
    · rename_i ds src hl
      split at p
      · rename_i h
        obtain ⟨pa, vs, rfl, h1, hr⟩ := lstOf_sq s r1 hl
        cases r2
        have e := hr.length
        have : vs.length * kk.toNat ≤ 1000 * 1000 := Nat.mul_le_mul (by rw [← e]; exact h.2.2) (by omega)
        exact .inl ⟨pa, _, vs, rfl, rfl, h1, by omega, by omega, Nat.le_trans this (by decide : 1000 * 1000 ≤ sizeLine), fun t ht => p as _ (Ext.lay ht) (s.laid ht) _ (RelW.newLst s (hr.rep _) ht)⟩
      · exact p.elim
    · exact .inr (opS_mulA (E := E) E' as st H _ _ x y Q s r1 r2 p)
  · exact .inr (opS_mulA (E := E) E' as st H _ _ x y Q s r1 r2 p)
/-! ### x[::-1] -/
def evRevA (m : EM) : EM := fun env st => (m env st).bind fun w st1 => match w.d with
  | .tup ds => .ok (.val (.tup ds.reverse)) st1
  | .str x => if x.length ≤ 100000 then .ok (.val (.str (revS x))) st1 else .stuck
  | d => match lstOf d st1 with
    | some (ds, _) => .ok (.new (.lst ds.reverse)) st1
    | none => .stuck
theorem pI_revA {e : Expr} {k : Nat} {p1 p2 p3 : Pos} {m : EM} (hK : G.K = X.K) (he : PE X e (tI G E m)) : PE X (.Subscript e (.Slice none none (some (.UnaryOp .USub (.Constant (.int 1) k p1) p2)) p3) pos) (tI G E (evRevA m)) :=
  (pe_revA he).vi fun σ H Q ⟨as, st, env, s, er, p⟩ => ⟨as, st, env, s, er, (p.bind s.len).mono fun w as1 st1 H1 e1 s1 p1 v r => by
    have rd := r.d
    revert p1 rd
    generalize w.d = d
    intro p1 rd
    rw [← hK]
    split at p1
    · rename_i ds
      cases rd with
      | @tup _ pa vs h1 hr =>
      exact .inr (.inl ⟨pa, vs, rfl, h1, fun t ht => p1 as1 _ (Ext.lay ht) (s1.laid ht) _ (RelD.newTup s1 hr.rev ht)⟩)
    · split at p1
      · rename_i x h
        cases rd
        exact .inr (.inr ⟨_, rfl, szl h, p1.now s1 _ (.str _)⟩)
      · exact p1.elim
    · split at p1
      · rename_i ds src hl
        obtain ⟨pa, vs, rfl, h1, hr⟩ := lstOf_sq s1 rd hl
        exact .inl ⟨pa, vs, rfl, h1, fun t ht => p1 as1 _ (Ext.lay ht) (s1.laid ht) _ ((RelW.newLst s1 hr.rev ht).from (fresh_of e1))⟩
      · exact p1.elim⟩
/-! ### >= of alike data -/
def rGeD (K : PySem.W.Frag) : R2 := fun x y H Q => ∃ d e, Dp K H x d ∧ Dp K H y e ∧ W.alike d e = true ∧ d ≠ .none ∧ min d.depth e.depth ≤ 60 ∧ Q (.bl (!W.dataLt d e)) H
theorem op_geD (hu : X.A.units + 64 < cLine) : OpR X (compareOp .GtE) (rGeD X.K) := by
  intro pins s σ H x y v u Q I rx ry h
  obtain ⟨d, e, hd, he, al, nn, hm, q⟩ := h
  obtain ⟨as, r1⟩ := Dp.reads I d x v hd rx
  obtain ⟨bs, r2⟩ := Dp.reads I e y u he ry
  exact W.ge_data r1 r2 al nn (by omega) ⟨.bl _, H, I, rfl, q⟩
def fGeA (a b : D) (st : Store) : Res Wv := match a, b with
  | .int i, .int j => .ok (.val (.bl (decide (j ≤ i)))) st
  | a, b => if (isPy a && isPy b && W.alike (toPy a) (toPy b) && !noneD a && shallow a b) = true then .ok (.val (.bl (leD b a))) st else .stuck
theorem opS_geA : OpS G E fGeA (fun x y H Q => rI0 (fun i j => .bl (decide (j ≤ i))) x y H Q ∨ rGeD G.K x y H Q) := by
  intro E' as st H d1 d2 x y Q s r1 r2 p
  unfold fGeA at p
  split at p
  · cases r1; cases r2
    exact .inl ⟨_, _, rfl, rfl, p.now s _ (.bl _)⟩
  · split at p
    · rename_i h
      simp only [Bool.and_eq_true, Bool.not_eq_true', shallow, decide_eq_true_eq] at h
      obtain ⟨⟨⟨⟨h1, h2⟩, h3⟩, h4⟩, h5⟩ := h
      refine .inr ⟨_, _, r1.dp h1, r2.dp h2, h3, fun z => ?_, h5, p.now s _ (.bl _)⟩
      cases d1 <;> simp [toPy, isPy, noneD] at z h1 h4
    · exact p.elim
def fUpper (o : D) (ds : List D) (st : Store) : Res Wv := match o, ds with
  | .str x, [] => if x.length ≤ 100000 then .ok (.val (.str (Txt.upper x))) st else .stuck
  | _, _ => .stuck
theorem mtS_upper : MtS' G E fUpper (fun x xs H Q => ∃ a, x = .str a ∧ xs = [] ∧ a.length ≤ 5592405 ∧ Q (.str (Txt.upper a)) H) := by
  intro E' as st H d ds x xs Q s r rs p
  unfold fUpper at p
  split at p
  · split at p
    · rename_i h
      cases r; cases rs
      exact ⟨_, rfl, rfl, by omega, p.now s _ (.str _)⟩
    · exact p.elim
  · exact p.elim
/-! ### sorted(set(..)): texts, too -/
def leT (x y : Str) : Bool := W.dataLe false PyData.str x y
def sortT (ss : List Str) : List Str := isort leT (nub ss)
theorem leT_total : W.TotalLe leT := dataLe_total PyData.str
theorem leT_anti {x y : Str} (h1 : leT x y = true) (h2 : leT y x = true) : x = y := by
  have h1 : (!W.dataLt (PyData.str y) (PyData.str x)) = true := h1
  have h2 : (!W.dataLt (PyData.str x) (PyData.str y)) = true := h2
  have e : NestedKey.text x = NestedKey.text y := key_anti (x := .text x) (y := .text y) rfl (by simpa [NestedKey.data] using h1) (by simpa [NestedKey.data] using h2)
  injection e
theorem mem_sortT {ss : List Str} {x : Str} : x ∈ sortT ss ↔ x ∈ ss := ((isort_perm _).mem_iff).trans mem_nub
def fSortSetT (ds : List D) (st : Store) : Res Wv := match ds with
  | [d] => match (colOf d st).bind strsOf with
    | some ss => if ss.length < 1000 then .ok (.new (.lst ((sortT ss).map D.str))) st else .stuck
    | none => fSortSet [d] st
  | _ => .stuck
def rSetB (K : PySem.W.Frag) (w : World) : List V → Hp → VK → Prop := fun vs H Q => rSetA K w vs H Q ∨ rSetS K w vs H Q
def rSortSetB (K : PySem.W.Frag) (w : World) : List V → Hp → VK → Prop := fun vs H Q => rSortSetA K w vs H Q ∨ rSortS w vs H Q
theorem rSetA_mono {K : PySem.W.Frag} {w : World} {vs : List V} {Q Q' : VK} (k : ∀ v H1, Q v H1 → Q' v H1) (h : rSetA K w vs H Q) : rSetA K w vs H Q' := by
  rcases h with ⟨l, ps, h1, h2, h3, h4, q⟩ | ⟨l, ns, h1, h2, h3, q⟩
  · exact .inl ⟨l, ps, h1, h2, h3, h4, fun a L a1 a2 a3 a4 => k _ _ (q a L a1 a2 a3 a4)⟩
  · exact .inr ⟨l, ns, h1, h2, h3, fun a a1 => k _ _ (q a a1)⟩
theorem rel_strs (ss : List Str) : RelDs G as L H (ss.map D.str) (ss.map V.str) := by
  induction ss with
  | nil => exact .nil
  | cons x ss ih => exact .cons (.str x) ih
theorem callS_sortSetT {w : World} : CallS G E fSortSetT (fun vs H Q => rSetB G.K w vs H fun v H1 => rSortSetB G.K w [v] H1 Q) := by
  intro E' as st H ds xs Q s r p
  unfold fSortSetT at p
  split at p
  · rename_i d
    split at p
    · rename_i ss hss
      obtain ⟨ds, hd, hs⟩ := Option.bind_eq_some_iff.mp hss
      split at p
      · rename_i hl
        cases r with
        | cons r t =>
        cases t
        obtain ⟨l, vs, rfl, h1, hr⟩ := colOf_sq s r hd
        have ev := strsOf_rel hr hs
        subst ev
        refine .inr ⟨l, ss, rfl, h1, hl, fun a ha => .inr ⟨a, _, _, rfl, upd_same, fun ks q nd hk hq => ?_⟩⟩
        have pm : ks.Perm (nub ss) := perm_nub nd fun x => by rw [hk x]; simp
        have e : ks.mergeSort (W.dataLe false PyData.str) = sortT ss := by
          show ks.mergeSort leT = sortT ss
          rw [isort_merge leT_total ks fun a _ b _ => leT_anti]
          exact isort_same leT_total pm fun a _ b _ => leT_anti
        rw [e]
        have w1 := RelW.newLst (s.laid ha (o := SetTO w a (fun j => decide (j ∈ ss)) (nub ss).length)) (vs := (sortT ss).map V.str) (ds := (sortT ss).map D.str) (rel_strs _) hq
        have hqa : q ≠ a := fun z => by rw [z, upd_same] at hq; cases hq
        exact p as _ ((Ext.lay ha).trans (Ext.lay hq) s.len) ((s.laid ha).laid hq) _ (w1.from fun b hb => (by
          by_cases hba : b = a
          · rw [hba]; exact ha
          · rw [upd_ne hba] at hb; exact hb))
      · exact p.elim
    · exact .inl (rSetA_mono (fun v H1 h => .inl h) (callS_sortSet (E := E) (w := w) E' as st H _ xs Q s r p))
  · exact p.elim
variable {Q : VK} {e : Expr} {p1 p2 : Pos} {m : EM} {ma : AM}
theorem pI_sortSetT {x1 x2 : Str} {pp : Pos} (ex1 : x1 = "sorted" := by rfl) (ex2 : x2 = "set" := by rfl) (hc : X.calm = true) (hu : X.A.units + 64 < cLine) (hK : G.K = X.K) (hg : Gl X "sorted") (hm : X.mg "sorted" = none) (hg2 : Gl X "set") (hm2 : X.mg "set" = none) (ha : PA X [e] (tAr G E ma))
    (he : starEach [e] X.env = (false, eval e X.env) :: starEach [] X.env := by rfl) : PE X (.Call (.Name "sorted" p1) [.Call (.Name "set" p2) [e] [] pp] [] pos) (tI G E (evA fSortSetT ma)) := by
  have i1 := pe_callTy (pos := pp) (p := p2) (callR_or (callR_or (cr_setN hc hu) (cr_setI hc)) (cr_setS hc)) hg2 hm2 (by decide +kernel) ha (by decide) (by decide) he rfl
  have i2 := pe_callB (pos := pos) (p := p1) (callR_or (callR_or (cr_sortedN hc hu) (cr_sortedSet hc)) (cr_sortS hc hu)) hg hm (by decide +kernel) (pa_cons i1 pa_nil (by rfl)) (by decide) (by decide) (by rfl) (by rfl)
  rw [← hK] at i2
  exact i2.vi fun _ _ _ => tI_two (callS_sortSetT (w := X.w))
end
end VI
namespace VI
open PySem PySem.Spec PyProof.Rows L2
/-! ### // by greater numbers -/
def fDivW (a b : D) (st : Store) : Res Wv := match a, b with
  | .int i, .int j => if 0 < j ∧ j.natAbs.log2 < 9000 then .ok (.val (.int (i / j))) st else .stuck
  | _, _ => .stuck
theorem opS_divW {G : Gx} {E : WX} : OpS G E fDivW (rI CDivW fun i j => .int (i / j)) := by
  intro E' as st H d1 d2 x y Q s r1 r2 p
  unfold fDivW at p
  split at p
  · cases r1; cases r2
    split at p
    · rename_i h
      exact ⟨_, _, rfl, rfl, h, p.now s _ (.int _)⟩
    · exact p.elim
  · exact p.elim
@[simp] theorem fDivW_int {i j : Int} {st : Store} : fDivW (.int i) (.int j) st = if 0 < j ∧ j.natAbs.log2 < 9000 then .ok (.val (.int (i / j))) st else .stuck := rfl
end VI
namespace VI
open PySem PySem.Spec PyProof.Rows L2
open Sem (wp)
open AutoSeq1 (wpAny_loadPart')
theorem meets_enumerate_newLT (l : Addr) (items : Array Value) (n : Nat) (dct : Option Addr) (sl : Array (Option Value)) :
    Meets (Builtin.«enumerate.__new__» ⟨[.type "enumerate", .ref l], []⟩) (fun _ R s => s.heap.get? l = some { cls := .type "tuple", dict := dct, data := .seq items n, slots := sl } ∧
      R (.ok (.ret (.ref (s.heap.push { cls := .type "tuple_iterator", data := .fields #[.ref l, .int 0 0] }).objs.size)))
        { s with heap := (s.heap.push { cls := .type "tuple_iterator", data := .fields #[.ref l, .int 0 0] }).push { cls := .type "enumerate", data := .fields #[.none, .bool false, .ref s.heap.objs.size, rawInt 0, .none, .none] } }) :=
  .of_wp fun prog w A R s h => by
    obtain ⟨hp, g, d, tk, os⟩ := s; obtain ⟨hl, h⟩ := h
    have hsub := sub_enumerate
    have hL : Heap.IsTuple (Shared.heap ⟨hp, g, d, tk, os⟩) l items := ⟨_, hl, rfl, n, rfl⟩
    wp_walk using wpAny_loadPart' hl
    refine wpAny_stack_any fun st => wpAny_pure ?_
    split
    · rename_i c _ _ _ _ _
      cases (c == Value.type "enumerate")
      · wp_walk using wpAny_loadPart' hl, wpAny_pyIter_tuple hL
        exact ⟨_, rfl, h⟩
      · wp_walk using wpAny_loadPart' hl, wpAny_pyIter_tuple hL
        exact ⟨_, rfl, h⟩
    · wp_walk using wpAny_loadPart' hl, wpAny_pyIter_tuple hL
      exact ⟨_, rfl, h⟩

section
variable {prog : Program} {w : World} {A : Around} {E : Value → Shared → Prop} {s : Shared}
theorem call_enumerate_listT {l : Addr} {items : Array Value} {Q : Value → Shared → Prop} (hL : s.heap.IsTuple l items)
    (h : ∀ h', IsEnum h' (s.heap.objs.size + 1) s.heap.objs.size 0 .none → h'.IsTupleIter s.heap.objs.size l 0 → h'.objs.size = s.heap.objs.size + 2 →
      (∀ b o, s.heap.get? b = some o → h'.get? b = some o) → Q (.ref (s.heap.objs.size + 1)) { s with heap := h' }) :
    wpAny (model prog w) A (call (.type "enumerate") [.ref l]) Q E s := by
  obtain ⟨⟨c, dct, dt, sl⟩, hl, hc, n, hd⟩ := hL
  replace hc : c = .type "tuple" := hc
  replace hd : dt = .seq items n := hd
  subst hc hd
  refine callType_new F.called_enumerate (by decide) (F.typeCall_enumerate_1 _) (F.newCall_enumerate_1 _) (fun obj => F.args_object_init_2 obj _) F.entry_enumerate_new
    (meets_enumerate_newLT l items n dct sl) ⟨hl, ?_⟩
  have hz : (s.heap.push { cls := .type "tuple_iterator", data := .fields #[.ref l, .int 0 0] }).objs.size = s.heap.objs.size + 1 := Heap.size_push ..
  show _ ∧ _
  rw [hz]
  have he : IsEnum ((s.heap.push { cls := .type "tuple_iterator", data := .fields #[.ref l, .int 0 0] }).push
      { cls := .type "enumerate", data := .fields #[.none, .bool false, .ref s.heap.objs.size, rawInt 0, .none, .none] }) (s.heap.objs.size + 1) s.heap.objs.size 0 .none := by
    have := Heap.get?_push_size (s.heap.push { cls := .type "tuple_iterator", data := .fields #[.ref l, .int 0 0] })
      (o := { cls := .type "enumerate", data := .fields #[.none, .bool false, .ref s.heap.objs.size, rawInt 0, .none, .none] }) rfl
    rw [hz] at this; exact this
  refine ⟨⟨_, he, rfl⟩, h _ he ⟨_, Heap.get?_push_of_some _ (Heap.get?_push_size _ rfl), rfl, rfl⟩ (by rw [Heap.size_push, hz]) fun b o x => Heap.get?_push_of_some _ (Heap.get?_push_of_some _ x)⟩

theorem enumerate_next_itemT {e it l : Addr} {i : Nat} {items : Array Value} {x old : Value} {Q : Value → Shared → Prop}
    (he : IsEnum s.heap e it i old) (hit : s.heap.IsTupleIter it l i) (hl : s.heap.IsTuple l items) (hx : items[i]? = some x) (hne : e ≠ it)
    (hQ : ∀ h', IsEnumOut h' e it ((i : Int) + 1) x s.heap.objs.size → h'.IsTupleIter it l (i + 1) →
      h'.get? s.heap.objs.size = some { cls := .type "tuple", data := .seq #[.int i s.toks, x] } → h'.objs.size = s.heap.objs.size + 1 →
      (∀ b o, b ≠ e → b ≠ it → s.heap.get? b = some o → h'.get? b = some o) → Q (.ref s.heap.objs.size) { s with heap := h', toks := s.toks + 1 }) :
    wpAny (model prog w) A (Builtin.«enumerate.__next__» ⟨[.ref e], []⟩) (fun fin s' => ∃ v, fin = .done (.ret v) ∧ Q v s') E s := by
  obtain ⟨hp, g, d, tk, os⟩ := s
  show wpAny _ _ (field (.ref e) 2 >>= _) _ _ _
  refine wpAny_bind (wpAny_field he rfl (x := .ref it) rfl ?_)
  refine wpAny_bind (wpAny_nextOf_tuple_item hit hl hx fun h₁ hit₁ hs₁ => ?_)
  replace hs₁ : Heap.SameBut it hp h₁ := hs₁
  have he₁ : IsEnum h₁ e it i old := (hs₁.2 e hne).trans he
  show wpAny _ _ (field (.ref e) 3 >>= _) _ _ ⟨h₁, g, d, tk, os⟩
  refine wpAny_bind (wpAny_field he₁ rfl (x := rawInt i) rfl ?_)
  show wpAny _ _ (field (.ref e) 4 >>= _) _ _ ⟨h₁, g, d, tk, os⟩
  refine wpAny_bind (wpAny_field he₁ rfl (x := .none) rfl ?_)
  show wpAny _ _ (mkInt i >>= _) _ _ ⟨h₁, g, d, tk, os⟩
  refine wpAny_bind (wpAny_mkInt ?_)
  show wpAny _ _ (setField (.ref e) 3 (rawInt ((i : Int) + 1)) >>= _) _ _ ⟨h₁, g, d, tk + 1, os⟩
  refine wpAny_bind (wpAny_setField_rec he₁ (by simp) fun h₂ he₂ hs₂ => ?_)
  replace hs₂ : Heap.SameBut e h₁ h₂ := hs₂
  replace he₂ : IsEnum h₂ e it ((i : Int) + 1) old := he₂
  show wpAny _ _ (setField (.ref e) 4 .none >>= _) _ _ ⟨h₂, g, d, tk + 1, os⟩
  refine wpAny_bind (wpAny_setField_rec he₂ (by simp) fun h₃ he₃ hs₃ => ?_)
  replace hs₃ : Heap.SameBut e h₂ h₃ := hs₃
  replace he₃ : IsEnum h₃ e it ((i : Int) + 1) old := he₃
  show wpAny _ _ (newTuple [.int i tk, x] >>= _) _ _ ⟨h₃, g, d, tk + 1, os⟩
  refine wpAny_bind (wpAny_newTuple ?_)
  have he₄ : IsEnum (h₃.push { cls := .type "tuple", data := .seq #[.int i tk, x] }) e it ((i : Int) + 1) old := Heap.get?_push_of_some _ he₃
  generalize hh₄ : h₃.push { cls := .type "tuple", data := .seq #[.int i tk, x] } = h₄ at he₄
  have hsz : h₃.objs.size = hp.objs.size := by rw [hs₃.1, hs₂.1, hs₁.1]
  have hel : e < hp.objs.size := Heap.lt_size he
  have ht₄ : h₄.get? hp.objs.size = some { cls := .type "tuple", data := .seq #[.int i tk, x] } := by rw [← hh₄, ← hsz]; exact Heap.get?_push_size _ rfl
  have hz₄ : h₄.objs.size = hp.objs.size + 1 := by rw [← hh₄, Heap.size_push, hsz]
  have hk₄ : ∀ b o, b ≠ e → b ≠ it → hp.get? b = some o → h₄.get? b = some o := fun b o hbe hbi hb => by
    rw [← hh₄]; exact Heap.get?_push_of_some _ (hs₃.extBut b o hbe (hs₂.extBut b o hbe (hs₁.extBut b o hbi hb)))
  have hit₄ : h₄.IsTupleIter it l (i + 1) := by
    rw [← hh₄]; obtain ⟨o, ho, r⟩ := (hit₁.extBut hs₂.extBut (Ne.symm hne)).extBut hs₃.extBut (Ne.symm hne); exact ⟨o, Heap.get?_push_of_some _ ho, r⟩
  show wpAny _ _ (Builtin.SmallTypes.ownedTupleIsFree (.ref e) >>= _) _ _ ⟨h₄, g, d, tk + 1, os⟩
  rw [hsz]
  clear hh₄ he₃ hs₃ he₂ hs₂ he₁ hs₁ hit₁ hsz h₃ h₂ h₁
  refine wpAny_bind ?_
  · unfold Builtin.SmallTypes.ownedTupleIsFree
    refine wpAny_bind (wpAny_field he₄ rfl (x := .none) rfl (wpAny_pure ?_))
    simp only [if_true]
    refine wpAny_bind (wpAny_rule ?_)
    refine wpAny_bind (wpAny_field he₄ rfl (x := old) rfl ?_)
    refine wpAny_bind (wpAny_setField_rec he₄ (by simp) fun h₅ he₅ hs₅ => ?_)
    replace hs₅ : Heap.SameBut e h₄ h₅ := hs₅
    replace he₅ : IsEnum h₅ e it ((i : Int) + 1) x := he₅
    show wpAny _ _ (Builtin.SmallTypes.ownedTupleHandOut (.ref e) (.ref hp.objs.size) >>= _) _ _ ⟨h₅, g, d, tk + 1, os⟩
    refine wpAny_bind ?_
    · unfold Builtin.SmallTypes.ownedTupleHandOut
      refine wpAny_bind (wpAny_setField_rec he₅ (by simp) fun h₆ he₆ hs₆ => ?_)
      replace hs₆ : Heap.SameBut e h₅ h₆ := hs₆
      replace he₆ : IsEnumOut h₆ e it ((i : Int) + 1) x hp.objs.size := he₆
      refine wpAny_setField_rec he₆ (by simp) fun h₇ he₇ hs₇ => ?_
      replace hs₇ : Heap.SameBut e h₆ h₇ := hs₇
      replace he₇ : IsEnumOut h₇ e it ((i : Int) + 1) x hp.objs.size := he₇
      refine wpAny_bind (wpAny_letGo (wpAny_pure ⟨_, rfl, hQ h₇ he₇ ?_ ?_ ?_ ?_⟩))
      · exact ((hit₄.extBut hs₅.extBut (Ne.symm hne)).extBut hs₆.extBut (Ne.symm hne)).extBut hs₇.extBut (Ne.symm hne)
      · exact hs₇.extBut _ _ (Nat.ne_of_gt hel) (hs₆.extBut _ _ (Nat.ne_of_gt hel) (hs₅.extBut _ _ (Nat.ne_of_gt hel) ht₄))
      · rw [hs₇.1, hs₆.1, hs₅.1, hz₄]
      · exact fun b o hbe hbi hb => hs₇.extBut b o hbe (hs₆.extBut b o hbe (hs₅.extBut b o hbe (hk₄ b o hbe hbi hb)))

theorem wpAny_pyNext_enum_itemT {e it l : Addr} {i : Nat} {items : Array Value} {x old : Value} {Q : Option Value → Shared → Prop}
    (he : IsEnum s.heap e it i old) (hit : s.heap.IsTupleIter it l i) (hl : s.heap.IsTuple l items) (hx : items[i]? = some x) (hne : e ≠ it)
    (hQ : ∀ h', IsEnumOut h' e it ((i : Int) + 1) x s.heap.objs.size → h'.IsTupleIter it l (i + 1) →
      h'.get? s.heap.objs.size = some { cls := .type "tuple", data := .seq #[.int i s.toks, x] } → h'.objs.size = s.heap.objs.size + 1 →
      (∀ b o, b ≠ e → b ≠ it → s.heap.get? b = some o → h'.get? b = some o) → Q (some (.ref s.heap.objs.size)) { s with heap := h', toks := s.toks + 1 }) :
    wpAny (model prog w) A (pyNext (.ref e)) Q E s := by
  have hT : s.TypeIs (.ref e) "enumerate" := ⟨_, he, rfl⟩
  unfold pyNext
  exact wpAny_bind (wpAny_attempt (wpAny_callSpecial?_slot (name := Str.ofString "__next__") hT F.slot_enumerate_next
    (wpAny_call_entry F.slot_enumerate_next hT F.entry_enumerate_next
      (enumerate_next_itemT he hit hl hx hne fun h' a b c d k => wpAny_pure (hQ h' a b c d k)) (F.args_enumerate_next_1 _))))

theorem wpAny_pyNext_enum_endT {e it l : Addr} {i : Nat} {items : Array Value} {old : Value} {Q : Option Value → Shared → Prop} (hh : A.handled = none)
    (he : IsEnum s.heap e it i old) (hit : s.heap.IsTupleIter it l i) (hl : s.heap.IsTuple l items) (hx : items[i]? = none)
    (hQ : ∀ h', Heap.ExtBut it s.heap h' → Q none { s with heap := h' }) : wpAny (model prog w) A (pyNext (.ref e)) Q E s := by
  have hT : s.TypeIs (.ref e) "enumerate" := ⟨_, he, rfl⟩
  unfold pyNext
  refine wpAny_bind (wpAny_attempt (wpAny_callSpecial?_slot (name := Str.ofString "__next__") hT F.slot_enumerate_next
    (wpAny_call_entry F.slot_enumerate_next hT F.entry_enumerate_next ?_ (F.args_enumerate_next_1 _))))
  show wpAny _ _ (field (.ref e) 2 >>= _) _ _ _
  refine wpAny_bind (wpAny_field he rfl (x := .ref it) rfl ?_)
  refine wpAny_bind (wpAny_nextOf_tuple_end hh hit hl hx fun h' x he' hx' => ?_)
  obtain ⟨o, ho, hc⟩ := hx'
  refine wpAny_bind (wpAny_isInstance (T := "StopIteration") (b := true) ⟨o, ho, hc⟩ isSubtype_stop ?_)
  exact wpAny_pure (hQ _ he')
end
/-- the list at a as it stands at each turn, each item in a new pair -/
def IteT (K : PySem.W.Frag) (a : Addr) : It :=
  ⟨fun i H => ∃ (xs : List V) (x : V), SqT K H a xs ∧ xs[i]? = some x, fun i H v H' => ∃ T x, v = .ref T ∧ H T = none ∧ H' = upd H T (.tup [.int (i : Nat), x]) ∧ ∀ xs, SqT K H a xs → xs[i]? = some x, fun i H => ∃ xs : List V, SqT K H a xs ∧ xs.length ≤ i⟩
theorem turn_enumT {P : Program} {w : World} {K : PySem.W.Frag} {elts : List Expr} {kk : Nat} {tpos : Pos} (a e it : Addr) :
    Turn P w K (.Tuple elts kk tpos) (IteT K a) [e, it] e (fun i h => (∃ old, IsEnum h e it ((i : Nat) : Int) old) ∧ h.IsTupleIter it a i ∧ e ≠ it) where
  mem := by simp
  obj := fun i h st b hb => by
    obtain ⟨⟨old, he⟩, ⟨o, ho, hc, hd⟩, _⟩ := st
    have e' : b = e ∨ b = it := by simpa using hb
    rcases e' with z | z
    · rw [z]; exact ⟨_, he, fun v q => nomatch q⟩
    · rw [z]; exact ⟨o, ho, fun v q => by rw [hd] at q; cases q⟩
  keep := fun i h h' st k => let ⟨⟨old, he⟩, hi, hne⟩ := st; ⟨⟨old, k e (by simp) _ he⟩, hi.at fun o q => k it (by simp) o q, hne⟩
  item := by
    intro X hP hw hK hc i pins s σ H E I hf st hg
    subst hP hw hK
    obtain ⟨⟨old, he⟩, hit, hne⟩ := st
    obtain ⟨xs, x, hq, hx⟩ := hg
    obtain ⟨its, rv, p, hz⟩ := I.tuple hq
    obtain ⟨u, hu, ru⟩ := rv.get hx
    have hel : e < s.heap.objs.size := Heap.lt_size he
    have hil : it < s.heap.objs.size := by obtain ⟨_, q, _⟩ := hit; exact Heap.lt_size q
    refine wpAny_pyNext_enum_itemT he hit p (x := u) (by simpa using hu) hne fun h' ho hit' hT hsz hk => ?_
    refine ⟨_, rfl, wpAny_letOwnedTupleGo_enum (s := { s with heap := h', toks := s.toks + 1 }) ho fun h'' he' sb => ?_⟩
    have hT2 : h''.get? s.heap.objs.size = some { cls := .type "tuple", data := .seq #[.int i s.toks, u] } := (sb.2 _ (Nat.ne_of_gt hel)).trans hT
    have new : ObjOk X.prog X.w (upd H s.heap.objs.size (.tup [.int (i : Nat), x])) h'' s.heap.objs.size (.tup [.int (i : Nat), x]) :=
      ⟨by show 2 ≤ sizeLine; decide, [.int i s.toks, u], .cons ⟨_, rfl⟩ (.cons ru .nil), ⟨_, hT2, rfl, _, rfl⟩⟩
    have I1 : Inv X pins σ (upd H s.heap.objs.size (.tup [.int (i : Nat), x])) { s with heap := h'', toks := s.toks + 1 } :=
      I.turnedNew (ch := [e, it]) (fun b ob hb q => (sb.2 b (fun z => hb (by simp [z]))).trans (hk b ob (fun z => hb (by simp [z])) (fun z => hb (by simp [z])) q)) hf (Nat.le_refl _) new
    refine ⟨.ref s.heap.objs.size, _, I1, rfl, ⟨_, x, rfl, I.hok.fresh (Nat.le_refl _), rfl, fun ys hy => by rw [I.tuple_inj hy hq]; exact hx⟩, ⟨⟨u, ?_⟩, hit'.at fun o q => (sb.2 it (Ne.symm hne)).trans q, hne⟩, fun b hb => ?_⟩
    · have e1 : ((i + 1 : Nat) : Int) = (i : Int) + 1 := by omega
      rw [e1]; exact he'
    · have hb' : b < s.heap.objs.size := by
        have e' : b = e ∨ b = it := by simpa using hb
        rcases e' with z | z
        · rw [z]; exact hel
        · rw [z]; exact hil
      rw [upd_ne (Nat.ne_of_lt hb')]
      exact (hf b hb).1
  done := by
    intro X hP hw hK hc i pins s σ H E I hf st hg
    subst hP hw hK
    obtain ⟨⟨old, he⟩, hit, hne⟩ := st
    obtain ⟨xs, hq, hx⟩ := hg
    obtain ⟨its, rv, p, hz⟩ := I.tuple hq
    obtain ⟨f0, f1, f2, f3, f4, f5⟩ := hf it (by simp)
    have hl := rv.length
    exact wpAny_pyNext_enum_endT (I.ok.hd hc) he hit p (by simp; omega) fun h' eb => ⟨rfl, I.turned (t' := s.toks) (fun b o hb q => eb b o hb q) f0 f1 f3 f4 f5⟩
  self := fun A i s Q E st h => let ⟨⟨_, he⟩, _⟩ := st; wpAny_pyIter_enum he h
def iEnumT (K : PySem.W.Frag) (ta : TA) : TI := fun σ H R => ta σ H fun vs H1 => ∃ a xs, vs = [.ref a] ∧ SqT K H1 a xs ∧ R (IteT K a) H1
theorem pi_enumT {X : Cx} {e : Expr} {ta : TA} {p pos tpos : Pos} {elts : List Expr} {kk : Nat} (hg : Gl X "enumerate") (hm : X.mg "enumerate" = none) (ha : PA X [e] ta) (hs : starEach [e] X.env = [(false, eval e X.env)] := by rfl) :
    PI X (.Tuple elts kk tpos) (.Call (.Name "enumerate" p) [e] [] pos) (iEnumT X.K ta) := by
  refine ⟨fun pins s σ H R I h => ?_⟩
  refine Call_ (ld_blt I hg hm boot_enumerate (PyProof.Rows.callWith_type1 (thn (ha.run pos pins s σ H _ I h) fun us s1 ⟨vs, H1, I1, r1, q1⟩ => ?_) hs rfl))
  obtain ⟨a, xs, ex, hq, q⟩ := q1
  subst ex
  cases r1 with
  | cons r rr =>
    cases rr
    cases r
    obtain ⟨its, rv, p', hz⟩ := I1.tuple hq
    refine call_enumerate_listT p' fun h' he hit hsz hk => wpAny_pyIter_enum he ?_
    have I2 : Inv X pins σ H1 { s1 with heap := h' } := I1.kept (t' := s1.toks) hk
    refine ⟨s1.heap.objs.size + 1, [s1.heap.objs.size + 1, s1.heap.objs.size], _, _, H1, rfl, I2, turn_enumT a (s1.heap.objs.size + 1) s1.heap.objs.size, ⟨⟨.none, he⟩, hit, Nat.succ_ne_self _⟩, fun b hb => ?_, q⟩
    have e' : b = s1.heap.objs.size + 1 ∨ b = s1.heap.objs.size := by simpa using hb
    have hle : s1.heap.objs.size ≤ b := by
      rcases e' with z | z
      · rw [z]; exact Nat.le_add_right _ _
      · rw [z]; exact Nat.le_refl _
    exact I1.fpOk hle (I1.hok.fresh hle)
end VI
namespace VI
open PySem PySem.Spec PyProof.Rows L2
section
variable {X : Cx} {G : Gx} {E : WX} {as as' : List Addr} {st st' : Store} {H : Hp} {L : Addr → Prop}
/-! ### enumerate over tuples and lists -/
def itEnumA (m : AM) : IM := fun env st => (m env st).bind fun ds st1 => match ds with
  | [.tup ds] => .ok ⟨numD 0 ds, none⟩ st1
  | [d] => match lstOf d st1 with
    | some (ds, none) => .ok ⟨numD 0 ds, none⟩ st1
    | _ => .stuck
  | _ => .stuck
theorem src_enumT (s : StR G as st H) {p : Addr} {xs : List V} {ds : List D} (h1 : SqT G.K H p xs) (r1 : RelDs G as (Live as st) H ds xs) : Src G (IteT G.K p) ⟨numD 0 ds, none⟩ as st H where
  go := fun as' st' H' e s' ok i d' hi => by
    have k1 : SqT G.K H' p xs := sqT_mono (L := Live as st) e.keep h1
    obtain ⟨y, hy, rfl⟩ := numD_get ds 0 i d' hi
    obtain ⟨x, hx, rx⟩ := (r1.ext e s.len).get hy
    refine ⟨⟨xs, x, k1, hx⟩, fun z H2 hz => ?_⟩
    obtain ⟨T, x', rfl, hT, rfl, hall⟩ := hz
    have := hall xs k1
    rw [hx] at this; cases this
    refine ⟨Ext.lay hT, s'.laid hT, ?_⟩
    have q : RelDs G as' (Live as' st') H' [.int ((0 + i : Nat) : Int), y] [.int (i : Nat), x] := .cons (by rw [Nat.zero_add]; exact .int _) (.cons rx .nil)
    exact RelD.newTup s' q hT
  stop := fun as' st' H' e s' ok i hi => by
    have hi : (numD 0 ds).length ≤ i := hi
    rw [numD_len] at hi
    exact ⟨xs, sqT_mono (L := Live as st) e.keep h1, by rw [← r1.length]; exact hi⟩
def iEnumB (K : PySem.W.Frag) (ta : TA) : TI := fun σ H R => ta σ H fun vs H1 => (∃ a xs, vs = [.ref a] ∧ SqL K H1 a xs ∧ R (Ite K a) H1) ∨ ∃ a xs, vs = [.ref a] ∧ SqT K H1 a xs ∧ R (IteT K a) H1
theorem pi_enumB {X : Cx} {e : Expr} {ta : TA} {p pos tpos : Pos} {elts : List Expr} {kk : Nat} (hg : Gl X "enumerate") (hm : X.mg "enumerate" = none) (ha : PA X [e] ta) (hs : starEach [e] X.env = [(false, eval e X.env)] := by rfl) :
    PI X (.Tuple elts kk tpos) (.Call (.Name "enumerate" p) [e] [] pos) (iEnumB X.K ta) := by
  refine ⟨fun pins s σ H R I h => ?_⟩
  refine Call_ (ld_blt I hg hm boot_enumerate (PyProof.Rows.callWith_type1 (thn (ha.run pos pins s σ H _ I h) fun us s1 ⟨vs, H1, I1, r1, q1⟩ => ?_) hs rfl))
  rcases q1 with q1 | q1
  · obtain ⟨a, xs, ex, hq, q⟩ := q1
    subst ex
    cases r1 with
    | cons r rr =>
      cases rr
      cases r
      obtain ⟨its, rv, p', hz⟩ := I1.list hq
      refine call_enumerate_list p'.isList fun h' he hit hsz hk => wpAny_pyIter_enum he ?_
      have I2 : Inv X pins σ H1 { s1 with heap := h' } := I1.kept (t' := s1.toks) hk
      refine ⟨s1.heap.objs.size + 1, [s1.heap.objs.size + 1, s1.heap.objs.size], _, _, H1, rfl, I2, turn_enum a (s1.heap.objs.size + 1) s1.heap.objs.size, ⟨⟨.none, he⟩, hit, Nat.succ_ne_self _⟩, fun b hb => ?_, q⟩
      have e' : b = s1.heap.objs.size + 1 ∨ b = s1.heap.objs.size := by simpa using hb
      have hle : s1.heap.objs.size ≤ b := by
        rcases e' with z | z
        · rw [z]; exact Nat.le_add_right _ _
        · rw [z]; exact Nat.le_refl _
      exact I1.fpOk hle (I1.hok.fresh hle)
  · obtain ⟨a, xs, ex, hq, q⟩ := q1
    subst ex
    cases r1 with
    | cons r rr =>
      cases rr
      cases r
      obtain ⟨its, rv, p', hz⟩ := I1.tuple hq
      refine call_enumerate_listT p' fun h' he hit hsz hk => wpAny_pyIter_enum he ?_
      have I2 : Inv X pins σ H1 { s1 with heap := h' } := I1.kept (t' := s1.toks) hk
      refine ⟨s1.heap.objs.size + 1, [s1.heap.objs.size + 1, s1.heap.objs.size], _, _, H1, rfl, I2, turn_enumT a (s1.heap.objs.size + 1) s1.heap.objs.size, ⟨⟨.none, he⟩, hit, Nat.succ_ne_self _⟩, fun b hb => ?_, q⟩
      have e' : b = s1.heap.objs.size + 1 ∨ b = s1.heap.objs.size := by simpa using hb
      have hle : s1.heap.objs.size ≤ b := by
        rcases e' with z | z
        · rw [z]; exact Nat.le_add_right _ _
        · rw [z]; exact Nat.le_refl _
      exact I1.fpOk hle (I1.hok.fresh hle)
theorem pIt_enumA {e : Expr} {m : AM} {p pos tpos : Pos} {elts : List Expr} {kk : Nat} (hK : G.K = X.K) (hg : Gl X "enumerate") (hm : X.mg "enumerate" = none) (ha : PA X [e] (tAr G E m)) (hs : starEach [e] X.env = [(false, eval e X.env)] := by rfl) :
    PI X (.Tuple elts kk tpos) (.Call (.Name "enumerate" p) [e] [] pos) (tIt G E (itEnumA m)) :=
  (pi_enumB hg hm ha hs).vi fun σ H R ⟨as, st, env, s, er, p⟩ => ⟨as, st, env, s, er, (p.bind s.len).mono fun ds as1 st1 H1 e1 s1 p1 vs r1 => by
    split at p1
    · cases r1 with
      | cons r t =>
      cases t
      cases r with
      | @tup _ pa ws h1 hr =>
      exact .inr ⟨pa, ws, rfl, by rw [← hK]; exact h1, by rw [← hK]; exact p1.now s1 _ (src_enumT s1 h1 hr)⟩
    · cases r1 with
      | cons r t =>
      cases t
      split at p1
      · rename_i xs hl
        obtain ⟨pa, ws, rfl, h1, hr⟩ := lstOf_sq s1 r hl
        exact .inl ⟨pa, ws, rfl, by rw [← hK]; exact h1, by rw [← hK]; exact p1.now s1 _ (src_enum s1 r hl)⟩
      · exact p1.elim
    · exact p1.elim⟩
end
end VI
/-! printed by gen2.py from the text of the law -/
namespace Lw
open PySem PySem.Spec PyProof.Rows L2 VI
def topS (i : Nat) : Stmt := PySem.Challenge.pw_paperreader_k60_tables_told.main.body.getD i (.Pass ⟨0, 0, 0, 0⟩)
abbrev s_is_name : Stmt := topS 15
abbrev N_is_name : List Str := ["thing", "letter"]
theorem sc_is_name : FnScope N_is_name ["thing"] (defScope s_is_name) := ⟨rfl, rfl, rfl, by decide +kernel, rfl, by decide +kernel, by decide +kernel⟩
abbrev s_is_count : Stmt := topS 20
abbrev N_is_count : List Str := ["thing", "least", "most"]
theorem sc_is_count : FnScope N_is_count ["thing", "least", "most"] (defScope s_is_count) := ⟨rfl, rfl, rfl, by decide +kernel, rfl, by decide +kernel, by decide +kernel⟩
abbrev s_is_word : Stmt := topS 21
abbrev N_is_word : List Str := ["thing"]
theorem sc_is_word : FnScope N_is_word ["thing"] (defScope s_is_word) := ⟨rfl, rfl, rfl, by decide +kernel, rfl, by decide +kernel, by decide +kernel⟩
abbrev s_is_deed : Stmt := topS 22
abbrev N_is_deed : List Str := ["thing", "many"]
theorem sc_is_deed : FnScope N_is_deed ["thing", "many"] (defScope s_is_deed) := ⟨rfl, rfl, rfl, by decide +kernel, rfl, by decide +kernel, by decide +kernel⟩
abbrev s_are_pairs : Stmt := topS 23
abbrev N_are_pairs : List Str := ["thing", "pair"]
theorem sc_are_pairs : FnScope N_are_pairs ["thing"] (defScope s_are_pairs) := ⟨rfl, rfl, rfl, by decide +kernel, rfl, by decide +kernel, by decide +kernel⟩
abbrev s_are_deeds : Stmt := topS 24
abbrev N_are_deeds : List Str := ["thing", "many", "words", "word", "deed"]
theorem sc_are_deeds : FnScope N_are_deeds ["thing", "many"] (defScope s_are_deeds) := ⟨rfl, rfl, rfl, by decide +kernel, rfl, by decide +kernel, by decide +kernel⟩
abbrev s_are_goes : Stmt := topS 25
abbrev N_are_goes : List Str := ["thing", "many", "parts", "part", "state"]
theorem sc_are_goes : FnScope N_are_goes ["thing", "many"] (defScope s_are_goes) := ⟨rfl, rfl, rfl, by decide +kernel, rfl, by decide +kernel, by decide +kernel⟩
abbrev s_is_note : Stmt := topS 26
abbrev N_is_note : List Str := ["thing"]
theorem sc_is_note : FnScope N_is_note ["thing"] (defScope s_is_note) := ⟨rfl, rfl, rfl, by decide +kernel, rfl, by decide +kernel, by decide +kernel⟩
abbrev s_are_notes : Stmt := topS 27
abbrev N_are_notes : List Str := ["thing", "note"]
theorem sc_are_notes : FnScope N_are_notes ["thing"] (defScope s_are_notes) := ⟨rfl, rfl, rfl, by decide +kernel, rfl, by decide +kernel, by decide +kernel⟩
abbrev s_is_state : Stmt := topS 28
abbrev N_is_state : List Str := ["thing", "many"]
theorem sc_is_state : FnScope N_is_state ["thing", "many"] (defScope s_is_state) := ⟨rfl, rfl, rfl, by decide +kernel, rfl, by decide +kernel, by decide +kernel⟩
abbrev s_Table_init : Stmt := inClass (topS 29) 0
abbrev N_Table_init : List Str := ["self", "states", "state"]
theorem sc_Table_init : FnScope N_Table_init ["self", "states"] (defScope s_Table_init) := ⟨rfl, rfl, rfl, by decide +kernel, rfl, by decide +kernel, by decide +kernel⟩
abbrev s_f_law_cell : Stmt := topS 31
abbrev N_f_law_cell : List Str := ["_law_script", "_law_k"]
theorem sc_f_law_cell : FnScope N_f_law_cell ["_law_script", "_law_k"] (defScope s_f_law_cell) := ⟨rfl, rfl, rfl, by decide +kernel, rfl, by decide +kernel, by decide +kernel⟩
abbrev s_f_law_mixed : Stmt := topS 32
abbrev N_f_law_mixed : List Str := ["_law_cell_here", "_law_turn", "_law_state_here", "_law_found", "_law_k"]
theorem sc_f_law_mixed : FnScope N_f_law_mixed ["_law_cell_here", "_law_turn"] (defScope s_f_law_mixed) := ⟨rfl, rfl, rfl, by decide +kernel, rfl, by decide +kernel, by decide +kernel⟩
abbrev s_f_law_number : Stmt := topS 33
abbrev N_f_law_number : List Str := ["_law_script", "_law_k", "_law_cell_here"]
theorem sc_f_law_number : FnScope N_f_law_number ["_law_script", "_law_k"] (defScope s_f_law_number) := ⟨rfl, rfl, rfl, by decide +kernel, rfl, by decide +kernel, by decide +kernel⟩
abbrev s_f_law_names : Stmt := topS 34
abbrev N_f_law_names : List Str := ["_law_number_here", "_law_base", "_law_at", "_law_first", "_law_signs", "_law_k"]
theorem sc_f_law_names : FnScope N_f_law_names ["_law_number_here"] (defScope s_f_law_names) := ⟨rfl, rfl, rfl, by decide +kernel, rfl, by decide +kernel, by decide +kernel⟩
abbrev s_f_law_alone : Stmt := topS 37
abbrev N_f_law_alone : List Str := ["_law_error", "_law_others"]
theorem sc_f_law_alone : FnScope N_f_law_alone ["_law_error"] (defScope s_f_law_alone) := ⟨rfl, rfl, rfl, by decide +kernel, rfl, by decide +kernel, by decide +kernel⟩
abbrev s_f_law_state : Stmt := topS 38
abbrev N_f_law_state : List Str := ["_law_number_here", "_law_names_here", "_law_many", "_law_deeds", "_law_goes", "_law_notes", "_law_word", "_law_way", "_law_part", "_law_k", "_law_rule", "_law_note"]
theorem sc_f_law_state : FnScope N_f_law_state ["_law_number_here", "_law_names_here", "_law_many"] (defScope s_f_law_state) := ⟨rfl, rfl, rfl, by decide +kernel, rfl, by decide +kernel, by decide +kernel⟩
abbrev s_f_law_bad_parts : Stmt := topS 39
abbrev N_f_law_bad_parts : List Str := ["_law_names_here", "_law_word", "_law_deeds", "_law_goes", "_law_notes", "_law_some", "_law_deed", "_law_go", "_law_note"]
theorem sc_f_law_bad_parts : FnScope N_f_law_bad_parts ["_law_names_here"] (defScope s_f_law_bad_parts) := ⟨rfl, rfl, rfl, by decide +kernel, rfl, by decide +kernel, by decide +kernel⟩
abbrev s_f_law_refused : Stmt := topS 40
abbrev N_f_law_refused : List Str := ["_law_thing", "_law_error", "e"]
theorem sc_f_law_refused : FnScope N_f_law_refused ["_law_thing"] (defScope s_f_law_refused) := ⟨rfl, rfl, rfl, by decide +kernel, rfl, by decide +kernel, by decide +kernel⟩
abbrev s_f_law_take : Stmt := topS 41
abbrev N_f_law_take : List Str := ["_law_digits", "_law_size", "_law_found"]
theorem sc_f_law_take : FnScope N_f_law_take ["_law_digits", "_law_size"] (defScope s_f_law_take) := ⟨rfl, rfl, rfl, by decide +kernel, rfl, by decide +kernel, by decide +kernel⟩
abbrev s_f_law_spots : Stmt := topS 42
abbrev N_f_law_spots : List Str := ["_law_thing", "_law_found", "_law_k", "_law_one", "_law_way"]
theorem sc_f_law_spots : FnScope N_f_law_spots ["_law_thing"] (defScope s_f_law_spots) := ⟨rfl, rfl, rfl, by decide +kernel, rfl, by decide +kernel, by decide +kernel⟩
abbrev s_f_law_with : Stmt := topS 43
abbrev N_f_law_with : List Str := ["_law_thing", "_law_way", "_law_other", "_law_k"]
theorem sc_f_law_with : FnScope N_f_law_with ["_law_thing", "_law_way", "_law_other"] (defScope s_f_law_with) := ⟨rfl, rfl, rfl, by decide +kernel, rfl, by decide +kernel, by decide +kernel⟩
abbrev s_f_law_step : Stmt := topS 44
abbrev N_f_law_step : List Str := ["_law_digits", "_law_one", "_law_at", "_law_sign", "_law_some"]
theorem sc_f_law_step : FnScope N_f_law_step ["_law_digits", "_law_one"] (defScope s_f_law_step) := ⟨rfl, rfl, rfl, by decide +kernel, rfl, by decide +kernel, by decide +kernel⟩
abbrev s_f_law_spoilt : Stmt := topS 45
abbrev N_f_law_spoilt : List Str := ["_law_digits", "_law_thing", "_law_spots_here", "_law_way", "_law_one", "_law_k"]
theorem sc_f_law_spoilt : FnScope N_f_law_spoilt ["_law_digits", "_law_thing"] (defScope s_f_law_spoilt) := ⟨rfl, rfl, rfl, by decide +kernel, rfl, by decide +kernel, by decide +kernel⟩
abbrev s_f_law_is_number : Stmt := topS 46
abbrev N_f_law_is_number : List Str := ["_law_thing", "_law_least", "_law_most"]
theorem sc_f_law_is_number : FnScope N_f_law_is_number ["_law_thing", "_law_least", "_law_most"] (defScope s_f_law_is_number) := ⟨rfl, rfl, rfl, by decide +kernel, rfl, by decide +kernel, by decide +kernel⟩
abbrev s_f_law_is_word : Stmt := topS 47
abbrev N_f_law_is_word : List Str := ["_law_thing", "_law_sign"]
theorem sc_f_law_is_word : FnScope N_f_law_is_word ["_law_thing"] (defScope s_f_law_is_word) := ⟨rfl, rfl, rfl, by decide +kernel, rfl, by decide +kernel, by decide +kernel⟩
abbrev s_f_law_rises : Stmt := topS 48
abbrev N_f_law_rises : List Str := ["_law_some", "_law_k"]
theorem sc_f_law_rises : FnScope N_f_law_rises ["_law_some"] (defScope s_f_law_rises) := ⟨rfl, rfl, rfl, by decide +kernel, rfl, by decide +kernel, by decide +kernel⟩
abbrev s_f_law_is_deed : Stmt := topS 49
abbrev N_f_law_is_deed : List Str := ["_law_word", "_law_deed", "_law_many"]
theorem sc_f_law_is_deed : FnScope N_f_law_is_deed ["_law_word", "_law_deed", "_law_many"] (defScope s_f_law_is_deed) := ⟨rfl, rfl, rfl, by decide +kernel, rfl, by decide +kernel, by decide +kernel⟩
abbrev s_f_law_is_note : Stmt := topS 50
abbrev N_f_law_is_note : List Str := ["_law_note", "_law_rule", "_law_dot", "_law_word"]
theorem sc_f_law_is_note : FnScope N_f_law_is_note ["_law_note"] (defScope s_f_law_is_note) := ⟨rfl, rfl, rfl, by decide +kernel, rfl, by decide +kernel, by decide +kernel⟩
abbrev s_f_law_is_state : Stmt := topS 51
abbrev N_f_law_is_state : List Str := ["_law_thing", "_law_many", "_law_deeds", "_law_goes", "_law_notes", "_law_one", "_law_note"]
theorem sc_f_law_is_state : FnScope N_f_law_is_state ["_law_thing", "_law_many"] (defScope s_f_law_is_state) := ⟨rfl, rfl, rfl, by decide +kernel, rfl, by decide +kernel, by decide +kernel⟩
abbrev s_f_law_is_table : Stmt := topS 52
abbrev N_f_law_is_table : List Str := ["_law_thing", "_law_one"]
theorem sc_f_law_is_table : FnScope N_f_law_is_table ["_law_thing"] (defScope s_f_law_is_table) := ⟨rfl, rfl, rfl, by decide +kernel, rfl, by decide +kernel, by decide +kernel⟩
abbrev s_f_law_kept_or_refused : Stmt := topS 53
abbrev N_f_law_kept_or_refused : List Str := ["_law_thing"]
theorem sc_f_law_kept_or_refused : FnScope N_f_law_kept_or_refused ["_law_thing"] (defScope s_f_law_kept_or_refused) := ⟨rfl, rfl, rfl, by decide +kernel, rfl, by decide +kernel, by decide +kernel⟩
abbrev s_law : Stmt := topS 54
abbrev N_law : List Str := ["_law_script", "_law_names_here", "_law_bad", "_law_k", "_law_number_here", "_law_many", "_law_states", "_law_j", "_law_handed", "_law_table", "_law_at", "_law_wrong", "_law_spoilt_here", "_law_odd", "_law_turn", "_law_other", "_law_bare"]
theorem sc_law : FnScope N_law ["_law_script"] (defScope s_law) := ⟨rfl, rfl, rfl, by decide +kernel, rfl, by decide +kernel, by decide +kernel⟩
def errC : List (String × String × Bool) := [("NoTable", "NoGrammar", false), ("NoTable", "NoText", false), ("NoTable", "NoRow", false), ("NoTable", "NoPart", false), ("NoTable", "NoTree", false), ("NoTable", "NoChart", false), ("NoTable", "NoTable", true), ("NoTable", "NoMachine", false), ("NoTable", "NoDeed", false), ("NoTable", "TooMany", false)]
def errT : List (String × String × Bool) := [("NoTable", "ValueError", true)]
def hits_ReadError : List (String × Bool) := [("NoTable", true)]
def x2_is_name : SM :=
  sRet (evC (.bl false))
def x1_is_name : SM :=
  sIf (tvOr (tvNot (tvB (evA fIsi (acons (evVar 0) (acons (evC (.ty "str")) (anil)))))) (tvNot (tvB (evCh fLe fLe (evC (.int 1)) (evA fLen (acons (evVar 0) (anil))) (evC (.int 8)))))) (x2_is_name) (sNext)
def lc_is_name_1 : EM := evLc [1] (itSeq (evVar 0)) (gdName 1) (tvYes) (ev2 (fIn false) (evVar 1) (evC (.str "abcdefghijklmnopqrstuvwxyz")))
def x3_is_name : SM :=
  sRet (evA fAll (acons (lc_is_name_1) (anil)))
def b_is_name : SM :=
  sSeq (x1_is_name)
  (x3_is_name)
def F_is_name : FnSem := runP 2 b_is_name
def x1_is_count : SM :=
  sRet (evAnd (evA fIsi (acons (evVar 0) (acons (evC (.ty "int")) (anil)))) (evAnd (evNot (evA fIsi (acons (evVar 0) (acons (evC (.ty "bool")) (anil))))) (evCh fLe fLe (evVar 1) (evVar 0) (evVar 2))))
def b_is_count : SM :=
  x1_is_count
def F_is_count : FnSem := runP 3 b_is_count
def lc_are_pairs_1 : EM := evLc [1] (itSeq (evVar 0)) (gdName 1) (tvYes) (evAnd (evA fIsi (acons (evVar 1) (acons (evC (.ty "tuple")) (anil)))) (ev2 (fEq false) (evA fLen (acons (evVar 1) (anil))) (evC (.int 2))))
def x1_are_pairs : SM :=
  sRet (evAnd (evA fIsi (acons (evVar 0) (acons (evC (.ty "tuple")) (anil)))) (evA fAll (acons (lc_are_pairs_1) (anil))))
def b_are_pairs : SM :=
  x1_are_pairs
def F_are_pairs : FnSem := runP 2 b_are_pairs
def x2_f_law_cell : SM :=
  sRet (ev2 fIx (evVar 0) (evVar 1))
def x1_f_law_cell : SM :=
  sIf (tvB (ev2 fLt (evVar 1) (evA fLen (acons (evVar 0) (anil))))) (x2_f_law_cell) (sNext)
def x3_f_law_cell : SM :=
  sRet (evC (.int 0))
def b_f_law_cell : SM :=
  sSeq (x1_f_law_cell)
  (x3_f_law_cell)
def F_f_law_cell : FnSem := runP 2 b_f_law_cell
def x1_f_law_mixed : SM :=
  sSet 2 (ev2 fMod (ev2 fAdd (ev2 fAdd (ev2 fMulB (evVar 0) (evC (.int 48271))) (ev2 fMulB (evVar 1) (evC (.int 104729)))) (evC (.int 7919))) (evC (.int 2147483647)))
def x2_f_law_mixed : SM :=
  sSet 3 (evC (.int 0))
def x4_f_law_mixed : SM :=
  sSet 2 (ev2 fMod (ev2 fAdd (ev2 fAdd (ev2 fAdd (ev2 fMulB (evVar 2) (evVar 2)) (ev2 fMulB (evC (.int 48271)) (evVar 2))) (evVar 1)) (evC (.int 1))) (evC (.int 2147483629)))
def x5_f_law_mixed : SM :=
  sSet 3 (ev2 fAdd (ev2 fMulB (evVar 3) (evC (.int 2147483629))) (ev2 fMod (ev2 fAdd (ev2 fAdd (ev2 fMulB (evVar 2) (evC (.int 69621))) (ev2 fDivW (evVar 0) (evC (.int 2147483647)))) (evVar 4)) (evC (.int 2147483629))))
def lp_f_law_mixed_1 : SM :=
  sSeq (x4_f_law_mixed)
  (x5_f_law_mixed)
def x3_f_law_mixed : SM :=
  sFor (itR1 (acons (evC (.int 4)) (anil))) (gdName 4) (lp_f_law_mixed_1)
def x6_f_law_mixed : SM :=
  sRet (evVar 3)
def b_f_law_mixed : SM :=
  sSeq (x1_f_law_mixed)
  (sSeq (x2_f_law_mixed)
  (sSeq (x3_f_law_mixed)
  (x6_f_law_mixed)))
def F_f_law_mixed : FnSem := runP 5 b_f_law_mixed
def x1_f_law_names : SM :=
  sSet 1 (ev2 fIx (evLst (acons (evC (.str "k")) (acons (evC (.str "if")) (acons (evC (.str "hold")) (acons (evC (.str "turns")) (acons (evC (.str "a")) (anil))))))) (ev2 fMod (evVar 0) (evC (.int 5))))
def x2_f_law_names : SM :=
  sSet 2 (ev2 fMod (ev2 fDivW (evVar 0) (evC (.int 5))) (ev2 fAdd (evA fLen (acons (evVar 1) (anil))) (evC (.int 1))))
def x3_f_law_names : SM :=
  sSet 3 (ev2 fMod (ev2 fDivW (evVar 0) (evC (.int 30))) (evC (.int 26)))
def x4_f_law_names : SM :=
  sSet 4 (evC (.str "abcdefghijklmnopqrstuvwxyz"))
def lc_f_law_names_1 : EM := evLc [5] (itR1 (acons (evC (.int 5)) (anil))) (gdName 5) (tvYes) (ev2 fAdd (ev2 fAdd (evSl (evVar 1) (bNone) (bSome (evVar 2))) (ev2 fIx (evVar 4) (ev2 fMod (ev2 fAdd (evVar 3) (evVar 5)) (evC (.int 26))))) (evSl (evVar 1) (bSome (evVar 2)) (bNone)))
def x5_f_law_names : SM :=
  sRet (lc_f_law_names_1)
def b_f_law_names : SM :=
  sSeq (x1_f_law_names)
  (sSeq (x2_f_law_names)
  (sSeq (x3_f_law_names)
  (sSeq (x4_f_law_names)
  (x5_f_law_names))))
def F_f_law_names : FnSem := runP 6 b_f_law_names
def x1_f_law_alone : SM :=
  sSet 1 (evLst (acons (evA (fIsE errC errT) (acons (evVar 0) (acons (evC (.cl "NoChart")) (anil)))) (acons (evA (fIsE errC errT) (acons (evVar 0) (acons (evC (.cl "NoDeed")) (anil)))) (acons (evA (fIsE errC errT) (acons (evVar 0) (acons (evC (.cl "NoGrammar")) (anil)))) (anil)))))
def x2_f_law_alone : SM :=
  sSet 1 (ev2 fAdd (evVar 1) (evLst (acons (evA (fIsE errC errT) (acons (evVar 0) (acons (evC (.cl "NoMachine")) (anil)))) (acons (evA (fIsE errC errT) (acons (evVar 0) (acons (evC (.cl "NoPart")) (anil)))) (acons (evA (fIsE errC errT) (acons (evVar 0) (acons (evC (.cl "NoRow")) (anil)))) (anil))))))
def x3_f_law_alone : SM :=
  sSet 1 (ev2 fAdd (evVar 1) (evLst (acons (evA (fIsE errC errT) (acons (evVar 0) (acons (evC (.cl "NoText")) (anil)))) (acons (evA (fIsE errC errT) (acons (evVar 0) (acons (evC (.cl "NoTree")) (anil)))) (acons (evA (fIsE errC errT) (acons (evVar 0) (acons (evC (.cl "TooMany")) (anil)))) (anil))))))
def x4_f_law_alone : SM :=
  sRet (evAnd (evA (fIsE errC errT) (acons (evVar 0) (acons (evC (.cl "NoTable")) (anil)))) (evAnd (evA (fIsE errC errT) (acons (evVar 0) (acons (evC (.ty "ValueError")) (anil)))) (ev2 (fIn true) (evC (.bl true)) (evVar 1))))
def b_f_law_alone : SM :=
  sSeq (x1_f_law_alone)
  (sSeq (x2_f_law_alone)
  (sSeq (x3_f_law_alone)
  (x4_f_law_alone)))
def F_f_law_alone : FnSem := runP 2 b_f_law_alone
def x1_f_law_state : SM :=
  sReg 3 (evLst (anil))
def x2_f_law_state : SM :=
  sReg 4 (evLst (anil))
def x3_f_law_state : SM :=
  sReg 5 (evLst (anil))
def x5_f_law_state : SM :=
  sSet 7 (ev2 fMod (evVar 0) (evC (.int 4)))
def x7_f_law_state : SM :=
  sDrop (evMt "list" fAppend (evVar 3) (acons (evTup (acons (evVar 6) (acons (evTup (acons (evC (.str "shift")) (acons (ev2 fMod (ev2 fDivW (evVar 0) (evC (.int 4))) (evVar 2)) (anil)))) (anil)))) (anil)))
def x6_f_law_state : SM :=
  sIf (tvAnd (tvB (ev2 (fEq false) (evVar 7) (evC (.int 1)))) (tvB (ev2 (fEq true) (evVar 6) (evC (.str ""))))) (x7_f_law_state) (sNext)
def x9_f_law_state : SM :=
  sDrop (evMt "list" fAppend (evVar 3) (acons (evTup (acons (evVar 6) (acons (evTup (acons (evC (.str "make")) (acons (ev2 fMod (ev2 fDivW (evVar 0) (evC (.int 4))) (evC (.int 300))) (anil)))) (anil)))) (anil)))
def x8_f_law_state : SM :=
  sIf (tvB (ev2 (fEq false) (evVar 7) (evC (.int 2)))) (x9_f_law_state) (sNext)
def x11_f_law_state : SM :=
  sDrop (evMt "list" fAppend (evVar 3) (acons (evTup (acons (evVar 6) (acons (evTup (acons (evC (.str "end")) (anil))) (anil)))) (anil)))
def x10_f_law_state : SM :=
  sIf (tvB (ev2 (fEq false) (evVar 7) (evC (.int 3)))) (x11_f_law_state) (sNext)
def x12_f_law_state : SM :=
  sSet 0 (ev2 fDivW (evVar 0) (evC (.int 1200)))
def lp_f_law_state_1 : SM :=
  sSeq (x5_f_law_state)
  (sSeq (x6_f_law_state)
  (sSeq (x8_f_law_state)
  (sSeq (x10_f_law_state)
  (x12_f_law_state))))
def x4_f_law_state : SM :=
  sFor (itSeq (ev2 fAdd (evLst (acons (evC (.str "")) (anil))) (evA fSorted (acons (evSl (evVar 1) (bSome (evC (.int 2))) (bNone)) (anil))))) (gdName 6) (lp_f_law_state_1)
def x15_f_law_state : SM :=
  sDrop (evMt "list" fAppend (evVar 4) (acons (evTup (acons (evVar 8) (acons (ev2 fMod (ev2 fDivW (evVar 0) (evC (.int 2))) (evVar 2)) (anil)))) (anil)))
def x14_f_law_state : SM :=
  sIf (tvB (ev2 (fEq false) (ev2 fMod (evVar 0) (evC (.int 2))) (evC (.int 0)))) (x15_f_law_state) (sNext)
def x16_f_law_state : SM :=
  sSet 0 (ev2 fDivW (evVar 0) (ev2 fMulB (evC (.int 2)) (evVar 2)))
def lp_f_law_state_2 : SM :=
  sSeq (x14_f_law_state)
  (x16_f_law_state)
def x13_f_law_state : SM :=
  sFor (itSeq (evA fSorted (acons (evSl (evVar 1) (bNone) (bSome (evC (.int 2)))) (anil)))) (gdName 8) (lp_f_law_state_2)
def x18_f_law_state : SM :=
  sSet 0 (ev2 fDivW (evVar 0) (evC (.int 5)))
def x19_f_law_state : SM :=
  sSet 10 (ev2 fSub (ev2 fMod (evVar 0) (evC (.int 301))) (evC (.int 1)))
def x20_f_law_state : SM :=
  sSet 11 (evTup (acons (evVar 10) (acons (ev2 fMod (ev2 fDivW (evVar 0) (evC (.int 301))) (evC (.int 9))) (acons (ev2 fIx (ev2 fAdd (evLst (acons (evC (.str "")) (anil))) (evSl (evVar 1) (bSome (evC (.int 2))) (bNone))) (ev2 fMod (ev2 fDivW (evVar 0) (evC (.int 2709))) (evC (.int 4)))) (anil)))))
def x22_f_law_state : SM :=
  sSet 11 (evTup (acons (ev1 fNeg (evC (.int 1))) (acons (ev2 fMod (ev2 fDivW (evVar 0) (evC (.int 301))) (evC (.int 2))) (acons (evC (.str "")) (anil)))))
def x21_f_law_state : SM :=
  sIf (tvB (ev2 (fEq false) (evVar 10) (ev1 fNeg (evC (.int 1))))) (x22_f_law_state) (sNext)
def x23_f_law_state : SM :=
  sDrop (evMt "list" fAppend (evVar 5) (acons (evVar 11) (anil)))
def x24_f_law_state : SM :=
  sSet 0 (ev2 fDivW (evVar 0) (evC (.int 10836)))
def lp_f_law_state_3 : SM :=
  sSeq (x18_f_law_state)
  (sSeq (x19_f_law_state)
  (sSeq (x20_f_law_state)
  (sSeq (x21_f_law_state)
  (sSeq (x23_f_law_state)
  (x24_f_law_state)))))
def x17_f_law_state : SM :=
  sFor (itR1 (acons (ev2 fMod (evVar 0) (evC (.int 5))) (anil))) (gdName 9) (lp_f_law_state_3)
def x25_f_law_state : SM :=
  sRet (evTup (acons (evA fTuple (acons (evVar 3) (anil))) (acons (evA fTuple (acons (evVar 4) (anil))) (acons (evA fTuple (acons (evA fSortSetT (acons (evVar 5) (anil))) (anil))) (anil)))))
def b_f_law_state : SM :=
  sSeq (x1_f_law_state)
  (sSeq (x2_f_law_state)
  (sSeq (x3_f_law_state)
  (sSeq (x4_f_law_state)
  (sSeq (x13_f_law_state)
  (sSeq (x17_f_law_state)
  (x25_f_law_state))))))
def F_f_law_state : FnSem := runP 12 b_f_law_state
def x1_f_law_bad_parts : SM :=
  sSet 1 (ev2 fIx (evVar 0) (evC (.int 2)))
def x2_f_law_bad_parts : SM :=
  sSet 2 (evLst (acons (evTup (acons (evTup (acons (evVar 1) (acons (evTup (acons (evC (.str "shift")) (acons (evC (.int 9)) (anil)))) (anil)))) (anil))) (acons (evTup (acons (evTup (acons (evVar 1) (acons (evTup (acons (evC (.str "shift")) (acons (ev1 fNeg (evC (.int 1))) (anil)))) (anil)))) (anil))) (acons (evTup (acons (evTup (acons (evVar 1) (acons (evTup (acons (evC (.str "shift")) (acons (evC (.bl true)) (anil)))) (anil)))) (anil))) (acons (evTup (acons (evTup (acons (evVar 1) (acons (evTup (acons (evC (.str "make")) (acons (evC (.int 300)) (anil)))) (anil)))) (anil))) (anil))))))
def x3_f_law_bad_parts : SM :=
  sSet 2 (ev2 fAdd (evVar 2) (evLst (acons (evTup (acons (evTup (acons (evVar 1) (acons (evTup (acons (evC (.str "make")) (acons (ev1 fNeg (evC (.int 1))) (anil)))) (anil)))) (anil))) (acons (evTup (acons (evTup (acons (evVar 1) (acons (evTup (acons (evC (.str "make")) (acons (evC (.str "0")) (anil)))) (anil)))) (anil))) (acons (evTup (acons (evTup (acons (evVar 1) (acons (evTup (acons (evC (.str "go")) (acons (evC (.int 0)) (anil)))) (anil)))) (anil))) (acons (evTup (acons (evTup (acons (evVar 1) (acons (evTup (acons (evC (.str "end")) (acons (evC (.int 0)) (anil)))) (anil)))) (anil))) (anil)))))))
def x4_f_law_bad_parts : SM :=
  sSet 2 (ev2 fAdd (evVar 2) (evLst (acons (evTup (acons (evTup (acons (evVar 1) (acons (evLst (acons (evC (.str "end")) (anil))) (anil)))) (anil))) (acons (evTup (acons (evTup (acons (evC (.str "")) (acons (evTup (acons (evC (.str "shift")) (acons (evC (.int 0)) (anil)))) (anil)))) (anil))) (acons (evTup (acons (evTup (acons (evC .non) (acons (evTup (acons (evC (.str "end")) (anil))) (anil)))) (anil))) (acons (evTup (acons (evTup (acons (evC (.str "A")) (acons (evTup (acons (evC (.str "end")) (anil))) (anil)))) (anil))) (acons (evTup (acons (evTup (acons (evVar 1) (anil))) (anil))) (anil))))))))
def x5_f_law_bad_parts : SM :=
  sSet 2 (ev2 fAdd (evVar 2) (evLst (acons (evTup (acons (evTup (acons (evVar 1) (acons (evTup (acons (evC (.str "end")) (anil))) (anil)))) (acons (evTup (acons (evC (.str "")) (acons (evTup (acons (evC (.str "end")) (anil))) (anil)))) (anil)))) (acons (evTup (acons (evTup (acons (evVar 1) (acons (evTup (acons (evC (.str "end")) (anil))) (anil)))) (acons (evTup (acons (evVar 1) (acons (evTup (acons (evC (.str "end")) (anil))) (anil)))) (anil)))) (acons (evLst (anil)) (acons (evC .non) (anil)))))))
def x6_f_law_bad_parts : SM :=
  sSet 2 (ev2 fAdd (evVar 2) (evLst (acons (evTup (acons (evTup (acons (evVar 1) (acons (evTup (anil)) (anil)))) (anil))) (acons (evC (.str "ab")) (anil)))))
def x7_f_law_bad_parts : SM :=
  sSet 3 (evLst (acons (evTup (acons (evTup (acons (evVar 1) (acons (evC (.int 9)) (anil)))) (anil))) (acons (evTup (acons (evTup (acons (evVar 1) (acons (ev1 fNeg (evC (.int 1))) (anil)))) (anil))) (acons (evTup (acons (evTup (acons (evVar 1) (acons (evC (.bl true)) (anil)))) (anil))) (acons (evTup (acons (evTup (acons (evC (.str "")) (acons (evC (.int 0)) (anil)))) (anil))) (acons (evTup (acons (evTup (acons (evC (.str "A")) (acons (evC (.int 0)) (anil)))) (anil))) (acons (evTup (acons (evTup (acons (evVar 1) (acons (evC (.int 0)) (anil)))) (acons (evTup (acons (evVar 1) (acons (evC (.int 0)) (anil)))) (anil)))) (acons (evC .non) (acons (evTup (acons (evC (.int 5)) (anil))) (anil))))))))))
def x8_f_law_bad_parts : SM :=
  sReg 4 (evLst (acons (evTup (acons (evTup (acons (evC (.int 300)) (acons (evC (.int 0)) (acons (evC (.str "")) (anil))))) (anil))) (acons (evTup (acons (evTup (acons (ev1 fNeg (evC (.int 2))) (acons (evC (.int 0)) (acons (evC (.str "")) (anil))))) (anil))) (acons (evTup (acons (evTup (acons (evC (.int 0)) (acons (evC (.int 9)) (acons (evC (.str "")) (anil))))) (anil))) (acons (evTup (acons (evTup (acons (evC (.int 0)) (acons (ev1 fNeg (evC (.int 1))) (acons (evC (.str "")) (anil))))) (anil))) (acons (evTup (acons (evTup (acons (evC (.int 0)) (acons (evC (.int 0)) (acons (evC (.str "A")) (anil))))) (anil))) (acons (evTup (acons (evTup (acons (evC (.int 0)) (acons (evC (.int 0)) (acons (evC .non) (anil))))) (anil))) (acons (evTup (acons (evTup (acons (evC (.int 0)) (acons (evC (.int 0)) (anil)))) (anil))) (anil)))))))))
def x9_f_law_bad_parts : SM :=
  sReg 4 (ev2 fAdd (evVar 4) (evLst (acons (evTup (acons (evTup (acons (ev1 fNeg (evC (.int 1))) (acons (evC (.int 2)) (acons (evC (.str "")) (anil))))) (anil))) (acons (evTup (acons (evTup (acons (ev1 fNeg (evC (.int 1))) (acons (evC (.int 0)) (acons (evVar 1) (anil))))) (anil))) (acons (evTup (acons (evTup (acons (evC (.int 0)) (acons (evC (.int 1)) (acons (evC (.str "")) (anil))))) (acons (evTup (acons (evC (.int 0)) (acons (evC (.int 0)) (acons (evC (.str "")) (anil))))) (anil)))) (acons (evTup (acons (evTup (acons (evC (.int 0)) (acons (evC (.int 0)) (acons (evC (.str "")) (anil))))) (acons (evTup (acons (evC (.int 0)) (acons (evC (.int 0)) (acons (evC (.str "")) (anil))))) (anil)))) (anil)))))))
def x10_f_law_bad_parts : SM :=
  sDrop (evMt "list" fAppend (evVar 4) (acons (evTup (acons (evTup (acons (evC (.bl true)) (acons (evC (.int 0)) (acons (evC (.str "")) (anil))))) (anil))) (anil)))
def x11_f_law_bad_parts : SM :=
  sReg 4 (ev2 fAdd (evVar 4) (evLst (acons (evLst (anil)) (acons (evC .non) (acons (evTup (acons (evLst (acons (evC (.int 0)) (acons (evC (.int 0)) (acons (evC (.str "")) (anil))))) (anil))) (acons (evTup (acons (evTup (acons (evC (.int 0)) (acons (evC (.bl true)) (acons (evC (.str "")) (anil))))) (anil))) (anil)))))))
def lc_f_law_bad_parts_1 : EM := evLc [6] (itSeq (evVar 2)) (gdName 6) (tvYes) (evTup (acons (evVar 6) (acons (evTup (anil)) (acons (evTup (anil)) (anil)))))
def lc_f_law_bad_parts_2 : EM := evLc [7] (itSeq (evVar 3)) (gdName 7) (tvYes) (evTup (acons (evTup (anil)) (acons (evVar 7) (acons (evTup (anil)) (anil)))))
def lc_f_law_bad_parts_3 : EM := evLc [8] (itSeq (evVar 4)) (gdName 8) (tvYes) (evTup (acons (evTup (anil)) (acons (evTup (anil)) (acons (evVar 8) (anil)))))
def x12_f_law_bad_parts : SM :=
  sSet 5 (ev2 fAdd (ev2 fAdd (lc_f_law_bad_parts_1) (lc_f_law_bad_parts_2)) (lc_f_law_bad_parts_3))
def x13_f_law_bad_parts : SM :=
  sRet (ev2 fAdd (evVar 5) (evLst (acons (evLst (acons (evTup (anil)) (acons (evTup (anil)) (acons (evTup (anil)) (anil))))) (acons (evTup (acons (evTup (anil)) (acons (evTup (anil)) (anil)))) (acons (evTup (acons (evTup (anil)) (acons (evTup (anil)) (acons (evTup (anil)) (acons (evTup (anil)) (anil)))))) (acons (evC .non) (acons (evC (.str "abc")) (acons (evC (.int 5)) (anil)))))))))
def b_f_law_bad_parts : SM :=
  sSeq (x1_f_law_bad_parts)
  (sSeq (x2_f_law_bad_parts)
  (sSeq (x3_f_law_bad_parts)
  (sSeq (x4_f_law_bad_parts)
  (sSeq (x5_f_law_bad_parts)
  (sSeq (x6_f_law_bad_parts)
  (sSeq (x7_f_law_bad_parts)
  (sSeq (x8_f_law_bad_parts)
  (sSeq (x9_f_law_bad_parts)
  (sSeq (x10_f_law_bad_parts)
  (sSeq (x11_f_law_bad_parts)
  (sSeq (x12_f_law_bad_parts)
  (x13_f_law_bad_parts))))))))))))
def F_f_law_bad_parts : FnSem := runP 9 b_f_law_bad_parts
def x1_f_law_take : SM :=
  sSet 2 (ev2 fMod (ev2 fIx (evVar 0) (evC (.int 0))) (evVar 1))
def x2_f_law_take : SM :=
  sSetIx fSetL (ev2 fDivW (ev2 fIx (evVar 0) (evC (.int 0))) (evVar 1)) (evVar 0) (evC (.int 0))
def x3_f_law_take : SM :=
  sRet (evVar 2)
def b_f_law_take : SM :=
  sSeq (x1_f_law_take)
  (sSeq (x2_f_law_take)
  (x3_f_law_take))
def F_f_law_take : FnSem := runP 3 b_f_law_take
def x1_f_law_is_number : SM :=
  sRet (evAnd (evA fIsi (acons (evVar 0) (acons (evC (.ty "int")) (anil)))) (evAnd (evNot (evA fIsi (acons (evVar 0) (acons (evC (.ty "bool")) (anil))))) (evCh fLe fLe (evVar 1) (evVar 0) (evVar 2))))
def b_f_law_is_number : SM :=
  x1_f_law_is_number
def F_f_law_is_number : FnSem := runP 3 b_f_law_is_number
def x2_f_law_is_word : SM :=
  sRet (evC (.bl false))
def x1_f_law_is_word : SM :=
  sIf (tvOr (tvNot (tvB (evA fIsi (acons (evVar 0) (acons (evC (.ty "str")) (anil)))))) (tvB (ev2 fGt (evA fLen (acons (evVar 0) (anil))) (evC (.int 8))))) (x2_f_law_is_word) (sNext)
def lc_f_law_is_word_1 : EM := evLc [1] (itSeq (evVar 0)) (gdName 1) (tvB (ev2 (fIn true) (evVar 1) (evC (.str "abcdefghijklmnopqrstuvwxyz")))) (evVar 1)
def x3_f_law_is_word : SM :=
  sRet (ev2 (fEq false) (lc_f_law_is_word_1) (evLst (anil)))
def b_f_law_is_word : SM :=
  sSeq (x1_f_law_is_word)
  (x3_f_law_is_word)
def F_f_law_is_word : FnSem := runP 2 b_f_law_is_word
def lc_f_law_rises_1 : EM := evLc [1] (itR1 (acons (ev2 fSub (evA fLen (acons (evVar 0) (anil))) (evC (.int 1))) (anil))) (gdName 1) (tvB (ev2 fGeA (ev2 fIx (evVar 0) (evVar 1)) (ev2 fIx (evVar 0) (ev2 fAdd (evVar 1) (evC (.int 1)))))) (evVar 1)
def x1_f_law_rises : SM :=
  sRet (ev2 (fEq false) (lc_f_law_rises_1) (evLst (anil)))
def b_f_law_rises : SM :=
  x1_f_law_rises
def F_f_law_rises : FnSem := runP 2 b_f_law_rises
def x1_is_word : SM :=
  sRet (evAnd (evA fIsi (acons (evVar 0) (acons (evC (.ty "str")) (anil)))) (evOr (ev2 (fEq false) (evVar 0) (evC (.str ""))) (evCall 1 F_is_name (acons (evVar 0) (anil)))))
def b_is_word : SM :=
  x1_is_word
def F_is_word : FnSem := runP 1 b_is_word
def x2_is_deed : SM :=
  sRet (evC (.bl false))
def x1_is_deed : SM :=
  sIf (tvOr (tvNot (tvB (evA fIsi (acons (evVar 0) (acons (evC (.ty "tuple")) (anil)))))) (tvOr (tvB (ev2 (fEq false) (evVar 0) (evTup (anil)))) (tvNot (tvB (evA fIsi (acons (ev2 fIx (evVar 0) (evC (.int 0))) (acons (evC (.ty "str")) (anil)))))))) (x2_is_deed) (sNext)
def x4_is_deed : SM :=
  sRet (evAnd (ev2 (fEq false) (evA fLen (acons (evVar 0) (anil))) (evC (.int 2))) (evCall 3 F_is_count (acons (ev2 fIx (evVar 0) (evC (.int 1))) (acons (evC (.int 0)) (acons (ev2 fSub (evVar 1) (evC (.int 1))) (anil))))))
def x3_is_deed : SM :=
  sIf (tvB (ev2 (fEq false) (ev2 fIx (evVar 0) (evC (.int 0))) (evC (.str "shift")))) (x4_is_deed) (sNext)
def x6_is_deed : SM :=
  sRet (evAnd (ev2 (fEq false) (evA fLen (acons (evVar 0) (anil))) (evC (.int 2))) (evCall 3 F_is_count (acons (ev2 fIx (evVar 0) (evC (.int 1))) (acons (evC (.int 0)) (acons (ev2 fSub (evC (.int 300)) (evC (.int 1))) (anil))))))
def x5_is_deed : SM :=
  sIf (tvB (ev2 (fEq false) (ev2 fIx (evVar 0) (evC (.int 0))) (evC (.str "make")))) (x6_is_deed) (sNext)
def x7_is_deed : SM :=
  sRet (ev2 (fEq false) (evVar 0) (evTup (acons (evC (.str "end")) (anil))))
def b_is_deed : SM :=
  sSeq (x1_is_deed)
  (sSeq (x3_is_deed)
  (sSeq (x5_is_deed)
  (x7_is_deed)))
def F_is_deed : FnSem := runP 2 b_is_deed
def lc_are_goes_1 : EM := evLc [3, 4] (itSeq (evVar 0)) (gdUn [gdName 3, gdName 4]) (tvYes) (evAnd (evCall 1 F_is_name (acons (evVar 3) (anil))) (evCall 3 F_is_count (acons (evVar 4) (acons (evC (.int 0)) (acons (ev2 fSub (evVar 1) (evC (.int 1))) (anil))))))
def x2_are_goes : SM :=
  sRet (evC (.bl false))
def x1_are_goes : SM :=
  sIf (tvOr (tvNot (tvB (evCall 1 F_are_pairs (acons (evVar 0) (anil))))) (tvNot (tvB (evA fAll (acons (lc_are_goes_1) (anil)))))) (x2_are_goes) (sNext)
def lc_are_goes_2 : EM := evLc [3, 4] (itSeq (evVar 0)) (gdUn [gdName 3, gdName 4]) (tvYes) (evVar 3)
def x3_are_goes : SM :=
  sSet 2 (lc_are_goes_2)
def x4_are_goes : SM :=
  sRet (ev2 (fEq false) (evA fSortSetT (acons (evVar 2) (anil))) (evVar 2))
def b_are_goes : SM :=
  sSeq (x1_are_goes)
  (sSeq (x3_are_goes)
  (x4_are_goes))
def F_are_goes : FnSem := runP 5 b_are_goes
def x1_f_law_number : SM :=
  sSet 2 (evCall 2 F_f_law_cell (acons (evVar 0) (acons (evVar 1) (anil))))
def x3_f_law_number : SM :=
  sRet (ev2 fSub (evVar 2) (ev2 fPow (evC (.int 10)) (evC (.int 18))))
def x2_f_law_number : SM :=
  sIf (tvB (ev2 fGeA (evVar 2) (ev2 fPow (evC (.int 10)) (evC (.int 18))))) (x3_f_law_number) (sNext)
def x4_f_law_number : SM :=
  sRet (evCall 2 F_f_law_mixed (acons (evVar 2) (acons (evVar 1) (anil))))
def b_f_law_number : SM :=
  sSeq (x1_f_law_number)
  (sSeq (x2_f_law_number)
  (x4_f_law_number))
def F_f_law_number : FnSem := runP 3 b_f_law_number
def x2_f_law_step : SM :=
  sSet 2 (evCall 2 F_f_law_take (acons (evVar 0) (acons (ev2 fAdd (evA fLen (acons (evVar 1) (anil))) (evC (.int 1))) (anil))))
def x3_f_law_step : SM :=
  sSet 3 (ev2 fIx (evC (.str "abcdefghijklmnopqrstuvwxyz")) (evCall 2 F_f_law_take (acons (evVar 0) (acons (evC (.int 26)) (anil)))))
def x4_f_law_step : SM :=
  sSet 4 (evLst (acons (ev2 fAdd (ev2 fAdd (evSl (evVar 1) (bNone) (bSome (evVar 2))) (evVar 3)) (evSl (evVar 1) (bSome (ev2 fAdd (evVar 2) (evC (.int 1)))) (bNone))) (acons (ev2 fAdd (ev2 fAdd (evSl (evVar 1) (bNone) (bSome (evVar 2))) (evVar 3)) (evSl (evVar 1) (bSome (evVar 2)) (bNone))) (acons (ev2 fAdd (evSl (evVar 1) (bNone) (bSome (evVar 2))) (evSl (evVar 1) (bSome (ev2 fAdd (evVar 2) (evC (.int 1)))) (bNone))) (anil)))))
def x5_f_law_step : SM :=
  sRet (ev2 fIx (ev2 fAdd (evVar 4) (evLst (acons (evC (.str "")) (acons (ev2 fAdd (evVar 1) (evC (.str "abcdefgh"))) (acons (evMt0 "str" fUpper (evVar 1)) (acons (evTup (acons (evVar 1) (anil))) (acons (evC .non) (anil)))))))) (evCall 2 F_f_law_take (acons (evVar 0) (acons (evC (.int 8)) (anil)))))
def x1_f_law_step : SM :=
  sIf (tvB (evA fIsi (acons (evVar 1) (acons (evC (.ty "str")) (anil))))) (sSeq (x2_f_law_step)
  (sSeq (x3_f_law_step)
  (sSeq (x4_f_law_step)
  (x5_f_law_step)))) (sNext)
def x7_f_law_step : SM :=
  sSet 4 (evLst (acons (ev2 fAdd (evVar 1) (evC (.int 1))) (acons (ev2 fSub (evVar 1) (evC (.int 1))) (acons (ev1 fNeg (evC (.int 1))) (acons (evC (.int 0)) (acons (evC (.int 1)) (acons (evC (.int 2)) (acons (evC (.int 8)) (acons (evC (.int 9)) (acons (evC (.int 299)) (acons (evC (.int 300)) (acons (evA fStrI (acons (evVar 1) (anil))) (acons (ev2 (fEq false) (evVar 1) (evC (.int 1))) (acons (evC .non) (acons (evTup (acons (evVar 1) (anil))) (anil))))))))))))))))
def x8_f_law_step : SM :=
  sRet (ev2 fIx (evVar 4) (evCall 2 F_f_law_take (acons (evVar 0) (acons (evC (.int 14)) (anil)))))
def x6_f_law_step : SM :=
  sIf (tvB (evA fIsi (acons (evVar 1) (acons (evC (.ty "int")) (anil))))) (sSeq (x7_f_law_step)
  (x8_f_law_step)) (sNext)
def x9_f_law_step : SM :=
  sSet 2 (evCall 2 F_f_law_take (acons (evVar 0) (acons (evA (fMaxMin true) (acons (evC (.int 1)) (acons (evA fLen (acons (evVar 1) (anil))) (anil)))) (anil))))
def x10_f_law_step : SM :=
  sSet 4 (evLst (acons (ev2 fAdd (evSl (evVar 1) (bNone) (bSome (evVar 2))) (evSl (evVar 1) (bSome (ev2 fAdd (evVar 2) (evC (.int 1)))) (bNone))) (acons (ev2 fAdd (evSl (evVar 1) (bNone) (bSome (ev2 fAdd (evVar 2) (evC (.int 1))))) (evSl (evVar 1) (bSome (evVar 2)) (bNone))) (acons (ev2 fAdd (evSl (evVar 1) (bNone) (bSome (evVar 2))) (evRevA (evSl (evVar 1) (bSome (evVar 2)) (bNone)))) (acons (evRevA (evVar 1)) (anil))))))
def x11_f_law_step : SM :=
  sRet (ev2 fIx (ev2 fAdd (evVar 4) (evLst (acons (evA fList (acons (evVar 1) (anil))) (acons (evTup (acons (evVar 1) (anil))) (acons (evTup (anil)) (acons (evC .non) (anil))))))) (evCall 2 F_f_law_take (acons (evVar 0) (acons (evC (.int 8)) (anil)))))
def b_f_law_step : SM :=
  sSeq (x1_f_law_step)
  (sSeq (x6_f_law_step)
  (sSeq (x9_f_law_step)
  (sSeq (x10_f_law_step)
  (x11_f_law_step))))
def F_f_law_step : FnSem := runP 5 b_f_law_step
def x2_f_law_is_deed : SM :=
  sRet (ev2 (fEq false) (evVar 1) (evTup (acons (evC (.str "end")) (anil))))
def x1_f_law_is_deed : SM :=
  sIf (tvOr (tvNot (tvB (evA fIsi (acons (evVar 1) (acons (evC (.ty "tuple")) (anil)))))) (tvB (ev2 (fEq true) (evA fLen (acons (evVar 1) (anil))) (evC (.int 2))))) (x2_f_law_is_deed) (sNext)
def x4_f_law_is_deed : SM :=
  sRet (evAnd (ev2 (fEq true) (evVar 0) (evC (.str ""))) (evCall 3 F_f_law_is_number (acons (ev2 fIx (evVar 1) (evC (.int 1))) (acons (evC (.int 0)) (acons (ev2 fSub (evVar 2) (evC (.int 1))) (anil))))))
def x3_f_law_is_deed : SM :=
  sIf (tvB (ev2 (fEq false) (ev2 fIx (evVar 1) (evC (.int 0))) (evC (.str "shift")))) (x4_f_law_is_deed) (sNext)
def x5_f_law_is_deed : SM :=
  sRet (evAnd (ev2 (fEq false) (ev2 fIx (evVar 1) (evC (.int 0))) (evC (.str "make"))) (evCall 3 F_f_law_is_number (acons (ev2 fIx (evVar 1) (evC (.int 1))) (acons (evC (.int 0)) (acons (evC (.int 299)) (anil))))))
def b_f_law_is_deed : SM :=
  sSeq (x1_f_law_is_deed)
  (sSeq (x3_f_law_is_deed)
  (x5_f_law_is_deed))
def F_f_law_is_deed : FnSem := runP 3 b_f_law_is_deed
def x1_f_law_is_note : SM :=
  sUn [gdName 1, gdName 2, gdName 3] (evVar 0)
def x3_f_law_is_note : SM :=
  sRet (evC (.bl false))
def x2_f_law_is_note : SM :=
  sIf (tvOr (tvNot (tvB (evCall 3 F_f_law_is_number (acons (evVar 1) (acons (ev1 fNeg (evC (.int 1))) (acons (evC (.int 299)) (anil))))))) (tvNot (tvB (evCall 1 F_f_law_is_word (acons (evVar 3) (anil)))))) (x3_f_law_is_note) (sNext)
def x4_f_law_is_note : SM :=
  sRet (evAnd (evCall 3 F_f_law_is_number (acons (evVar 2) (acons (evC (.int 0)) (acons (ev2 fIx (evLst (acons (evC (.int 8)) (acons (evC (.int 1)) (anil)))) (evA fInt1 (acons (ev2 (fEq false) (evVar 1) (ev1 fNeg (evC (.int 1)))) (anil)))) (anil))))) (evOr (ev2 fGt (evVar 1) (ev1 fNeg (evC (.int 1)))) (ev2 (fEq false) (evVar 3) (evC (.str "")))))
def b_f_law_is_note : SM :=
  sSeq (x1_f_law_is_note)
  (sSeq (x2_f_law_is_note)
  (x4_f_law_is_note))
def F_f_law_is_note : FnSem := runP 4 b_f_law_is_note
def lc_are_deeds_1 : EM := evLc [3, 4] (itSeq (evVar 0)) (gdUn [gdName 3, gdName 4]) (tvYes) (evAnd (evCall 1 F_is_word (acons (evVar 3) (anil))) (evCall 2 F_is_deed (acons (evVar 4) (acons (evVar 1) (anil)))))
def x2_are_deeds : SM :=
  sRet (evC (.bl false))
def x1_are_deeds : SM :=
  sIf (tvOr (tvNot (tvB (evCall 1 F_are_pairs (acons (evVar 0) (anil))))) (tvNot (tvB (evA fAll (acons (lc_are_deeds_1) (anil)))))) (x2_are_deeds) (sNext)
def lc_are_deeds_2 : EM := evLc [3, 4] (itSeq (evVar 0)) (gdUn [gdName 3, gdName 4]) (tvYes) (evVar 3)
def x3_are_deeds : SM :=
  sSet 2 (lc_are_deeds_2)
def lc_are_deeds_3 : EM := evLc [3, 4] (itSeq (evVar 0)) (gdUn [gdName 3, gdName 4]) (tvYes) (evAnd (ev2 (fEq false) (ev2 fIx (evVar 4) (evC (.int 0))) (evC (.str "shift"))) (ev2 (fEq false) (evVar 3) (evC (.str ""))))
def x4_are_deeds : SM :=
  sRet (evAnd (evNot (evA fAny (acons (lc_are_deeds_3) (anil)))) (ev2 (fEq false) (evA fSortSetT (acons (evVar 2) (anil))) (evVar 2)))
def b_are_deeds : SM :=
  sSeq (x1_are_deeds)
  (sSeq (x3_are_deeds)
  (x4_are_deeds))
def F_are_deeds : FnSem := runP 5 b_are_deeds
def x2_is_note : SM :=
  sRet (evC (.bl false))
def x1_is_note : SM :=
  sIf (tvOr (tvNot (tvB (evA fIsi (acons (evVar 0) (acons (evC (.ty "tuple")) (anil)))))) (tvOr (tvB (ev2 (fEq true) (evA fLen (acons (evVar 0) (anil))) (evC (.int 3)))) (tvNot (tvB (evCall 3 F_is_count (acons (ev2 fIx (evVar 0) (evC (.int 0))) (acons (ev1 fNeg (evC (.int 1))) (acons (ev2 fSub (evC (.int 300)) (evC (.int 1))) (anil))))))))) (x2_is_note) (sNext)
def x4_is_note : SM :=
  sRet (evAnd (evCall 3 F_is_count (acons (ev2 fIx (evVar 0) (evC (.int 1))) (acons (evC (.int 0)) (acons (evC (.int 1)) (anil))))) (evAnd (ev2 (fEq false) (ev2 fIx (evVar 0) (evC (.int 2))) (evC (.str ""))) (evA fIsi (acons (ev2 fIx (evVar 0) (evC (.int 2))) (acons (evC (.ty "str")) (anil))))))
def x3_is_note : SM :=
  sIf (tvB (ev2 (fEq false) (ev2 fIx (evVar 0) (evC (.int 0))) (ev1 fNeg (evC (.int 1))))) (x4_is_note) (sNext)
def x5_is_note : SM :=
  sRet (evAnd (evCall 3 F_is_count (acons (ev2 fIx (evVar 0) (evC (.int 1))) (acons (evC (.int 0)) (acons (evC (.int 8)) (anil))))) (evCall 1 F_is_word (acons (ev2 fIx (evVar 0) (evC (.int 2))) (anil))))
def b_is_note : SM :=
  sSeq (x1_is_note)
  (sSeq (x3_is_note)
  (x5_is_note))
def F_is_note : FnSem := runP 1 b_is_note
def x2_f_law_is_state : SM :=
  sRet (evC (.bl false))
def x1_f_law_is_state : SM :=
  sIf (tvOr (tvNot (tvB (evA fIsi (acons (evVar 0) (acons (evC (.ty "tuple")) (anil)))))) (tvB (ev2 (fEq true) (evA fLen (acons (evVar 0) (anil))) (evC (.int 3))))) (x2_f_law_is_state) (sNext)
def lc_f_law_is_state_1 : EM := evLc [5] (itSeq (evVar 0)) (gdName 5) (tvNot (tvB (evA fIsi (acons (evVar 5) (acons (evC (.ty "tuple")) (anil)))))) (evVar 5)
def x4_f_law_is_state : SM :=
  sRet (evC (.bl false))
def x3_f_law_is_state : SM :=
  sIf (tvB (ev2 (fEq true) (lc_f_law_is_state_1) (evLst (anil)))) (x4_f_law_is_state) (sNext)
def x5_f_law_is_state : SM :=
  sUn [gdName 2, gdName 3, gdName 4] (evVar 0)
def lc_f_law_is_state_2 : EM := evLc [5] (itSeq (ev2 fAdd (ev2 fAdd (evVar 2) (evVar 3)) (evVar 4))) (gdName 5) (tvNot (tvB (evA fIsi (acons (evVar 5) (acons (evC (.ty "tuple")) (anil)))))) (evVar 5)
def x7_f_law_is_state : SM :=
  sRet (evC (.bl false))
def x6_f_law_is_state : SM :=
  sIf (tvB (ev2 (fEq true) (lc_f_law_is_state_2) (evLst (anil)))) (x7_f_law_is_state) (sNext)
def lc_f_law_is_state_3 : EM := evLc [5] (itSeq (ev2 fAdd (evVar 2) (evVar 3))) (gdName 5) (tvOr (tvB (ev2 (fEq true) (evA fLen (acons (evVar 5) (anil))) (evC (.int 2)))) (tvNot (tvB (evCall 1 F_f_law_is_word (acons (ev2 fIx (evVar 5) (evC (.int 0))) (anil)))))) (evVar 5)
def x9_f_law_is_state : SM :=
  sRet (evC (.bl false))
def x8_f_law_is_state : SM :=
  sIf (tvB (ev2 (fEq true) (lc_f_law_is_state_3) (evLst (anil)))) (x9_f_law_is_state) (sNext)
def lc_f_law_is_state_4 : EM := evLc [5] (itSeq (evVar 2)) (gdName 5) (tvNot (tvB (evCall 3 F_f_law_is_deed (acons (ev2 fIx (evVar 5) (evC (.int 0))) (acons (ev2 fIx (evVar 5) (evC (.int 1))) (acons (evVar 1) (anil))))))) (evVar 5)
def x11_f_law_is_state : SM :=
  sRet (evC (.bl false))
def x10_f_law_is_state : SM :=
  sIf (tvB (ev2 (fEq true) (lc_f_law_is_state_4) (evLst (anil)))) (x11_f_law_is_state) (sNext)
def lc_f_law_is_state_5 : EM := evLc [5] (itSeq (evVar 3)) (gdName 5) (tvOr (tvB (ev2 (fEq false) (ev2 fIx (evVar 5) (evC (.int 0))) (evC (.str "")))) (tvNot (tvB (evCall 3 F_f_law_is_number (acons (ev2 fIx (evVar 5) (evC (.int 1))) (acons (evC (.int 0)) (acons (ev2 fSub (evVar 1) (evC (.int 1))) (anil)))))))) (evVar 5)
def x13_f_law_is_state : SM :=
  sRet (evC (.bl false))
def x12_f_law_is_state : SM :=
  sIf (tvB (ev2 (fEq true) (lc_f_law_is_state_5) (evLst (anil)))) (x13_f_law_is_state) (sNext)
def lc_f_law_is_state_6 : EM := evLc [6] (itSeq (evVar 4)) (gdName 6) (tvOr (tvB (ev2 (fEq true) (evA fLen (acons (evVar 6) (anil))) (evC (.int 3)))) (tvNot (tvB (evCall 1 F_f_law_is_note (acons (evVar 6) (anil)))))) (evVar 6)
def x15_f_law_is_state : SM :=
  sRet (evC (.bl false))
def x14_f_law_is_state : SM :=
  sIf (tvB (ev2 (fEq true) (lc_f_law_is_state_6) (evLst (anil)))) (x15_f_law_is_state) (sNext)
def lc_f_law_is_state_7 : EM := evLc [5] (itSeq (evVar 2)) (gdName 5) (tvYes) (ev2 fIx (evVar 5) (evC (.int 0)))
def lc_f_law_is_state_8 : EM := evLc [5] (itSeq (evVar 3)) (gdName 5) (tvYes) (ev2 fIx (evVar 5) (evC (.int 0)))
def x17_f_law_is_state : SM :=
  sRet (evC (.bl false))
def x16_f_law_is_state : SM :=
  sIf (tvOr (tvNot (tvB (evCall 1 F_f_law_rises (acons (lc_f_law_is_state_7) (anil))))) (tvNot (tvB (evCall 1 F_f_law_rises (acons (lc_f_law_is_state_8) (anil)))))) (x17_f_law_is_state) (sNext)
def x18_f_law_is_state : SM :=
  sRet (evCall 1 F_f_law_rises (acons (evVar 4) (anil)))
def b_f_law_is_state : SM :=
  sSeq (x1_f_law_is_state)
  (sSeq (x3_f_law_is_state)
  (sSeq (x5_f_law_is_state)
  (sSeq (x6_f_law_is_state)
  (sSeq (x8_f_law_is_state)
  (sSeq (x10_f_law_is_state)
  (sSeq (x12_f_law_is_state)
  (sSeq (x14_f_law_is_state)
  (sSeq (x16_f_law_is_state)
  (x18_f_law_is_state)))))))))
def F_f_law_is_state : FnSem := runP 7 b_f_law_is_state
def lc_are_notes_1 : EM := evLc [1] (itSeq (evVar 0)) (gdName 1) (tvYes) (evCall 1 F_is_note (acons (evVar 1) (anil)))
def x2_are_notes : SM :=
  sRet (evC (.bl false))
def x1_are_notes : SM :=
  sIf (tvOr (tvNot (tvB (evA fIsi (acons (evVar 0) (acons (evC (.ty "tuple")) (anil)))))) (tvNot (tvB (evA fAll (acons (lc_are_notes_1) (anil)))))) (x2_are_notes) (sNext)
def x3_are_notes : SM :=
  sRet (ev2 (fEq false) (evA fSortSetT (acons (evVar 0) (anil))) (evA fList (acons (evVar 0) (anil))))
def b_are_notes : SM :=
  sSeq (x1_are_notes)
  (x3_are_notes)
def F_are_notes : FnSem := runP 2 b_are_notes
def x2_f_law_is_table : SM :=
  sRet (evC (.bl false))
def x1_f_law_is_table : SM :=
  sIf (tvOr (tvNot (tvB (evA fIsi (acons (evVar 0) (acons (evTup (acons (evC (.ty "list")) (acons (evC (.ty "tuple")) (anil)))) (anil)))))) (tvNot (tvB (evCh fLt fLt (evC (.int 0)) (evA fLen (acons (evVar 0) (anil))) (evC (.int 601)))))) (x2_f_law_is_table) (sNext)
def lc_f_law_is_table_1 : EM := evLc [1] (itSeq (evVar 0)) (gdName 1) (tvNot (tvB (evCall 2 F_f_law_is_state (acons (evVar 1) (acons (evA fLen (acons (evVar 0) (anil))) (anil)))))) (evVar 1)
def x3_f_law_is_table : SM :=
  sRet (ev2 (fEq false) (lc_f_law_is_table_1) (evLst (anil)))
def b_f_law_is_table : SM :=
  sSeq (x1_f_law_is_table)
  (x3_f_law_is_table)
def F_f_law_is_table : FnSem := runP 2 b_f_law_is_table
def x2_is_state : SM :=
  sRet (evC (.bl false))
def x1_is_state : SM :=
  sIf (tvOr (tvNot (tvB (evA fIsi (acons (evVar 0) (acons (evC (.ty "tuple")) (anil)))))) (tvB (ev2 (fEq true) (evA fLen (acons (evVar 0) (anil))) (evC (.int 3))))) (x2_is_state) (sNext)
def x3_is_state : SM :=
  sRet (evAnd (evCall 2 F_are_deeds (acons (ev2 fIx (evVar 0) (evC (.int 0))) (acons (evVar 1) (anil)))) (evAnd (evCall 2 F_are_goes (acons (ev2 fIx (evVar 0) (evC (.int 1))) (acons (evVar 1) (anil)))) (evCall 1 F_are_notes (acons (ev2 fIx (evVar 0) (evC (.int 2))) (anil)))))
def b_is_state : SM :=
  sSeq (x1_is_state)
  (x3_is_state)
def F_is_state : FnSem := runP 2 b_is_state
def x2_Table_init : SM :=
  sRaise "NoTable"
def x1_Table_init : SM :=
  sIf (tvOr (tvNot (tvB (evA fIsi (acons (evVar 1) (acons (evTup (acons (evC (.ty "list")) (acons (evC (.ty "tuple")) (anil)))) (anil)))))) (tvNot (tvB (evCh fLe fLe (evC (.int 1)) (evA fLen (acons (evVar 1) (anil))) (evC (.int 600)))))) (x2_Table_init) (sNext)
def lc_Table_init_1 : EM := evLc [2] (itSeq (evVar 1)) (gdName 2) (tvYes) (evCall 2 F_is_state (acons (evVar 2) (acons (evA fLen (acons (evVar 1) (anil))) (anil))))
def x4_Table_init : SM :=
  sRaise "NoTable"
def x3_Table_init : SM :=
  sIf (tvNot (tvB (evA fAll (acons (lc_Table_init_1) (anil))))) (x4_Table_init) (sNext)
def x5_Table_init : SM :=
  sFldSet ["Table"] "states" (evA fTuple (acons (evVar 1) (anil))) (evVar 0)
def b_Table_init : SM :=
  sSeq (x1_Table_init)
  (sSeq (x3_Table_init)
  (x5_Table_init))
def F_Table_init : FnSem := runP 3 b_Table_init
def x1_f_law_refused : SM :=
  sSet 1 (evC .non)
def x3_f_law_refused : SM :=
  sDrop (evMake "Table" 1 F_Table_init (acons (evVar 0) (anil)))
def x5_f_law_refused : SM :=
  sSet 1 (evVar 2)
def x2_f_law_refused : SM :=
  sTry 2 hits_ReadError (x3_f_law_refused) (x5_f_law_refused)
def x6_f_law_refused : SM :=
  sRet (evCall 1 F_f_law_alone (acons (evVar 1) (anil)))
def b_f_law_refused : SM :=
  sSeq (x1_f_law_refused)
  (sSeq (x2_f_law_refused)
  (x6_f_law_refused))
def F_f_law_refused : FnSem := runP 3 b_f_law_refused
def x1_f_law_spots (rec : FnSem) : SM :=
  sSet 1 (evLst (acons (evTup (anil)) (anil)))
def lc_f_law_spots_1 (rec : FnSem) : EM := evLc [4] (itSeq (evCall 1 rec (acons (evVar 3) (anil)))) (gdName 4) (tvYes) (ev2 fAdd (evTup (acons (evVar 2) (anil))) (evVar 4))
def x4_f_law_spots (rec : FnSem) : SM :=
  sSet 1 (ev2 fAdd (evVar 1) ((lc_f_law_spots_1 rec)))
def lp_f_law_spots_1 (rec : FnSem) : SM :=
  x4_f_law_spots rec
def x3_f_law_spots (rec : FnSem) : SM :=
  sFor (itEnumA (acons (evVar 0) (anil))) (gdUn [gdName 2, gdName 3]) ((lp_f_law_spots_1 rec))
def x2_f_law_spots (rec : FnSem) : SM :=
  sIf (tvB (evA fIsi (acons (evVar 0) (acons (evC (.ty "tuple")) (anil))))) (x3_f_law_spots rec) (sNext)
def x5_f_law_spots (rec : FnSem) : SM :=
  sRet (evVar 1)
def b_f_law_spots (rec : FnSem) : SM :=
  sSeq (x1_f_law_spots rec)
  (sSeq (x2_f_law_spots rec)
  (x5_f_law_spots rec))
def F_f_law_spots : Nat → FnSem
  | 0 => fun _ _ => .stuck
  | n + 1 => runP 5 (b_f_law_spots (F_f_law_spots n))
def x2_f_law_with (rec : FnSem) : SM :=
  sRet (evVar 2)
def x1_f_law_with (rec : FnSem) : SM :=
  sIf (tvB (ev2 (fEq false) (evVar 1) (evTup (anil)))) (x2_f_law_with rec) (sNext)
def x3_f_law_with (rec : FnSem) : SM :=
  sSet 3 (ev2 fIx (evVar 1) (evC (.int 0)))
def x4_f_law_with (rec : FnSem) : SM :=
  sRet (ev2 fAdd (ev2 fAdd (evSl (evVar 0) (bNone) (bSome (evVar 3))) (evTup (acons (evCall 3 rec (acons (ev2 fIx (evVar 0) (evVar 3)) (acons (evSl (evVar 1) (bSome (evC (.int 1))) (bNone)) (acons (evVar 2) (anil))))) (anil)))) (evSl (evVar 0) (bSome (ev2 fAdd (evVar 3) (evC (.int 1)))) (bNone)))
def b_f_law_with (rec : FnSem) : SM :=
  sSeq (x1_f_law_with rec)
  (sSeq (x3_f_law_with rec)
  (x4_f_law_with rec))
def F_f_law_with : Nat → FnSem
  | 0 => fun _ _ => .stuck
  | n + 1 => runP 4 (b_f_law_with (F_f_law_with n))
def x1_f_law_spoilt : SM :=
  sSet 2 (evCall 1 (F_f_law_spots 8) (acons (evVar 1) (anil)))
def x2_f_law_spoilt : SM :=
  sSet 3 (ev2 fIx (evVar 2) (evCall 2 F_f_law_take (acons (evVar 0) (acons (evA fLen (acons (evVar 2) (anil))) (anil)))))
def x3_f_law_spoilt : SM :=
  sSet 4 (evVar 1)
def x5_f_law_spoilt : SM :=
  sSet 4 (ev2 fIx (evVar 4) (evVar 5))
def lp_f_law_spoilt_1 : SM :=
  x5_f_law_spoilt
def x4_f_law_spoilt : SM :=
  sFor (itSeq (evVar 3)) (gdName 5) (lp_f_law_spoilt_1)
def x6_f_law_spoilt : SM :=
  sRet (evCall 3 (F_f_law_with 8) (acons (evVar 1) (acons (evVar 3) (acons (evCall 2 F_f_law_step (acons (evVar 0) (acons (evVar 4) (anil)))) (anil)))))
def b_f_law_spoilt : SM :=
  sSeq (x1_f_law_spoilt)
  (sSeq (x2_f_law_spoilt)
  (sSeq (x3_f_law_spoilt)
  (sSeq (x4_f_law_spoilt)
  (x6_f_law_spoilt))))
def F_f_law_spoilt : FnSem := runP 6 b_f_law_spoilt
def x2_f_law_kept_or_refused : SM :=
  sRet (evCall 1 F_f_law_refused (acons (evVar 0) (anil)))
def x1_f_law_kept_or_refused : SM :=
  sIf (tvNot (tvB (evCall 1 F_f_law_is_table (acons (evVar 0) (anil))))) (x2_f_law_kept_or_refused) (sNext)
def x3_f_law_kept_or_refused : SM :=
  sRet (ev2 (fEq false) (evA fRepr (acons (evFld ["Table"] "states" (evMake "Table" 1 F_Table_init (acons (evVar 0) (anil)))) (anil))) (evA fRepr (acons (evA fTuple (acons (evVar 0) (anil))) (anil))))
def b_f_law_kept_or_refused : SM :=
  sSeq (x1_f_law_kept_or_refused)
  (x3_f_law_kept_or_refused)
def F_f_law_kept_or_refused : FnSem := runP 1 b_f_law_kept_or_refused
def x1_law : SM :=
  sSet 1 (evCall 1 F_f_law_names (acons (evCall 2 F_f_law_number (acons (evVar 0) (acons (evC (.int 0)) (anil)))) (anil)))
def x2_law : SM :=
  sSet 2 (evCall 1 F_f_law_bad_parts (acons (evVar 1) (anil)))
def x4_law : SM :=
  sSet 4 (evCall 2 F_f_law_number (acons (evVar 0) (acons (evVar 3) (anil))))
def x5_law : SM :=
  sSet 5 (ev2 fAdd (evC (.int 1)) (ev2 fMod (evVar 4) (evC (.int 4))))
def x6_law : SM :=
  sReg 6 (evLst (anil))
def x8_law : SM :=
  sDrop (evMt "list" fAppend (evVar 6) (acons (evCall 3 F_f_law_state (acons (evCall 2 F_f_law_mixed (acons (ev2 fDivW (evVar 4) (evC (.int 4))) (acons (evVar 7) (anil)))) (acons (evVar 1) (acons (evVar 5) (anil))))) (anil)))
def lp_law_1 : SM :=
  x8_law
def x7_law : SM :=
  sFor (itR1 (acons (evVar 5) (anil))) (gdName 7) (lp_law_1)
def x9_law : SM :=
  sSetIx fSetL (evCall 3 F_f_law_state (acons (ev2 fDivW (evVar 4) (evC (.int 4))) (acons (evVar 1) (acons (evVar 5) (anil))))) (evVar 6) (evC (.int 0))
def x10_law : SM :=
  sReg 8 (evA fList (acons (evVar 6) (anil)))
def x11_law : SM :=
  sSet 9 (evMake "Table" 1 F_Table_init (acons (evVar 8) (anil)))
def x12_law : SM :=
  sDrop (evMt "list" fAppend (evVar 8) (acons (evC .non) (anil)))
def x14_law : SM :=
  sRet (evC (.bl false))
def x13_law : SM :=
  sIf (tvOr (tvNot (tvB (evA fIsi (acons (evFld ["Table"] "states" (evVar 9)) (acons (evC (.ty "tuple")) (anil)))))) (tvB (ev2 (fEq true) (evA fList (acons (evFld ["Table"] "states" (evVar 9)) (anil))) (evVar 6)))) (x14_law) (sNext)
def x16_law : SM :=
  sRet (evC (.bl false))
def x15_law : SM :=
  sIf (tvB (ev2 (fEq true) (evFld ["Table"] "states" (evMake "Table" 1 F_Table_init (acons (evA fTuple (acons (evVar 6) (anil))) (anil)))) (evA fTuple (acons (evVar 6) (anil))))) (x16_law) (sNext)
def x17_law : SM :=
  sSet 10 (ev2 fMod (ev2 fDivW (evVar 4) (evC (.int 7))) (ev2 fAdd (evVar 5) (evC (.int 1))))
def x18_law : SM :=
  sSet 11 (ev2 fIx (evVar 2) (ev2 fMod (ev2 fDivW (evVar 4) (evC (.int 11))) (evA fLen (acons (evVar 2) (anil)))))
def x19_law : SM :=
  sSet 12 (ev2 fAdd (ev2 fAdd (evSl (evVar 6) (bNone) (bSome (evVar 10))) (evLst (acons (evVar 11) (anil)))) (evSl (evVar 6) (bSome (evVar 10)) (bNone)))
def x20_law : SM :=
  sSet 13 (ev2 fIx (evLst (acons (evC .non) (acons (evC (.int 5)) (acons (evLst (anil)) (acons (evTup (anil)) (acons (evC (.str "a")) (acons (evDic0) (anil)))))))) (ev2 fMod (ev2 fDivW (evVar 4) (evC (.int 13))) (evC (.int 6))))
def x22_law : SM :=
  sRet (evC (.bl false))
def x21_law : SM :=
  sIf (tvOr (tvNot (tvB (evCall 1 F_f_law_refused (acons (evVar 12) (anil))))) (tvNot (tvB (evCall 1 F_f_law_refused (acons (evVar 13) (anil)))))) (x22_law) (sNext)
def x24_law : SM :=
  sSet 15 (evCall 2 F_f_law_spoilt (acons (evReg (evLst (acons (evCall 2 F_f_law_mixed (acons (evVar 4) (acons (ev2 fAdd (evC (.int 60)) (evVar 14)) (anil)))) (anil)))) (acons (evA fTuple (acons (evVar 6) (anil))) (anil))))
def x26_law : SM :=
  sRet (evC (.bl false))
def x25_law : SM :=
  sIf (tvNot (tvB (evCall 1 F_f_law_kept_or_refused (acons (evVar 15) (anil))))) (x26_law) (sNext)
def lp_law_2 : SM :=
  sSeq (x24_law)
  (x25_law)
def x23_law : SM :=
  sFor (itR1 (acons (evC (.int 3)) (anil))) (gdName 14) (lp_law_2)
def lp_law_3 : SM :=
  sSeq (x4_law)
  (sSeq (x5_law)
  (sSeq (x6_law)
  (sSeq (x7_law)
  (sSeq (x9_law)
  (sSeq (x10_law)
  (sSeq (x11_law)
  (sSeq (x12_law)
  (sSeq (x13_law)
  (sSeq (x15_law)
  (sSeq (x17_law)
  (sSeq (x18_law)
  (sSeq (x19_law)
  (sSeq (x20_law)
  (sSeq (x21_law)
  (x23_law)))))))))))))))
def x3_law : SM :=
  sFor (itR2 (acons (evC (.int 1)) (acons (evA fLen (acons (evVar 0) (anil))) (anil)))) (gdName 3) (lp_law_3)
def x27_law : SM :=
  sSet 16 (evTup (acons (evTup (anil)) (acons (evTup (anil)) (acons (evTup (anil)) (anil)))))
def x28_law : SM :=
  sRet (evAnd (evCall 1 F_f_law_refused (acons (ev2 fMulB (evLst (acons (evVar 16) (anil))) (evC (.int 601))) (anil))) (ev2 (fEq false) (evA fLen (acons (evFld ["Table"] "states" (evMake "Table" 1 F_Table_init (acons (ev2 fMulB (evLst (acons (evVar 16) (anil))) (evC (.int 600))) (anil)))) (anil))) (evC (.int 600))))
def b_law : SM :=
  sSeq (x1_law)
  (sSeq (x2_law)
  (sSeq (x3_law)
  (sSeq (x27_law)
  (x28_law))))
def F_law : FnSem := runP 17 b_law
/-- the classes' places -/
structure Ca where
  ReadError : Addr
  NoGrammar : Addr
  NoText : Addr
  NoRow : Addr
  NoPart : Addr
  NoTree : Addr
  NoChart : Addr
  NoTable : Addr
  NoMachine : Addr
  NoDeed : Addr
  TooMany : Addr
  Table : Addr
abbrev gx (K : PySem.W.Frag) (w : World) (ca : Ca) : Gx := ⟨K, fun c => if c = "ReadError" then some ca.ReadError else if c = "NoGrammar" then some ca.NoGrammar else if c = "NoText" then some ca.NoText else if c = "NoRow" then some ca.NoRow else if c = "NoPart" then some ca.NoPart else if c = "NoTree" then some ca.NoTree else if c = "NoChart" then some ca.NoChart else if c = "NoTable" then some ca.NoTable else if c = "NoMachine" then some ca.NoMachine else if c = "NoDeed" then some ca.NoDeed else if c = "TooMany" then some ca.TooMany else if c = "Table" then some ca.Table else none, w⟩
theorem cm_ReadError {K : PySem.W.Frag} {w : World} {ca : Ca} : (gx K w ca).cm "ReadError" = some ca.ReadError := by simp [gx]
theorem cm_NoGrammar {K : PySem.W.Frag} {w : World} {ca : Ca} : (gx K w ca).cm "NoGrammar" = some ca.NoGrammar := by simp [gx]
theorem cm_NoText {K : PySem.W.Frag} {w : World} {ca : Ca} : (gx K w ca).cm "NoText" = some ca.NoText := by simp [gx]
theorem cm_NoRow {K : PySem.W.Frag} {w : World} {ca : Ca} : (gx K w ca).cm "NoRow" = some ca.NoRow := by simp [gx]
theorem cm_NoPart {K : PySem.W.Frag} {w : World} {ca : Ca} : (gx K w ca).cm "NoPart" = some ca.NoPart := by simp [gx]
theorem cm_NoTree {K : PySem.W.Frag} {w : World} {ca : Ca} : (gx K w ca).cm "NoTree" = some ca.NoTree := by simp [gx]
theorem cm_NoChart {K : PySem.W.Frag} {w : World} {ca : Ca} : (gx K w ca).cm "NoChart" = some ca.NoChart := by simp [gx]
theorem cm_NoTable {K : PySem.W.Frag} {w : World} {ca : Ca} : (gx K w ca).cm "NoTable" = some ca.NoTable := by simp [gx]
theorem cm_NoMachine {K : PySem.W.Frag} {w : World} {ca : Ca} : (gx K w ca).cm "NoMachine" = some ca.NoMachine := by simp [gx]
theorem cm_NoDeed {K : PySem.W.Frag} {w : World} {ca : Ca} : (gx K w ca).cm "NoDeed" = some ca.NoDeed := by simp [gx]
theorem cm_TooMany {K : PySem.W.Frag} {w : World} {ca : Ca} : (gx K w ca).cm "TooMany" = some ca.TooMany := by simp [gx]
theorem cm_Table {K : PySem.W.Frag} {w : World} {ca : Ca} : (gx K w ca).cm "Table" = some ca.Table := by simp [gx]
structure ErrF (K : PySem.W.Frag) (C : Addr) : Prop where
  x : PySem.W.excIn K C [.type "ValueError", .type "Exception", .type "BaseException", .type "object"] "ValueError.__new__" = true
  k : PySem.W.keepIn K (.ref C) = true
  b : PySem.W.subIn K (.ref C) (.type "BaseException") = some true
  t : PySem.W.typeIn K (.ref C) = some (.type "type")
/-- what the top has: no other names for the built-ins, the constants, the classes -/
structure Tx (K : PySem.W.Frag) (w : World) (mg : Str → Option Value) (ca : Ca) : Prop where
  n_ValueError : mg "ValueError" = none
  n_all : mg "all" = none
  n_any : mg "any" = none
  n_bool : mg "bool" = none
  n_enumerate : mg "enumerate" = none
  n_int : mg "int" = none
  n_isinstance : mg "isinstance" = none
  n_len : mg "len" = none
  n_list : mg "list" = none
  n_max : mg "max" = none
  n_range : mg "range" = none
  n_repr : mg "repr" = none
  n_set : mg "set" = none
  n_sorted : mg "sorted" = none
  n_str : mg "str" = none
  n_tuple : mg "tuple" = none
  c_LETTERS : ∃ t, mg "LETTERS" = some (.str "abcdefghijklmnopqrstuvwxyz" t)
  c_MOST_DOT : ∃ t, mg "MOST_DOT" = some (.int 8 t)
  c_MOST_LETTERS : ∃ t, mg "MOST_LETTERS" = some (.int 8 t)
  c_MOST_RULES : ∃ t, mg "MOST_RULES" = some (.int 300 t)
  c_MOST_STATES : ∃ t, mg "MOST_STATES" = some (.int 600 t)
  g_ReadError : mg "ReadError" = some (.ref ca.ReadError)
  g_NoGrammar : mg "NoGrammar" = some (.ref ca.NoGrammar)
  g_NoText : mg "NoText" = some (.ref ca.NoText)
  g_NoRow : mg "NoRow" = some (.ref ca.NoRow)
  g_NoPart : mg "NoPart" = some (.ref ca.NoPart)
  g_NoTree : mg "NoTree" = some (.ref ca.NoTree)
  g_NoChart : mg "NoChart" = some (.ref ca.NoChart)
  g_NoTable : mg "NoTable" = some (.ref ca.NoTable)
  g_NoMachine : mg "NoMachine" = some (.ref ca.NoMachine)
  g_NoDeed : mg "NoDeed" = some (.ref ca.NoDeed)
  g_TooMany : mg "TooMany" = some (.ref ca.TooMany)
  g_Table : mg "Table" = some (.ref ca.Table)
  e_NoTable : ErrF K ca.NoTable
  cl_Table : Cls K ca.Table
  fl_states : ∀ c, (["Table"] : List String).contains c = true → ∀ C, (gx K w ca).cm c = some C → Cls K C ∧ NoAttr K C "states"
  errC : ∀ t ∈ errC, ∀ C C', (gx K w ca).cm t.1 = some C → (gx K w ca).cm t.2.1 = some C' → ExcC K C ∧ PySem.W.kitOne K (.ref C) (.ref C') = some t.2.2
  errT : ∀ t ∈ errT, ∀ C, (gx K w ca).cm t.1 = some C → ExcC K C ∧ PySem.W.kitOne K (.ref C) (.type t.2.1) = some t.2.2
  hits_ReadError : ∀ t ∈ hits_ReadError, ∀ C, (gx K w ca).cm t.1 = some C → PySem.W.exmOne K (.ref C) (.ref ca.ReadError) = some t.2
section
variable {P : Program} {w : World} {K : PySem.W.Frag} {mg : Str → Option Value} {base : Heap} {ca : Ca}
theorem ok_is_name (T : Tx K w mg ca) (D_ : At K mg "is_name" "is_name" s_is_name ["thing"])  : Ok P w K mg base (gx K w ca) 1 "is_name" 1 F_is_name :=
  ok_of D_ sc_is_name rfl rfl fun f cdv A outer s H Ex hr =>
   pSs_cons (pS_if ((pW_or (pT_not (pT_val (pI_callB call_isi2 callS_isi (by rfl) T.n_isinstance (by first | rfl | decide +kernel) (pI_cons (pI_var (i := 0) rfl (by first | exact Or.inl rfl | exact Or.inr (Or.inl rfl) | exact Or.inr (Or.inr rfl))) (pI_cons (pI_ty (n := "str") (by rfl) T.n_str (by first | rfl | decide +kernel)) (pI_nil)))))) (pW_or1 (pT_not (pT_chain op_le opS_cmp op_le opS_cmp (pI_int) (pI_callB call_len callS_len (by rfl) T.n_len (by first | rfl | decide +kernel) (pI_cons (pI_var (i := 0) rfl (by first | exact Or.inl rfl | exact Or.inr (Or.inl rfl) | exact Or.inr (Or.inr rfl))) (pI_nil))) (pI_gint (by rfl) T.c_MOST_LETTERS))))).pt) (pSs_one (pS_ret (pI_bl))) (pSs_nil))
    (pSs_one (pS_ret (pI_callB (cr_all rfl) callS_all (by rfl) T.n_all (by first | rfl | decide +kernel) (pI_cons (pI_lc (own := [("letter", 1)]) rfl sc_is_name.nd (pIt_seq rfl (pI_var (i := 0) rfl (by first | exact Or.inl rfl | exact Or.inr (Or.inl rfl) | exact Or.inr (Or.inr rfl)))) (blkOk_by (N := N_is_name) (sc := (defScope s_is_name)) (by decide +kernel)) (fun _ _ _ _ _ => pG_name (i := 1) sc_is_name.nd rfl (by first | exact Or.inl rfl | exact Or.inr rfl)) (fun _ _ _ _ _ => pTs_nil) (fun _ _ _ _ _ => pI_cmp (op_inA hr.units) opS_in (pI_var (i := 1) rfl (by first | exact Or.inl rfl | exact Or.inr (Or.inl rfl) | exact Or.inr (Or.inr rfl))) (pI_gstr (by rfl) T.c_LETTERS) rfl) (by decide)) (pI_nil)))))
theorem ok_is_count (T : Tx K w mg ca) (D_ : At K mg "is_count" "is_count" s_is_count ["thing", "least", "most"])  : Ok P w K mg base (gx K w ca) 1 "is_count" 3 F_is_count :=
  ok_of D_ sc_is_count rfl rfl fun f cdv A outer s H Ex hr =>
   pSs_one (pS_ret (pI_and (pI_callB call_isi2 callS_isi (by rfl) T.n_isinstance (by first | rfl | decide +kernel) (pI_cons (pI_var (i := 0) rfl (by first | exact Or.inl rfl | exact Or.inr (Or.inl rfl) | exact Or.inr (Or.inr rfl))) (pI_cons (pI_ty (n := "int") (by rfl) T.n_int (by first | rfl | decide +kernel)) (pI_nil)))) (pI_and (pI_not (pI_callB call_isi2 callS_isi (by rfl) T.n_isinstance (by first | rfl | decide +kernel) (pI_cons (pI_var (i := 0) rfl (by first | exact Or.inl rfl | exact Or.inr (Or.inl rfl) | exact Or.inr (Or.inr rfl))) (pI_cons (pI_ty (n := "bool") (by rfl) T.n_bool (by first | rfl | decide +kernel)) (pI_nil))))) (pI_one (pI_chain op_le opS_cmp op_le opS_cmp (pI_var (i := 1) rfl (by first | exact Or.inl rfl | exact Or.inr (Or.inl rfl) | exact Or.inr (Or.inr rfl))) (pI_var (i := 0) rfl (by first | exact Or.inl rfl | exact Or.inr (Or.inl rfl) | exact Or.inr (Or.inr rfl))) (pI_var (i := 2) rfl (by first | exact Or.inl rfl | exact Or.inr (Or.inl rfl) | exact Or.inr (Or.inr rfl))))))))
theorem ok_are_pairs (T : Tx K w mg ca) (D_ : At K mg "are_pairs" "are_pairs" s_are_pairs ["thing"])  : Ok P w K mg base (gx K w ca) 1 "are_pairs" 1 F_are_pairs :=
  ok_of D_ sc_are_pairs rfl rfl fun f cdv A outer s H Ex hr =>
   pSs_one (pS_ret (pI_and (pI_callB call_isi2 callS_isi (by rfl) T.n_isinstance (by first | rfl | decide +kernel) (pI_cons (pI_var (i := 0) rfl (by first | exact Or.inl rfl | exact Or.inr (Or.inl rfl) | exact Or.inr (Or.inr rfl))) (pI_cons (pI_ty (n := "tuple") (by rfl) T.n_tuple (by first | rfl | decide +kernel)) (pI_nil)))) (pI_one (pI_callB (cr_all rfl) callS_all (by rfl) T.n_all (by first | rfl | decide +kernel) (pI_cons (pI_lc (own := [("pair", 1)]) rfl sc_are_pairs.nd (pIt_seq rfl (pI_var (i := 0) rfl (by first | exact Or.inl rfl | exact Or.inr (Or.inl rfl) | exact Or.inr (Or.inr rfl)))) (blkOk_by (N := N_are_pairs) (sc := (defScope s_are_pairs)) (by decide +kernel)) (fun _ _ _ _ _ => pG_name (i := 1) sc_are_pairs.nd rfl (by first | exact Or.inl rfl | exact Or.inr rfl)) (fun _ _ _ _ _ => pTs_nil) (fun _ _ _ _ _ => pI_and (pI_callB call_isi2 callS_isi (by rfl) T.n_isinstance (by first | rfl | decide +kernel) (pI_cons (pI_var (i := 1) rfl (by first | exact Or.inl rfl | exact Or.inr (Or.inl rfl) | exact Or.inr (Or.inr rfl))) (pI_cons (pI_ty (n := "tuple") (by rfl) T.n_tuple (by first | rfl | decide +kernel)) (pI_nil)))) (pI_one (pI_cmp (op_eqP hr.units) opS_eq (pI_callB call_len callS_len (by rfl) T.n_len (by first | rfl | decide +kernel) (pI_cons (pI_var (i := 1) rfl (by first | exact Or.inl rfl | exact Or.inr (Or.inl rfl) | exact Or.inr (Or.inr rfl))) (pI_nil))) (pI_int) (nomark _)))) (by decide)) (pI_nil))))))
theorem ok_f_law_cell (T : Tx K w mg ca) (D_ : At K mg "_law_cell" "_law_cell" s_f_law_cell ["_law_script", "_law_k"])  : Ok P w K mg base (gx K w ca) 1 "_law_cell" 2 F_f_law_cell :=
  ok_of D_ sc_f_law_cell rfl rfl fun f cdv A outer s H Ex hr =>
   pSs_cons (pS_if (pT_cmp op_lt opS_cmp (pI_var (i := 1) rfl (by first | exact Or.inl rfl | exact Or.inr (Or.inl rfl) | exact Or.inr (Or.inr rfl))) (pI_callB call_len callS_len (by rfl) T.n_len (by first | rfl | decide +kernel) (pI_cons (pI_var (i := 0) rfl (by first | exact Or.inl rfl | exact Or.inr (Or.inl rfl) | exact Or.inr (Or.inr rfl))) (pI_nil))) (nomark _)) (pSs_one (pS_ret (pI_ix ix_seq opS_ix (pI_var (i := 0) rfl (by first | exact Or.inl rfl | exact Or.inr (Or.inl rfl) | exact Or.inr (Or.inr rfl))) (pI_var (i := 1) rfl (by first | exact Or.inl rfl | exact Or.inr (Or.inl rfl) | exact Or.inr (Or.inr rfl))) (fun _ _ => rfl)))) (pSs_nil))
    (pSs_one (pS_ret (pI_int)))
theorem ok_f_law_mixed (T : Tx K w mg ca) (D_ : At K mg "_law_mixed" "_law_mixed" s_f_law_mixed ["_law_cell_here", "_law_turn"])  : Ok P w K mg base (gx K w ca) 1 "_law_mixed" 2 F_f_law_mixed :=
  ok_of D_ sc_f_law_mixed rfl rfl fun f cdv A outer s H Ex hr =>
   pSs_cons (pS_set (i := 2) sc_f_law_mixed.nd rfl (by first | exact Or.inl rfl | exact Or.inr rfl) (pI_op op_mod opS_mod (pI_op op_addA opS_add (pI_op op_addA opS_add (pI_op (OpR.or op_repL (OpR.or op_mulS (OpR.or op_mul op_repT))) opS_mulB (pI_var (i := 0) rfl (by first | exact Or.inl rfl | exact Or.inr (Or.inl rfl) | exact Or.inr (Or.inr rfl))) (pI_int)) (pI_op (OpR.or op_repL (OpR.or op_mulS (OpR.or op_mul op_repT))) opS_mulB (pI_var (i := 1) rfl (by first | exact Or.inl rfl | exact Or.inr (Or.inl rfl) | exact Or.inr (Or.inr rfl))) (pI_int))) (pI_int)) (pI_int)))
    (pSs_cons (pS_set (i := 3) sc_f_law_mixed.nd rfl (by first | exact Or.inl rfl | exact Or.inr rfl) (pI_int))
    (pSs_cons (pS_for PassesOwn.never rfl (pIt_r1 (by rfl) T.n_range (pI_cons (pI_int) (pI_nil))) (pG_name (i := 4) sc_f_law_mixed.nd rfl (by first | exact Or.inl rfl | exact Or.inr rfl)) (pSs_cons (pS_set (i := 2) sc_f_law_mixed.nd rfl (by first | exact Or.inl rfl | exact Or.inr rfl) (pI_op op_mod opS_mod (pI_op op_addA opS_add (pI_op op_addA opS_add (pI_op op_addA opS_add (pI_op (OpR.or op_repL (OpR.or op_mulS (OpR.or op_mul op_repT))) opS_mulB (pI_var (i := 2) rfl (by first | exact Or.inl rfl | exact Or.inr (Or.inl rfl) | exact Or.inr (Or.inr rfl))) (pI_var (i := 2) rfl (by first | exact Or.inl rfl | exact Or.inr (Or.inl rfl) | exact Or.inr (Or.inr rfl)))) (pI_op (OpR.or op_repL (OpR.or op_mulS (OpR.or op_mul op_repT))) opS_mulB (pI_int) (pI_var (i := 2) rfl (by first | exact Or.inl rfl | exact Or.inr (Or.inl rfl) | exact Or.inr (Or.inr rfl))))) (pI_var (i := 1) rfl (by first | exact Or.inl rfl | exact Or.inr (Or.inl rfl) | exact Or.inr (Or.inr rfl)))) (pI_int)) (pI_int)))
    (pSs_one (pS_set (i := 3) sc_f_law_mixed.nd rfl (by first | exact Or.inl rfl | exact Or.inr rfl) (pI_op op_addA opS_add (pI_op (OpR.or op_repL (OpR.or op_mulS (OpR.or op_mul op_repT))) opS_mulB (pI_var (i := 3) rfl (by first | exact Or.inl rfl | exact Or.inr (Or.inl rfl) | exact Or.inr (Or.inr rfl))) (pI_int)) (pI_op op_mod opS_mod (pI_op op_addA opS_add (pI_op op_addA opS_add (pI_op (OpR.or op_repL (OpR.or op_mulS (OpR.or op_mul op_repT))) opS_mulB (pI_var (i := 2) rfl (by first | exact Or.inl rfl | exact Or.inr (Or.inl rfl) | exact Or.inr (Or.inr rfl))) (pI_int)) (pI_op op_fdivW opS_divW (pI_var (i := 0) rfl (by first | exact Or.inl rfl | exact Or.inr (Or.inl rfl) | exact Or.inr (Or.inr rfl))) (pI_int))) (pI_var (i := 4) rfl (by first | exact Or.inl rfl | exact Or.inr (Or.inl rfl) | exact Or.inr (Or.inr rfl)))) (pI_int)))))))
    (pSs_one (pS_ret (pI_var (i := 3) rfl (by first | exact Or.inl rfl | exact Or.inr (Or.inl rfl) | exact Or.inr (Or.inr rfl)))))))
theorem ok_f_law_names (T : Tx K w mg ca) (D_ : At K mg "_law_names" "_law_names" s_f_law_names ["_law_number_here"])  : Ok P w K mg base (gx K w ca) 1 "_law_names" 1 F_f_law_names :=
  ok_of D_ sc_f_law_names rfl rfl fun f cdv A outer s H Ex hr =>
   pSs_cons (pS_set (i := 1) sc_f_law_names.nd rfl (by first | exact Or.inl rfl | exact Or.inr rfl) (pI_ix ix_seq opS_ix (pI_lst (pI_cons (pI_str) (pI_cons (pI_str) (pI_cons (pI_str) (pI_cons (pI_str) (pI_cons (pI_str) (pI_nil))))))) (pI_op op_mod opS_mod (pI_var (i := 0) rfl (by first | exact Or.inl rfl | exact Or.inr (Or.inl rfl) | exact Or.inr (Or.inr rfl))) (pI_int)) (fun _ _ => rfl)))
    (pSs_cons (pS_set (i := 2) sc_f_law_names.nd rfl (by first | exact Or.inl rfl | exact Or.inr rfl) (pI_op op_mod opS_mod (pI_op op_fdivW opS_divW (pI_var (i := 0) rfl (by first | exact Or.inl rfl | exact Or.inr (Or.inl rfl) | exact Or.inr (Or.inr rfl))) (pI_int)) (pI_op op_addA opS_add (pI_callB call_len callS_len (by rfl) T.n_len (by first | rfl | decide +kernel) (pI_cons (pI_var (i := 1) rfl (by first | exact Or.inl rfl | exact Or.inr (Or.inl rfl) | exact Or.inr (Or.inr rfl))) (pI_nil))) (pI_int))))
    (pSs_cons (pS_set (i := 3) sc_f_law_names.nd rfl (by first | exact Or.inl rfl | exact Or.inr rfl) (pI_op op_mod opS_mod (pI_op op_fdivW opS_divW (pI_var (i := 0) rfl (by first | exact Or.inl rfl | exact Or.inr (Or.inl rfl) | exact Or.inr (Or.inr rfl))) (pI_int)) (pI_int)))
    (pSs_cons (pS_set (i := 4) sc_f_law_names.nd rfl (by first | exact Or.inl rfl | exact Or.inr rfl) (pI_str))
    (pSs_one (pS_ret (pI_lc (own := [("_law_k", 5)]) rfl sc_f_law_names.nd (pIt_r1 (by rfl) T.n_range (pI_cons (pI_int) (pI_nil))) (blkOk_by (N := N_f_law_names) (sc := (defScope s_f_law_names)) (by decide +kernel)) (fun _ _ _ _ _ => pG_name (i := 5) sc_f_law_names.nd rfl (by first | exact Or.inl rfl | exact Or.inr rfl)) (fun _ _ _ _ _ => pTs_nil) (fun _ _ _ _ _ => pI_op op_addA opS_add (pI_op op_addA opS_add (pI_slice (pI_var (i := 1) rfl (by first | exact Or.inl rfl | exact Or.inr (Or.inl rfl) | exact Or.inr (Or.inr rfl))) (pO_none) (pO_some (pI_var (i := 2) rfl (by first | exact Or.inl rfl | exact Or.inr (Or.inl rfl) | exact Or.inr (Or.inr rfl)))) rfl) (pI_ix ix_seq opS_ix (pI_var (i := 4) rfl (by first | exact Or.inl rfl | exact Or.inr (Or.inl rfl) | exact Or.inr (Or.inr rfl))) (pI_op op_mod opS_mod (pI_op op_addA opS_add (pI_var (i := 3) rfl (by first | exact Or.inl rfl | exact Or.inr (Or.inl rfl) | exact Or.inr (Or.inr rfl))) (pI_var (i := 5) rfl (by first | exact Or.inl rfl | exact Or.inr (Or.inl rfl) | exact Or.inr (Or.inr rfl)))) (pI_int)) (fun _ _ => rfl))) (pI_slice (pI_var (i := 1) rfl (by first | exact Or.inl rfl | exact Or.inr (Or.inl rfl) | exact Or.inr (Or.inr rfl))) (pO_some (pI_var (i := 2) rfl (by first | exact Or.inl rfl | exact Or.inr (Or.inl rfl) | exact Or.inr (Or.inr rfl)))) (pO_none) rfl)) (by decide)))))))
theorem ok_f_law_alone (T : Tx K w mg ca) (D_ : At K mg "_law_alone" "_law_alone" s_f_law_alone ["_law_error"])  : Ok P w K mg base (gx K w ca) 1 "_law_alone" 1 F_f_law_alone :=
  ok_of D_ sc_f_law_alone rfl rfl fun f cdv A outer s H Ex hr =>
   pSs_cons (pS_set (i := 1) sc_f_law_alone.nd rfl (by first | exact Or.inl rfl | exact Or.inr rfl) (pI_lst (pI_cons (pI_callB call_isErr (callS_isE T.errC T.errT) (by rfl) T.n_isinstance (by decide +kernel) (pI_cons (pI_var (i := 0) rfl (by first | exact Or.inl rfl | exact Or.inr (Or.inl rfl) | exact Or.inr (Or.inr rfl))) (pI_cons (pI_cls (by rfl) T.g_NoChart (cm_NoChart (ca := ca))) (pI_nil)))) (pI_cons (pI_callB call_isErr (callS_isE T.errC T.errT) (by rfl) T.n_isinstance (by decide +kernel) (pI_cons (pI_var (i := 0) rfl (by first | exact Or.inl rfl | exact Or.inr (Or.inl rfl) | exact Or.inr (Or.inr rfl))) (pI_cons (pI_cls (by rfl) T.g_NoDeed (cm_NoDeed (ca := ca))) (pI_nil)))) (pI_cons (pI_callB call_isErr (callS_isE T.errC T.errT) (by rfl) T.n_isinstance (by decide +kernel) (pI_cons (pI_var (i := 0) rfl (by first | exact Or.inl rfl | exact Or.inr (Or.inl rfl) | exact Or.inr (Or.inr rfl))) (pI_cons (pI_cls (by rfl) T.g_NoGrammar (cm_NoGrammar (ca := ca))) (pI_nil)))) (pI_nil))))))
    (pSs_cons (pS_set (i := 1) sc_f_law_alone.nd rfl (by first | exact Or.inl rfl | exact Or.inr rfl) (pI_op op_addA opS_add (pI_var (i := 1) rfl (by first | exact Or.inl rfl | exact Or.inr (Or.inl rfl) | exact Or.inr (Or.inr rfl))) (pI_lst (pI_cons (pI_callB call_isErr (callS_isE T.errC T.errT) (by rfl) T.n_isinstance (by decide +kernel) (pI_cons (pI_var (i := 0) rfl (by first | exact Or.inl rfl | exact Or.inr (Or.inl rfl) | exact Or.inr (Or.inr rfl))) (pI_cons (pI_cls (by rfl) T.g_NoMachine (cm_NoMachine (ca := ca))) (pI_nil)))) (pI_cons (pI_callB call_isErr (callS_isE T.errC T.errT) (by rfl) T.n_isinstance (by decide +kernel) (pI_cons (pI_var (i := 0) rfl (by first | exact Or.inl rfl | exact Or.inr (Or.inl rfl) | exact Or.inr (Or.inr rfl))) (pI_cons (pI_cls (by rfl) T.g_NoPart (cm_NoPart (ca := ca))) (pI_nil)))) (pI_cons (pI_callB call_isErr (callS_isE T.errC T.errT) (by rfl) T.n_isinstance (by decide +kernel) (pI_cons (pI_var (i := 0) rfl (by first | exact Or.inl rfl | exact Or.inr (Or.inl rfl) | exact Or.inr (Or.inr rfl))) (pI_cons (pI_cls (by rfl) T.g_NoRow (cm_NoRow (ca := ca))) (pI_nil)))) (pI_nil)))))))
    (pSs_cons (pS_set (i := 1) sc_f_law_alone.nd rfl (by first | exact Or.inl rfl | exact Or.inr rfl) (pI_op op_addA opS_add (pI_var (i := 1) rfl (by first | exact Or.inl rfl | exact Or.inr (Or.inl rfl) | exact Or.inr (Or.inr rfl))) (pI_lst (pI_cons (pI_callB call_isErr (callS_isE T.errC T.errT) (by rfl) T.n_isinstance (by decide +kernel) (pI_cons (pI_var (i := 0) rfl (by first | exact Or.inl rfl | exact Or.inr (Or.inl rfl) | exact Or.inr (Or.inr rfl))) (pI_cons (pI_cls (by rfl) T.g_NoText (cm_NoText (ca := ca))) (pI_nil)))) (pI_cons (pI_callB call_isErr (callS_isE T.errC T.errT) (by rfl) T.n_isinstance (by decide +kernel) (pI_cons (pI_var (i := 0) rfl (by first | exact Or.inl rfl | exact Or.inr (Or.inl rfl) | exact Or.inr (Or.inr rfl))) (pI_cons (pI_cls (by rfl) T.g_NoTree (cm_NoTree (ca := ca))) (pI_nil)))) (pI_cons (pI_callB call_isErr (callS_isE T.errC T.errT) (by rfl) T.n_isinstance (by decide +kernel) (pI_cons (pI_var (i := 0) rfl (by first | exact Or.inl rfl | exact Or.inr (Or.inl rfl) | exact Or.inr (Or.inr rfl))) (pI_cons (pI_cls (by rfl) T.g_TooMany (cm_TooMany (ca := ca))) (pI_nil)))) (pI_nil)))))))
    (pSs_one (pS_ret (pI_and (pI_callB call_isErr (callS_isE T.errC T.errT) (by rfl) T.n_isinstance (by decide +kernel) (pI_cons (pI_var (i := 0) rfl (by first | exact Or.inl rfl | exact Or.inr (Or.inl rfl) | exact Or.inr (Or.inr rfl))) (pI_cons (pI_cls (by rfl) T.g_NoTable (cm_NoTable (ca := ca))) (pI_nil)))) (pI_and (pI_callB call_isErr (callS_isE T.errC T.errT) (by rfl) T.n_isinstance (by decide +kernel) (pI_cons (pI_var (i := 0) rfl (by first | exact Or.inl rfl | exact Or.inr (Or.inl rfl) | exact Or.inr (Or.inr rfl))) (pI_cons (pI_ty (n := "ValueError") (by rfl) T.n_ValueError (by first | rfl | decide +kernel)) (pI_nil)))) (pI_one (pI_cmp (op_ninA hr.units) opS_in (pI_bl) (pI_var (i := 1) rfl (by first | exact Or.inl rfl | exact Or.inr (Or.inl rfl) | exact Or.inr (Or.inr rfl))) rfl))))))))
theorem ok_f_law_state (T : Tx K w mg ca) (D_ : At K mg "_law_state" "_law_state" s_f_law_state ["_law_number_here", "_law_names_here", "_law_many"])  : Ok P w K mg base (gx K w ca) 1 "_law_state" 3 F_f_law_state :=
  ok_of D_ sc_f_law_state rfl rfl fun f cdv A outer s H Ex hr =>
   pSs_cons (pS_reg (i := 3) sc_f_law_state.nd rfl (by first | exact Or.inl rfl | exact Or.inr rfl) (pI_lst (pI_nil)))
    (pSs_cons (pS_reg (i := 4) sc_f_law_state.nd rfl (by first | exact Or.inl rfl | exact Or.inr rfl) (pI_lst (pI_nil)))
    (pSs_cons (pS_reg (i := 5) sc_f_law_state.nd rfl (by first | exact Or.inl rfl | exact Or.inr rfl) (pI_lst (pI_nil)))
    (pSs_cons (pS_for PassesOwn.never rfl (pIt_seq rfl (pI_op op_addA opS_add (pI_lst (pI_cons (pI_str) (pI_nil))) (pI_callB (cr_sortedD hr.units) callS_sorted (by rfl) T.n_sorted (by decide +kernel) (pI_cons (pI_slice (pI_var (i := 1) rfl (by first | exact Or.inl rfl | exact Or.inr (Or.inl rfl) | exact Or.inr (Or.inr rfl))) (pO_some (pI_int)) (pO_none) rfl) (pI_nil))))) (pG_name (i := 6) sc_f_law_state.nd rfl (by first | exact Or.inl rfl | exact Or.inr rfl)) (pSs_cons (pS_set (i := 7) sc_f_law_state.nd rfl (by first | exact Or.inl rfl | exact Or.inr rfl) (pI_op op_mod opS_mod (pI_var (i := 0) rfl (by first | exact Or.inl rfl | exact Or.inr (Or.inl rfl) | exact Or.inr (Or.inr rfl))) (pI_int)))
    (pSs_cons (pS_if ((pW_and (pT_cmp (op_eqP hr.units) opS_eq (pI_var (i := 7) rfl (by first | exact Or.inl rfl | exact Or.inr (Or.inl rfl) | exact Or.inr (Or.inr rfl))) (pI_int) (nomark _)) (pW_and1 (pT_cmp (op_neP hr.units) opS_eq (pI_var (i := 6) rfl (by first | exact Or.inl rfl | exact Or.inr (Or.inl rfl) | exact Or.inr (Or.inr rfl))) (pI_str) (nomark _)))).pt) (pSs_one (pS_expr (pI_bm rfl PySem.F.plainAttrs_list PySem.F.slot_list_append PySem.F.type_list_append mt_append mtS_append (pI_var (i := 3) rfl (by first | exact Or.inl rfl | exact Or.inr (Or.inl rfl) | exact Or.inr (Or.inr rfl))) (pI_cons (pI_tup (pI_cons (pI_var (i := 6) rfl (by first | exact Or.inl rfl | exact Or.inr (Or.inl rfl) | exact Or.inr (Or.inr rfl))) (pI_cons (pI_tup (pI_cons (pI_str) (pI_cons (pI_op op_mod opS_mod (pI_op op_fdivW opS_divW (pI_var (i := 0) rfl (by first | exact Or.inl rfl | exact Or.inr (Or.inl rfl) | exact Or.inr (Or.inr rfl))) (pI_int)) (pI_var (i := 2) rfl (by first | exact Or.inl rfl | exact Or.inr (Or.inl rfl) | exact Or.inr (Or.inr rfl)))) (pI_nil)))) (pI_nil)))) (pI_nil))))) (pSs_nil))
    (pSs_cons (pS_if (pT_cmp (op_eqP hr.units) opS_eq (pI_var (i := 7) rfl (by first | exact Or.inl rfl | exact Or.inr (Or.inl rfl) | exact Or.inr (Or.inr rfl))) (pI_int) (nomark _)) (pSs_one (pS_expr (pI_bm rfl PySem.F.plainAttrs_list PySem.F.slot_list_append PySem.F.type_list_append mt_append mtS_append (pI_var (i := 3) rfl (by first | exact Or.inl rfl | exact Or.inr (Or.inl rfl) | exact Or.inr (Or.inr rfl))) (pI_cons (pI_tup (pI_cons (pI_var (i := 6) rfl (by first | exact Or.inl rfl | exact Or.inr (Or.inl rfl) | exact Or.inr (Or.inr rfl))) (pI_cons (pI_tup (pI_cons (pI_str) (pI_cons (pI_op op_mod opS_mod (pI_op op_fdivW opS_divW (pI_var (i := 0) rfl (by first | exact Or.inl rfl | exact Or.inr (Or.inl rfl) | exact Or.inr (Or.inr rfl))) (pI_int)) (pI_int)) (pI_nil)))) (pI_nil)))) (pI_nil))))) (pSs_nil))
    (pSs_cons (pS_if (pT_cmp (op_eqP hr.units) opS_eq (pI_var (i := 7) rfl (by first | exact Or.inl rfl | exact Or.inr (Or.inl rfl) | exact Or.inr (Or.inr rfl))) (pI_int) (nomark _)) (pSs_one (pS_expr (pI_bm rfl PySem.F.plainAttrs_list PySem.F.slot_list_append PySem.F.type_list_append mt_append mtS_append (pI_var (i := 3) rfl (by first | exact Or.inl rfl | exact Or.inr (Or.inl rfl) | exact Or.inr (Or.inr rfl))) (pI_cons (pI_tup (pI_cons (pI_var (i := 6) rfl (by first | exact Or.inl rfl | exact Or.inr (Or.inl rfl) | exact Or.inr (Or.inr rfl))) (pI_cons (pI_tup (pI_cons (pI_str) (pI_nil))) (pI_nil)))) (pI_nil))))) (pSs_nil))
    (pSs_one (pS_set (i := 0) sc_f_law_state.nd rfl (by first | exact Or.inl rfl | exact Or.inr rfl) (pI_op op_fdivW opS_divW (pI_var (i := 0) rfl (by first | exact Or.inl rfl | exact Or.inr (Or.inl rfl) | exact Or.inr (Or.inr rfl))) (pI_int)))))))))
    (pSs_cons (pS_for PassesOwn.never rfl (pIt_seq rfl (pI_callB (cr_sortedD hr.units) callS_sorted (by rfl) T.n_sorted (by decide +kernel) (pI_cons (pI_slice (pI_var (i := 1) rfl (by first | exact Or.inl rfl | exact Or.inr (Or.inl rfl) | exact Or.inr (Or.inr rfl))) (pO_none) (pO_some (pI_int)) rfl) (pI_nil)))) (pG_name (i := 8) sc_f_law_state.nd rfl (by first | exact Or.inl rfl | exact Or.inr rfl)) (pSs_cons (pS_if (pT_cmp (op_eqP hr.units) opS_eq (pI_op op_mod opS_mod (pI_var (i := 0) rfl (by first | exact Or.inl rfl | exact Or.inr (Or.inl rfl) | exact Or.inr (Or.inr rfl))) (pI_int)) (pI_int) (nomark _)) (pSs_one (pS_expr (pI_bm rfl PySem.F.plainAttrs_list PySem.F.slot_list_append PySem.F.type_list_append mt_append mtS_append (pI_var (i := 4) rfl (by first | exact Or.inl rfl | exact Or.inr (Or.inl rfl) | exact Or.inr (Or.inr rfl))) (pI_cons (pI_tup (pI_cons (pI_var (i := 8) rfl (by first | exact Or.inl rfl | exact Or.inr (Or.inl rfl) | exact Or.inr (Or.inr rfl))) (pI_cons (pI_op op_mod opS_mod (pI_op op_fdivW opS_divW (pI_var (i := 0) rfl (by first | exact Or.inl rfl | exact Or.inr (Or.inl rfl) | exact Or.inr (Or.inr rfl))) (pI_int)) (pI_var (i := 2) rfl (by first | exact Or.inl rfl | exact Or.inr (Or.inl rfl) | exact Or.inr (Or.inr rfl)))) (pI_nil)))) (pI_nil))))) (pSs_nil))
    (pSs_one (pS_set (i := 0) sc_f_law_state.nd rfl (by first | exact Or.inl rfl | exact Or.inr rfl) (pI_op op_fdivW opS_divW (pI_var (i := 0) rfl (by first | exact Or.inl rfl | exact Or.inr (Or.inl rfl) | exact Or.inr (Or.inr rfl))) (pI_op (OpR.or op_repL (OpR.or op_mulS (OpR.or op_mul op_repT))) opS_mulB (pI_int) (pI_var (i := 2) rfl (by first | exact Or.inl rfl | exact Or.inr (Or.inl rfl) | exact Or.inr (Or.inr rfl)))))))))
    (pSs_cons (pS_for PassesOwn.never rfl (pIt_r1 (by rfl) T.n_range (pI_cons (pI_op op_mod opS_mod (pI_var (i := 0) rfl (by first | exact Or.inl rfl | exact Or.inr (Or.inl rfl) | exact Or.inr (Or.inr rfl))) (pI_int)) (pI_nil))) (pG_name (i := 9) sc_f_law_state.nd rfl (by first | exact Or.inl rfl | exact Or.inr rfl)) (pSs_cons (pS_set (i := 0) sc_f_law_state.nd rfl (by first | exact Or.inl rfl | exact Or.inr rfl) (pI_op op_fdivW opS_divW (pI_var (i := 0) rfl (by first | exact Or.inl rfl | exact Or.inr (Or.inl rfl) | exact Or.inr (Or.inr rfl))) (pI_int)))
    (pSs_cons (pS_set (i := 10) sc_f_law_state.nd rfl (by first | exact Or.inl rfl | exact Or.inr rfl) (pI_op op_sub opS_sub (pI_op op_mod opS_mod (pI_var (i := 0) rfl (by first | exact Or.inl rfl | exact Or.inr (Or.inl rfl) | exact Or.inr (Or.inr rfl))) (pI_int)) (pI_int)))
    (pSs_cons (pS_set (i := 11) sc_f_law_state.nd rfl (by first | exact Or.inl rfl | exact Or.inr rfl) (pI_tup (pI_cons (pI_var (i := 10) rfl (by first | exact Or.inl rfl | exact Or.inr (Or.inl rfl) | exact Or.inr (Or.inr rfl))) (pI_cons (pI_op op_mod opS_mod (pI_op op_fdivW opS_divW (pI_var (i := 0) rfl (by first | exact Or.inl rfl | exact Or.inr (Or.inl rfl) | exact Or.inr (Or.inr rfl))) (pI_int)) (pI_int)) (pI_cons (pI_ix ix_seq opS_ix (pI_op op_addA opS_add (pI_lst (pI_cons (pI_str) (pI_nil))) (pI_slice (pI_var (i := 1) rfl (by first | exact Or.inl rfl | exact Or.inr (Or.inl rfl) | exact Or.inr (Or.inr rfl))) (pO_some (pI_int)) (pO_none) rfl)) (pI_op op_mod opS_mod (pI_op op_fdivW opS_divW (pI_var (i := 0) rfl (by first | exact Or.inl rfl | exact Or.inr (Or.inl rfl) | exact Or.inr (Or.inr rfl))) (pI_int)) (pI_int)) (fun _ _ => rfl)) (pI_nil))))))
    (pSs_cons (pS_if (pT_cmp (op_eqP hr.units) opS_eq (pI_var (i := 10) rfl (by first | exact Or.inl rfl | exact Or.inr (Or.inl rfl) | exact Or.inr (Or.inr rfl))) (pI_un un_neg unS_neg (pI_int)) (nomark _)) (pSs_one (pS_set (i := 11) sc_f_law_state.nd rfl (by first | exact Or.inl rfl | exact Or.inr rfl) (pI_tup (pI_cons (pI_un un_neg unS_neg (pI_int)) (pI_cons (pI_op op_mod opS_mod (pI_op op_fdivW opS_divW (pI_var (i := 0) rfl (by first | exact Or.inl rfl | exact Or.inr (Or.inl rfl) | exact Or.inr (Or.inr rfl))) (pI_int)) (pI_int)) (pI_cons (pI_str) (pI_nil))))))) (pSs_nil))
    (pSs_cons (pS_expr (pI_bm rfl PySem.F.plainAttrs_list PySem.F.slot_list_append PySem.F.type_list_append mt_append mtS_append (pI_var (i := 5) rfl (by first | exact Or.inl rfl | exact Or.inr (Or.inl rfl) | exact Or.inr (Or.inr rfl))) (pI_cons (pI_var (i := 11) rfl (by first | exact Or.inl rfl | exact Or.inr (Or.inl rfl) | exact Or.inr (Or.inr rfl))) (pI_nil))))
    (pSs_one (pS_set (i := 0) sc_f_law_state.nd rfl (by first | exact Or.inl rfl | exact Or.inr rfl) (pI_op op_fdivW opS_divW (pI_var (i := 0) rfl (by first | exact Or.inl rfl | exact Or.inr (Or.inl rfl) | exact Or.inr (Or.inr rfl))) (pI_int))))))))))
    (pSs_one (pS_ret (pI_tup (pI_cons (pI_callTy call_tuple_of callS_tuple (by rfl) T.n_tuple (by first | rfl | decide +kernel) (pI_cons (pI_var (i := 3) rfl (by first | exact Or.inl rfl | exact Or.inr (Or.inl rfl) | exact Or.inr (Or.inr rfl))) (pI_nil))) (pI_cons (pI_callTy call_tuple_of callS_tuple (by rfl) T.n_tuple (by first | rfl | decide +kernel) (pI_cons (pI_var (i := 4) rfl (by first | exact Or.inl rfl | exact Or.inr (Or.inl rfl) | exact Or.inr (Or.inr rfl))) (pI_nil))) (pI_cons (pI_callTy call_tuple_of callS_tuple (by rfl) T.n_tuple (by first | rfl | decide +kernel) (pI_cons (pI_sortSetT rfl rfl rfl hr.units rfl (by rfl) T.n_sorted (by rfl) T.n_set (pI_cons (pI_var (i := 5) rfl (by first | exact Or.inl rfl | exact Or.inr (Or.inl rfl) | exact Or.inr (Or.inr rfl))) (pI_nil))) (pI_nil))) (pI_nil))))))))))))
theorem ok_f_law_bad_parts (T : Tx K w mg ca) (D_ : At K mg "_law_bad_parts" "_law_bad_parts" s_f_law_bad_parts ["_law_names_here"])  : Ok P w K mg base (gx K w ca) 1 "_law_bad_parts" 1 F_f_law_bad_parts :=
  ok_of D_ sc_f_law_bad_parts rfl rfl fun f cdv A outer s H Ex hr =>
   pSs_cons (pS_set (i := 1) sc_f_law_bad_parts.nd rfl (by first | exact Or.inl rfl | exact Or.inr rfl) (pI_ix ix_seq opS_ix (pI_var (i := 0) rfl (by first | exact Or.inl rfl | exact Or.inr (Or.inl rfl) | exact Or.inr (Or.inr rfl))) (pI_int) (fun _ _ => rfl)))
    (pSs_cons (pS_set (i := 2) sc_f_law_bad_parts.nd rfl (by first | exact Or.inl rfl | exact Or.inr rfl) (pI_lst (pI_cons (pI_tup (pI_cons (pI_tup (pI_cons (pI_var (i := 1) rfl (by first | exact Or.inl rfl | exact Or.inr (Or.inl rfl) | exact Or.inr (Or.inr rfl))) (pI_cons (pI_tup (pI_cons (pI_str) (pI_cons (pI_int) (pI_nil)))) (pI_nil)))) (pI_nil))) (pI_cons (pI_tup (pI_cons (pI_tup (pI_cons (pI_var (i := 1) rfl (by first | exact Or.inl rfl | exact Or.inr (Or.inl rfl) | exact Or.inr (Or.inr rfl))) (pI_cons (pI_tup (pI_cons (pI_str) (pI_cons (pI_un un_neg unS_neg (pI_int)) (pI_nil)))) (pI_nil)))) (pI_nil))) (pI_cons (pI_tup (pI_cons (pI_tup (pI_cons (pI_var (i := 1) rfl (by first | exact Or.inl rfl | exact Or.inr (Or.inl rfl) | exact Or.inr (Or.inr rfl))) (pI_cons (pI_tup (pI_cons (pI_str) (pI_cons (pI_bl) (pI_nil)))) (pI_nil)))) (pI_nil))) (pI_cons (pI_tup (pI_cons (pI_tup (pI_cons (pI_var (i := 1) rfl (by first | exact Or.inl rfl | exact Or.inr (Or.inl rfl) | exact Or.inr (Or.inr rfl))) (pI_cons (pI_tup (pI_cons (pI_str) (pI_cons (pI_int) (pI_nil)))) (pI_nil)))) (pI_nil))) (pI_nil)))))))
    (pSs_cons (pS_set (i := 2) sc_f_law_bad_parts.nd rfl (by first | exact Or.inl rfl | exact Or.inr rfl) (pI_op op_addA opS_add (pI_var (i := 2) rfl (by first | exact Or.inl rfl | exact Or.inr (Or.inl rfl) | exact Or.inr (Or.inr rfl))) (pI_lst (pI_cons (pI_tup (pI_cons (pI_tup (pI_cons (pI_var (i := 1) rfl (by first | exact Or.inl rfl | exact Or.inr (Or.inl rfl) | exact Or.inr (Or.inr rfl))) (pI_cons (pI_tup (pI_cons (pI_str) (pI_cons (pI_un un_neg unS_neg (pI_int)) (pI_nil)))) (pI_nil)))) (pI_nil))) (pI_cons (pI_tup (pI_cons (pI_tup (pI_cons (pI_var (i := 1) rfl (by first | exact Or.inl rfl | exact Or.inr (Or.inl rfl) | exact Or.inr (Or.inr rfl))) (pI_cons (pI_tup (pI_cons (pI_str) (pI_cons (pI_str) (pI_nil)))) (pI_nil)))) (pI_nil))) (pI_cons (pI_tup (pI_cons (pI_tup (pI_cons (pI_var (i := 1) rfl (by first | exact Or.inl rfl | exact Or.inr (Or.inl rfl) | exact Or.inr (Or.inr rfl))) (pI_cons (pI_tup (pI_cons (pI_str) (pI_cons (pI_int) (pI_nil)))) (pI_nil)))) (pI_nil))) (pI_cons (pI_tup (pI_cons (pI_tup (pI_cons (pI_var (i := 1) rfl (by first | exact Or.inl rfl | exact Or.inr (Or.inl rfl) | exact Or.inr (Or.inr rfl))) (pI_cons (pI_tup (pI_cons (pI_str) (pI_cons (pI_int) (pI_nil)))) (pI_nil)))) (pI_nil))) (pI_nil))))))))
    (pSs_cons (pS_set (i := 2) sc_f_law_bad_parts.nd rfl (by first | exact Or.inl rfl | exact Or.inr rfl) (pI_op op_addA opS_add (pI_var (i := 2) rfl (by first | exact Or.inl rfl | exact Or.inr (Or.inl rfl) | exact Or.inr (Or.inr rfl))) (pI_lst (pI_cons (pI_tup (pI_cons (pI_tup (pI_cons (pI_var (i := 1) rfl (by first | exact Or.inl rfl | exact Or.inr (Or.inl rfl) | exact Or.inr (Or.inr rfl))) (pI_cons (pI_lst (pI_cons (pI_str) (pI_nil))) (pI_nil)))) (pI_nil))) (pI_cons (pI_tup (pI_cons (pI_tup (pI_cons (pI_str) (pI_cons (pI_tup (pI_cons (pI_str) (pI_cons (pI_int) (pI_nil)))) (pI_nil)))) (pI_nil))) (pI_cons (pI_tup (pI_cons (pI_tup (pI_cons (pI_non) (pI_cons (pI_tup (pI_cons (pI_str) (pI_nil))) (pI_nil)))) (pI_nil))) (pI_cons (pI_tup (pI_cons (pI_tup (pI_cons (pI_str) (pI_cons (pI_tup (pI_cons (pI_str) (pI_nil))) (pI_nil)))) (pI_nil))) (pI_cons (pI_tup (pI_cons (pI_tup (pI_cons (pI_var (i := 1) rfl (by first | exact Or.inl rfl | exact Or.inr (Or.inl rfl) | exact Or.inr (Or.inr rfl))) (pI_nil))) (pI_nil))) (pI_nil)))))))))
    (pSs_cons (pS_set (i := 2) sc_f_law_bad_parts.nd rfl (by first | exact Or.inl rfl | exact Or.inr rfl) (pI_op op_addA opS_add (pI_var (i := 2) rfl (by first | exact Or.inl rfl | exact Or.inr (Or.inl rfl) | exact Or.inr (Or.inr rfl))) (pI_lst (pI_cons (pI_tup (pI_cons (pI_tup (pI_cons (pI_var (i := 1) rfl (by first | exact Or.inl rfl | exact Or.inr (Or.inl rfl) | exact Or.inr (Or.inr rfl))) (pI_cons (pI_tup (pI_cons (pI_str) (pI_nil))) (pI_nil)))) (pI_cons (pI_tup (pI_cons (pI_str) (pI_cons (pI_tup (pI_cons (pI_str) (pI_nil))) (pI_nil)))) (pI_nil)))) (pI_cons (pI_tup (pI_cons (pI_tup (pI_cons (pI_var (i := 1) rfl (by first | exact Or.inl rfl | exact Or.inr (Or.inl rfl) | exact Or.inr (Or.inr rfl))) (pI_cons (pI_tup (pI_cons (pI_str) (pI_nil))) (pI_nil)))) (pI_cons (pI_tup (pI_cons (pI_var (i := 1) rfl (by first | exact Or.inl rfl | exact Or.inr (Or.inl rfl) | exact Or.inr (Or.inr rfl))) (pI_cons (pI_tup (pI_cons (pI_str) (pI_nil))) (pI_nil)))) (pI_nil)))) (pI_cons (pI_lst (pI_nil)) (pI_cons (pI_non) (pI_nil))))))))
    (pSs_cons (pS_set (i := 2) sc_f_law_bad_parts.nd rfl (by first | exact Or.inl rfl | exact Or.inr rfl) (pI_op op_addA opS_add (pI_var (i := 2) rfl (by first | exact Or.inl rfl | exact Or.inr (Or.inl rfl) | exact Or.inr (Or.inr rfl))) (pI_lst (pI_cons (pI_tup (pI_cons (pI_tup (pI_cons (pI_var (i := 1) rfl (by first | exact Or.inl rfl | exact Or.inr (Or.inl rfl) | exact Or.inr (Or.inr rfl))) (pI_cons (pI_tup (pI_nil)) (pI_nil)))) (pI_nil))) (pI_cons (pI_str) (pI_nil))))))
    (pSs_cons (pS_set (i := 3) sc_f_law_bad_parts.nd rfl (by first | exact Or.inl rfl | exact Or.inr rfl) (pI_lst (pI_cons (pI_tup (pI_cons (pI_tup (pI_cons (pI_var (i := 1) rfl (by first | exact Or.inl rfl | exact Or.inr (Or.inl rfl) | exact Or.inr (Or.inr rfl))) (pI_cons (pI_int) (pI_nil)))) (pI_nil))) (pI_cons (pI_tup (pI_cons (pI_tup (pI_cons (pI_var (i := 1) rfl (by first | exact Or.inl rfl | exact Or.inr (Or.inl rfl) | exact Or.inr (Or.inr rfl))) (pI_cons (pI_un un_neg unS_neg (pI_int)) (pI_nil)))) (pI_nil))) (pI_cons (pI_tup (pI_cons (pI_tup (pI_cons (pI_var (i := 1) rfl (by first | exact Or.inl rfl | exact Or.inr (Or.inl rfl) | exact Or.inr (Or.inr rfl))) (pI_cons (pI_bl) (pI_nil)))) (pI_nil))) (pI_cons (pI_tup (pI_cons (pI_tup (pI_cons (pI_str) (pI_cons (pI_int) (pI_nil)))) (pI_nil))) (pI_cons (pI_tup (pI_cons (pI_tup (pI_cons (pI_str) (pI_cons (pI_int) (pI_nil)))) (pI_nil))) (pI_cons (pI_tup (pI_cons (pI_tup (pI_cons (pI_var (i := 1) rfl (by first | exact Or.inl rfl | exact Or.inr (Or.inl rfl) | exact Or.inr (Or.inr rfl))) (pI_cons (pI_int) (pI_nil)))) (pI_cons (pI_tup (pI_cons (pI_var (i := 1) rfl (by first | exact Or.inl rfl | exact Or.inr (Or.inl rfl) | exact Or.inr (Or.inr rfl))) (pI_cons (pI_int) (pI_nil)))) (pI_nil)))) (pI_cons (pI_non) (pI_cons (pI_tup (pI_cons (pI_int) (pI_nil))) (pI_nil)))))))))))
    (pSs_cons (pS_reg (i := 4) sc_f_law_bad_parts.nd rfl (by first | exact Or.inl rfl | exact Or.inr rfl) (pI_lst (pI_cons (pI_tup (pI_cons (pI_tup (pI_cons (pI_int) (pI_cons (pI_int) (pI_cons (pI_str) (pI_nil))))) (pI_nil))) (pI_cons (pI_tup (pI_cons (pI_tup (pI_cons (pI_un un_neg unS_neg (pI_int)) (pI_cons (pI_int) (pI_cons (pI_str) (pI_nil))))) (pI_nil))) (pI_cons (pI_tup (pI_cons (pI_tup (pI_cons (pI_int) (pI_cons (pI_int) (pI_cons (pI_str) (pI_nil))))) (pI_nil))) (pI_cons (pI_tup (pI_cons (pI_tup (pI_cons (pI_int) (pI_cons (pI_un un_neg unS_neg (pI_int)) (pI_cons (pI_str) (pI_nil))))) (pI_nil))) (pI_cons (pI_tup (pI_cons (pI_tup (pI_cons (pI_int) (pI_cons (pI_int) (pI_cons (pI_str) (pI_nil))))) (pI_nil))) (pI_cons (pI_tup (pI_cons (pI_tup (pI_cons (pI_int) (pI_cons (pI_int) (pI_cons (pI_non) (pI_nil))))) (pI_nil))) (pI_cons (pI_tup (pI_cons (pI_tup (pI_cons (pI_int) (pI_cons (pI_int) (pI_nil)))) (pI_nil))) (pI_nil))))))))))
    (pSs_cons (pS_reg (i := 4) sc_f_law_bad_parts.nd rfl (by first | exact Or.inl rfl | exact Or.inr rfl) (pI_op op_addA opS_add (pI_var (i := 4) rfl (by first | exact Or.inl rfl | exact Or.inr (Or.inl rfl) | exact Or.inr (Or.inr rfl))) (pI_lst (pI_cons (pI_tup (pI_cons (pI_tup (pI_cons (pI_un un_neg unS_neg (pI_int)) (pI_cons (pI_int) (pI_cons (pI_str) (pI_nil))))) (pI_nil))) (pI_cons (pI_tup (pI_cons (pI_tup (pI_cons (pI_un un_neg unS_neg (pI_int)) (pI_cons (pI_int) (pI_cons (pI_var (i := 1) rfl (by first | exact Or.inl rfl | exact Or.inr (Or.inl rfl) | exact Or.inr (Or.inr rfl))) (pI_nil))))) (pI_nil))) (pI_cons (pI_tup (pI_cons (pI_tup (pI_cons (pI_int) (pI_cons (pI_int) (pI_cons (pI_str) (pI_nil))))) (pI_cons (pI_tup (pI_cons (pI_int) (pI_cons (pI_int) (pI_cons (pI_str) (pI_nil))))) (pI_nil)))) (pI_cons (pI_tup (pI_cons (pI_tup (pI_cons (pI_int) (pI_cons (pI_int) (pI_cons (pI_str) (pI_nil))))) (pI_cons (pI_tup (pI_cons (pI_int) (pI_cons (pI_int) (pI_cons (pI_str) (pI_nil))))) (pI_nil)))) (pI_nil))))))))
    (pSs_cons (pS_expr (pI_bm rfl PySem.F.plainAttrs_list PySem.F.slot_list_append PySem.F.type_list_append mt_append mtS_append (pI_var (i := 4) rfl (by first | exact Or.inl rfl | exact Or.inr (Or.inl rfl) | exact Or.inr (Or.inr rfl))) (pI_cons (pI_tup (pI_cons (pI_tup (pI_cons (pI_bl) (pI_cons (pI_int) (pI_cons (pI_str) (pI_nil))))) (pI_nil))) (pI_nil))))
    (pSs_cons (pS_reg (i := 4) sc_f_law_bad_parts.nd rfl (by first | exact Or.inl rfl | exact Or.inr rfl) (pI_op op_addA opS_add (pI_var (i := 4) rfl (by first | exact Or.inl rfl | exact Or.inr (Or.inl rfl) | exact Or.inr (Or.inr rfl))) (pI_lst (pI_cons (pI_lst (pI_nil)) (pI_cons (pI_non) (pI_cons (pI_tup (pI_cons (pI_lst (pI_cons (pI_int) (pI_cons (pI_int) (pI_cons (pI_str) (pI_nil))))) (pI_nil))) (pI_cons (pI_tup (pI_cons (pI_tup (pI_cons (pI_int) (pI_cons (pI_bl) (pI_cons (pI_str) (pI_nil))))) (pI_nil))) (pI_nil))))))))
    (pSs_cons (pS_set (i := 5) sc_f_law_bad_parts.nd rfl (by first | exact Or.inl rfl | exact Or.inr rfl) (pI_op op_addA opS_add (pI_op op_addA opS_add (pI_lc (own := [("_law_deed", 6)]) rfl sc_f_law_bad_parts.nd (pIt_seq rfl (pI_var (i := 2) rfl (by first | exact Or.inl rfl | exact Or.inr (Or.inl rfl) | exact Or.inr (Or.inr rfl)))) (blkOk_by (N := N_f_law_bad_parts) (sc := (defScope s_f_law_bad_parts)) (by decide +kernel)) (fun _ _ _ _ _ => pG_name (i := 6) sc_f_law_bad_parts.nd rfl (by first | exact Or.inl rfl | exact Or.inr rfl)) (fun _ _ _ _ _ => pTs_nil) (fun _ _ _ _ _ => pI_tup (pI_cons (pI_var (i := 6) rfl (by first | exact Or.inl rfl | exact Or.inr (Or.inl rfl) | exact Or.inr (Or.inr rfl))) (pI_cons (pI_tup (pI_nil)) (pI_cons (pI_tup (pI_nil)) (pI_nil))))) (by decide)) (pI_lc (own := [("_law_go", 7)]) rfl sc_f_law_bad_parts.nd (pIt_seq rfl (pI_var (i := 3) rfl (by first | exact Or.inl rfl | exact Or.inr (Or.inl rfl) | exact Or.inr (Or.inr rfl)))) (blkOk_by (N := N_f_law_bad_parts) (sc := (defScope s_f_law_bad_parts)) (by decide +kernel)) (fun _ _ _ _ _ => pG_name (i := 7) sc_f_law_bad_parts.nd rfl (by first | exact Or.inl rfl | exact Or.inr rfl)) (fun _ _ _ _ _ => pTs_nil) (fun _ _ _ _ _ => pI_tup (pI_cons (pI_tup (pI_nil)) (pI_cons (pI_var (i := 7) rfl (by first | exact Or.inl rfl | exact Or.inr (Or.inl rfl) | exact Or.inr (Or.inr rfl))) (pI_cons (pI_tup (pI_nil)) (pI_nil))))) (by decide))) (pI_lc (own := [("_law_note", 8)]) rfl sc_f_law_bad_parts.nd (pIt_seq rfl (pI_var (i := 4) rfl (by first | exact Or.inl rfl | exact Or.inr (Or.inl rfl) | exact Or.inr (Or.inr rfl)))) (blkOk_by (N := N_f_law_bad_parts) (sc := (defScope s_f_law_bad_parts)) (by decide +kernel)) (fun _ _ _ _ _ => pG_name (i := 8) sc_f_law_bad_parts.nd rfl (by first | exact Or.inl rfl | exact Or.inr rfl)) (fun _ _ _ _ _ => pTs_nil) (fun _ _ _ _ _ => pI_tup (pI_cons (pI_tup (pI_nil)) (pI_cons (pI_tup (pI_nil)) (pI_cons (pI_var (i := 8) rfl (by first | exact Or.inl rfl | exact Or.inr (Or.inl rfl) | exact Or.inr (Or.inr rfl))) (pI_nil))))) (by decide))))
    (pSs_one (pS_ret (pI_op op_addA opS_add (pI_var (i := 5) rfl (by first | exact Or.inl rfl | exact Or.inr (Or.inl rfl) | exact Or.inr (Or.inr rfl))) (pI_lst (pI_cons (pI_lst (pI_cons (pI_tup (pI_nil)) (pI_cons (pI_tup (pI_nil)) (pI_cons (pI_tup (pI_nil)) (pI_nil))))) (pI_cons (pI_tup (pI_cons (pI_tup (pI_nil)) (pI_cons (pI_tup (pI_nil)) (pI_nil)))) (pI_cons (pI_tup (pI_cons (pI_tup (pI_nil)) (pI_cons (pI_tup (pI_nil)) (pI_cons (pI_tup (pI_nil)) (pI_cons (pI_tup (pI_nil)) (pI_nil)))))) (pI_cons (pI_non) (pI_cons (pI_str) (pI_cons (pI_int) (pI_nil))))))))))))))))))))))
theorem ok_f_law_take (T : Tx K w mg ca) (D_ : At K mg "_law_take" "_law_take" s_f_law_take ["_law_digits", "_law_size"])  : Ok P w K mg base (gx K w ca) 1 "_law_take" 2 F_f_law_take :=
  ok_of D_ sc_f_law_take rfl rfl fun f cdv A outer s H Ex hr =>
   pSs_cons (pS_set (i := 2) sc_f_law_take.nd rfl (by first | exact Or.inl rfl | exact Or.inr rfl) (pI_op op_mod opS_mod (pI_ix ix_seq opS_ix (pI_var (i := 0) rfl (by first | exact Or.inl rfl | exact Or.inr (Or.inl rfl) | exact Or.inr (Or.inr rfl))) (pI_int) (fun _ _ => rfl)) (pI_var (i := 1) rfl (by first | exact Or.inl rfl | exact Or.inr (Or.inl rfl) | exact Or.inr (Or.inr rfl)))))
    (pSs_cons (pS_setIx set_list setS_list (pI_op op_fdivW opS_divW (pI_ix ix_seq opS_ix (pI_var (i := 0) rfl (by first | exact Or.inl rfl | exact Or.inr (Or.inl rfl) | exact Or.inr (Or.inr rfl))) (pI_int) (fun _ _ => rfl)) (pI_var (i := 1) rfl (by first | exact Or.inl rfl | exact Or.inr (Or.inl rfl) | exact Or.inr (Or.inr rfl)))) (pI_var (i := 0) rfl (by first | exact Or.inl rfl | exact Or.inr (Or.inl rfl) | exact Or.inr (Or.inr rfl))) (pI_int))
    (pSs_one (pS_ret (pI_var (i := 2) rfl (by first | exact Or.inl rfl | exact Or.inr (Or.inl rfl) | exact Or.inr (Or.inr rfl))))))
theorem ok_f_law_is_number (T : Tx K w mg ca) (D_ : At K mg "_law_is_number" "_law_is_number" s_f_law_is_number ["_law_thing", "_law_least", "_law_most"])  : Ok P w K mg base (gx K w ca) 1 "_law_is_number" 3 F_f_law_is_number :=
  ok_of D_ sc_f_law_is_number rfl rfl fun f cdv A outer s H Ex hr =>
   pSs_one (pS_ret (pI_and (pI_callB call_isi2 callS_isi (by rfl) T.n_isinstance (by first | rfl | decide +kernel) (pI_cons (pI_var (i := 0) rfl (by first | exact Or.inl rfl | exact Or.inr (Or.inl rfl) | exact Or.inr (Or.inr rfl))) (pI_cons (pI_ty (n := "int") (by rfl) T.n_int (by first | rfl | decide +kernel)) (pI_nil)))) (pI_and (pI_not (pI_callB call_isi2 callS_isi (by rfl) T.n_isinstance (by first | rfl | decide +kernel) (pI_cons (pI_var (i := 0) rfl (by first | exact Or.inl rfl | exact Or.inr (Or.inl rfl) | exact Or.inr (Or.inr rfl))) (pI_cons (pI_ty (n := "bool") (by rfl) T.n_bool (by first | rfl | decide +kernel)) (pI_nil))))) (pI_one (pI_chain op_le opS_cmp op_le opS_cmp (pI_var (i := 1) rfl (by first | exact Or.inl rfl | exact Or.inr (Or.inl rfl) | exact Or.inr (Or.inr rfl))) (pI_var (i := 0) rfl (by first | exact Or.inl rfl | exact Or.inr (Or.inl rfl) | exact Or.inr (Or.inr rfl))) (pI_var (i := 2) rfl (by first | exact Or.inl rfl | exact Or.inr (Or.inl rfl) | exact Or.inr (Or.inr rfl))))))))
theorem ok_f_law_is_word (T : Tx K w mg ca) (D_ : At K mg "_law_is_word" "_law_is_word" s_f_law_is_word ["_law_thing"])  : Ok P w K mg base (gx K w ca) 1 "_law_is_word" 1 F_f_law_is_word :=
  ok_of D_ sc_f_law_is_word rfl rfl fun f cdv A outer s H Ex hr =>
   pSs_cons (pS_if ((pW_or (pT_not (pT_val (pI_callB call_isi2 callS_isi (by rfl) T.n_isinstance (by first | rfl | decide +kernel) (pI_cons (pI_var (i := 0) rfl (by first | exact Or.inl rfl | exact Or.inr (Or.inl rfl) | exact Or.inr (Or.inr rfl))) (pI_cons (pI_ty (n := "str") (by rfl) T.n_str (by first | rfl | decide +kernel)) (pI_nil)))))) (pW_or1 (pT_cmp op_gt opS_cmp (pI_callB call_len callS_len (by rfl) T.n_len (by first | rfl | decide +kernel) (pI_cons (pI_var (i := 0) rfl (by first | exact Or.inl rfl | exact Or.inr (Or.inl rfl) | exact Or.inr (Or.inr rfl))) (pI_nil))) (pI_int) (nomark _)))).pt) (pSs_one (pS_ret (pI_bl))) (pSs_nil))
    (pSs_one (pS_ret (pI_cmp (op_eqP hr.units) opS_eq (pI_lc (own := [("_law_sign", 1)]) rfl sc_f_law_is_word.nd (pIt_seq rfl (pI_var (i := 0) rfl (by first | exact Or.inl rfl | exact Or.inr (Or.inl rfl) | exact Or.inr (Or.inr rfl)))) (blkOk_by (N := N_f_law_is_word) (sc := (defScope s_f_law_is_word)) (by decide +kernel)) (fun _ _ _ _ _ => pG_name (i := 1) sc_f_law_is_word.nd rfl (by first | exact Or.inl rfl | exact Or.inr rfl)) (fun _ _ _ _ _ => pTs_one (pT_cmp (op_ninA hr.units) opS_in (pI_var (i := 1) rfl (by first | exact Or.inl rfl | exact Or.inr (Or.inl rfl) | exact Or.inr (Or.inr rfl))) (pI_str) rfl)) (fun _ _ _ _ _ => pI_var (i := 1) rfl (by first | exact Or.inl rfl | exact Or.inr (Or.inl rfl) | exact Or.inr (Or.inr rfl))) (by decide)) (pI_lst (pI_nil)) (nomark _))))
theorem ok_f_law_rises (T : Tx K w mg ca) (D_ : At K mg "_law_rises" "_law_rises" s_f_law_rises ["_law_some"])  : Ok P w K mg base (gx K w ca) 1 "_law_rises" 1 F_f_law_rises :=
  ok_of D_ sc_f_law_rises rfl rfl fun f cdv A outer s H Ex hr =>
   pSs_one (pS_ret (pI_cmp (op_eqP hr.units) opS_eq (pI_lc (own := [("_law_k", 1)]) rfl sc_f_law_rises.nd (pIt_r1 (by rfl) T.n_range (pI_cons (pI_op op_sub opS_sub (pI_callB call_len callS_len (by rfl) T.n_len (by first | rfl | decide +kernel) (pI_cons (pI_var (i := 0) rfl (by first | exact Or.inl rfl | exact Or.inr (Or.inl rfl) | exact Or.inr (Or.inr rfl))) (pI_nil))) (pI_int)) (pI_nil))) (blkOk_by (N := N_f_law_rises) (sc := (defScope s_f_law_rises)) (by decide +kernel)) (fun _ _ _ _ _ => pG_name (i := 1) sc_f_law_rises.nd rfl (by first | exact Or.inl rfl | exact Or.inr rfl)) (fun _ _ _ _ _ => pTs_one (pT_cmp (OpR.or op_ge (op_geD hr.units)) opS_geA (pI_ix ix_seq opS_ix (pI_var (i := 0) rfl (by first | exact Or.inl rfl | exact Or.inr (Or.inl rfl) | exact Or.inr (Or.inr rfl))) (pI_var (i := 1) rfl (by first | exact Or.inl rfl | exact Or.inr (Or.inl rfl) | exact Or.inr (Or.inr rfl))) (fun _ _ => rfl)) (pI_ix ix_seq opS_ix (pI_var (i := 0) rfl (by first | exact Or.inl rfl | exact Or.inr (Or.inl rfl) | exact Or.inr (Or.inr rfl))) (pI_op op_addA opS_add (pI_var (i := 1) rfl (by first | exact Or.inl rfl | exact Or.inr (Or.inl rfl) | exact Or.inr (Or.inr rfl))) (pI_int)) (fun _ _ => rfl)) (nomark _))) (fun _ _ _ _ _ => pI_var (i := 1) rfl (by first | exact Or.inl rfl | exact Or.inr (Or.inl rfl) | exact Or.inr (Or.inr rfl))) (by decide)) (pI_lst (pI_nil)) (nomark _)))
theorem ok_is_word (T : Tx K w mg ca) (D_ : At K mg "is_word" "is_word" s_is_word ["thing"]) (O_is_name : Ok P w K mg base (gx K w ca) 1 "is_name" 1 F_is_name) : Ok P w K mg base (gx K w ca) 2 "is_word" 1 F_is_word :=
  ok_of D_ sc_is_word rfl rfl fun f cdv A outer s H Ex hr =>
   pSs_one (pS_ret (pI_and (pI_callB call_isi2 callS_isi (by rfl) T.n_isinstance (by first | rfl | decide +kernel) (pI_cons (pI_var (i := 0) rfl (by first | exact Or.inl rfl | exact Or.inr (Or.inl rfl) | exact Or.inr (Or.inr rfl))) (pI_cons (pI_ty (n := "str") (by rfl) T.n_str (by first | rfl | decide +kernel)) (pI_nil)))) (pI_one (pI_or (pI_cmp (op_eqP hr.units) opS_eq (pI_var (i := 0) rfl (by first | exact Or.inl rfl | exact Or.inr (Or.inl rfl) | exact Or.inr (Or.inr rfl))) (pI_str) (nomark _)) (pI_one (pI_callO O_is_name (hr.mono (by decide)) (by rfl) (pI_cons (pI_var (i := 0) rfl (by first | exact Or.inl rfl | exact Or.inr (Or.inl rfl) | exact Or.inr (Or.inr rfl))) (pI_nil))))))))
theorem ok_is_deed (T : Tx K w mg ca) (D_ : At K mg "is_deed" "is_deed" s_is_deed ["thing", "many"]) (O_is_count : Ok P w K mg base (gx K w ca) 1 "is_count" 3 F_is_count) : Ok P w K mg base (gx K w ca) 2 "is_deed" 2 F_is_deed :=
  ok_of D_ sc_is_deed rfl rfl fun f cdv A outer s H Ex hr =>
   pSs_cons (pS_if ((pW_or (pT_not (pT_val (pI_callB call_isi2 callS_isi (by rfl) T.n_isinstance (by first | rfl | decide +kernel) (pI_cons (pI_var (i := 0) rfl (by first | exact Or.inl rfl | exact Or.inr (Or.inl rfl) | exact Or.inr (Or.inr rfl))) (pI_cons (pI_ty (n := "tuple") (by rfl) T.n_tuple (by first | rfl | decide +kernel)) (pI_nil)))))) (pW_or (pT_cmp (op_eqP hr.units) opS_eq (pI_var (i := 0) rfl (by first | exact Or.inl rfl | exact Or.inr (Or.inl rfl) | exact Or.inr (Or.inr rfl))) (pI_tup (pI_nil)) (nomark _)) (pW_or1 (pT_not (pT_val (pI_callB call_isi2 callS_isi (by rfl) T.n_isinstance (by first | rfl | decide +kernel) (pI_cons (pI_ix ix_seq opS_ix (pI_var (i := 0) rfl (by first | exact Or.inl rfl | exact Or.inr (Or.inl rfl) | exact Or.inr (Or.inr rfl))) (pI_int) (fun _ _ => rfl)) (pI_cons (pI_ty (n := "str") (by rfl) T.n_str (by first | rfl | decide +kernel)) (pI_nil))))))))).pt) (pSs_one (pS_ret (pI_bl))) (pSs_nil))
    (pSs_cons (pS_if (pT_cmp (op_eqP hr.units) opS_eq (pI_ix ix_seq opS_ix (pI_var (i := 0) rfl (by first | exact Or.inl rfl | exact Or.inr (Or.inl rfl) | exact Or.inr (Or.inr rfl))) (pI_int) (fun _ _ => rfl)) (pI_str) (nomark _)) (pSs_one (pS_ret (pI_and (pI_cmp (op_eqP hr.units) opS_eq (pI_callB call_len callS_len (by rfl) T.n_len (by first | rfl | decide +kernel) (pI_cons (pI_var (i := 0) rfl (by first | exact Or.inl rfl | exact Or.inr (Or.inl rfl) | exact Or.inr (Or.inr rfl))) (pI_nil))) (pI_int) (nomark _)) (pI_one (pI_callO O_is_count (hr.mono (by decide)) (by rfl) (pI_cons (pI_ix ix_seq opS_ix (pI_var (i := 0) rfl (by first | exact Or.inl rfl | exact Or.inr (Or.inl rfl) | exact Or.inr (Or.inr rfl))) (pI_int) (fun _ _ => rfl)) (pI_cons (pI_int) (pI_cons (pI_op op_sub opS_sub (pI_var (i := 1) rfl (by first | exact Or.inl rfl | exact Or.inr (Or.inl rfl) | exact Or.inr (Or.inr rfl))) (pI_int)) (pI_nil))))))))) (pSs_nil))
    (pSs_cons (pS_if (pT_cmp (op_eqP hr.units) opS_eq (pI_ix ix_seq opS_ix (pI_var (i := 0) rfl (by first | exact Or.inl rfl | exact Or.inr (Or.inl rfl) | exact Or.inr (Or.inr rfl))) (pI_int) (fun _ _ => rfl)) (pI_str) (nomark _)) (pSs_one (pS_ret (pI_and (pI_cmp (op_eqP hr.units) opS_eq (pI_callB call_len callS_len (by rfl) T.n_len (by first | rfl | decide +kernel) (pI_cons (pI_var (i := 0) rfl (by first | exact Or.inl rfl | exact Or.inr (Or.inl rfl) | exact Or.inr (Or.inr rfl))) (pI_nil))) (pI_int) (nomark _)) (pI_one (pI_callO O_is_count (hr.mono (by decide)) (by rfl) (pI_cons (pI_ix ix_seq opS_ix (pI_var (i := 0) rfl (by first | exact Or.inl rfl | exact Or.inr (Or.inl rfl) | exact Or.inr (Or.inr rfl))) (pI_int) (fun _ _ => rfl)) (pI_cons (pI_int) (pI_cons (pI_op op_sub opS_sub (pI_gint (by rfl) T.c_MOST_RULES) (pI_int)) (pI_nil))))))))) (pSs_nil))
    (pSs_one (pS_ret (pI_cmp (op_eqP hr.units) opS_eq (pI_var (i := 0) rfl (by first | exact Or.inl rfl | exact Or.inr (Or.inl rfl) | exact Or.inr (Or.inr rfl))) (pI_tup (pI_cons (pI_str) (pI_nil))) (nomark _))))))
theorem ok_are_goes (T : Tx K w mg ca) (D_ : At K mg "are_goes" "are_goes" s_are_goes ["thing", "many"]) (O_are_pairs : Ok P w K mg base (gx K w ca) 1 "are_pairs" 1 F_are_pairs) (O_is_name : Ok P w K mg base (gx K w ca) 1 "is_name" 1 F_is_name) (O_is_count : Ok P w K mg base (gx K w ca) 1 "is_count" 3 F_is_count) : Ok P w K mg base (gx K w ca) 2 "are_goes" 2 F_are_goes :=
  ok_of D_ sc_are_goes rfl rfl fun f cdv A outer s H Ex hr =>
   pSs_cons (pS_if ((pW_or (pT_not (pT_val (pI_callO O_are_pairs (hr.mono (by decide)) (by rfl) (pI_cons (pI_var (i := 0) rfl (by first | exact Or.inl rfl | exact Or.inr (Or.inl rfl) | exact Or.inr (Or.inr rfl))) (pI_nil))))) (pW_or1 (pT_not (pT_val (pI_callB (cr_all rfl) callS_all (by rfl) T.n_all (by first | rfl | decide +kernel) (pI_cons (pI_lc (own := [("part", 3), ("state", 4)]) rfl sc_are_goes.nd (pIt_seq rfl (pI_var (i := 0) rfl (by first | exact Or.inl rfl | exact Or.inr (Or.inl rfl) | exact Or.inr (Or.inr rfl)))) (blkOk_by (N := N_are_goes) (sc := (defScope s_are_goes)) (by decide +kernel)) (fun _ _ _ _ _ => pG_un rfl rfl (pGs_cons (pG_name (i := 3) sc_are_goes.nd rfl (by first | exact Or.inl rfl | exact Or.inr rfl)) (pGs_cons (pG_name (i := 4) sc_are_goes.nd rfl (by first | exact Or.inl rfl | exact Or.inr rfl)) (pGs_nil))) rfl) (fun _ _ _ _ _ => pTs_nil) (fun _ _ _ _ _ => pI_and (pI_callO O_is_name (hr.mono (by decide)) (by rfl) (pI_cons (pI_var (i := 3) rfl (by first | exact Or.inl rfl | exact Or.inr (Or.inl rfl) | exact Or.inr (Or.inr rfl))) (pI_nil))) (pI_one (pI_callO O_is_count (hr.mono (by decide)) (by rfl) (pI_cons (pI_var (i := 4) rfl (by first | exact Or.inl rfl | exact Or.inr (Or.inl rfl) | exact Or.inr (Or.inr rfl))) (pI_cons (pI_int) (pI_cons (pI_op op_sub opS_sub (pI_var (i := 1) rfl (by first | exact Or.inl rfl | exact Or.inr (Or.inl rfl) | exact Or.inr (Or.inr rfl))) (pI_int)) (pI_nil))))))) (by decide)) (pI_nil))))))).pt) (pSs_one (pS_ret (pI_bl))) (pSs_nil))
    (pSs_cons (pS_setLc (i := 2) (own := [("part", 3), ("state", 4)]) rfl sc_are_goes.nd rfl rfl (sw_true rfl rfl rfl (by decide +kernel)) (pIt_seq rfl (pI_var (i := 0) rfl (by first | exact Or.inl rfl | exact Or.inr (Or.inl rfl) | exact Or.inr (Or.inr rfl)))) (blkOk_by (N := N_are_goes) (sc := (defScope s_are_goes)) (by decide +kernel)) (fun _ _ _ _ _ => pG_un rfl rfl (pGs_cons (pG_name (i := 3) sc_are_goes.nd rfl (by first | exact Or.inl rfl | exact Or.inr rfl)) (pGs_cons (pG_name (i := 4) sc_are_goes.nd rfl (by first | exact Or.inl rfl | exact Or.inr rfl)) (pGs_nil))) rfl) (fun _ _ _ _ _ => pTs_nil) (fun _ _ _ _ _ => pI_var (i := 3) rfl (by first | exact Or.inl rfl | exact Or.inr (Or.inl rfl) | exact Or.inr (Or.inr rfl))) (by decide))
    (pSs_one (pS_ret (pI_cmp (op_eqP hr.units) opS_eq (pI_sortSetT rfl rfl rfl hr.units rfl (by rfl) T.n_sorted (by rfl) T.n_set (pI_cons (pI_var (i := 2) rfl (by first | exact Or.inl rfl | exact Or.inr (Or.inl rfl) | exact Or.inr (Or.inr rfl))) (pI_nil))) (pI_var (i := 2) rfl (by first | exact Or.inl rfl | exact Or.inr (Or.inl rfl) | exact Or.inr (Or.inr rfl))) (nomark _)))))
theorem ok_f_law_number (T : Tx K w mg ca) (D_ : At K mg "_law_number" "_law_number" s_f_law_number ["_law_script", "_law_k"]) (O_f_law_cell : Ok P w K mg base (gx K w ca) 1 "_law_cell" 2 F_f_law_cell) (O_f_law_mixed : Ok P w K mg base (gx K w ca) 1 "_law_mixed" 2 F_f_law_mixed) : Ok P w K mg base (gx K w ca) 2 "_law_number" 2 F_f_law_number :=
  ok_of D_ sc_f_law_number rfl rfl fun f cdv A outer s H Ex hr =>
   pSs_cons (pS_set (i := 2) sc_f_law_number.nd rfl (by first | exact Or.inl rfl | exact Or.inr rfl) (pI_callO O_f_law_cell (hr.mono (by decide)) (by rfl) (pI_cons (pI_var (i := 0) rfl (by first | exact Or.inl rfl | exact Or.inr (Or.inl rfl) | exact Or.inr (Or.inr rfl))) (pI_cons (pI_var (i := 1) rfl (by first | exact Or.inl rfl | exact Or.inr (Or.inl rfl) | exact Or.inr (Or.inr rfl))) (pI_nil)))))
    (pSs_cons (pS_if (pT_cmp (OpR.or op_ge (op_geD hr.units)) opS_geA (pI_var (i := 2) rfl (by first | exact Or.inl rfl | exact Or.inr (Or.inl rfl) | exact Or.inr (Or.inr rfl))) (pI_op op_pow opS_pow (pI_int) (pI_int)) (nomark _)) (pSs_one (pS_ret (pI_op op_sub opS_sub (pI_var (i := 2) rfl (by first | exact Or.inl rfl | exact Or.inr (Or.inl rfl) | exact Or.inr (Or.inr rfl))) (pI_op op_pow opS_pow (pI_int) (pI_int))))) (pSs_nil))
    (pSs_one (pS_ret (pI_callO O_f_law_mixed (hr.mono (by decide)) (by rfl) (pI_cons (pI_var (i := 2) rfl (by first | exact Or.inl rfl | exact Or.inr (Or.inl rfl) | exact Or.inr (Or.inr rfl))) (pI_cons (pI_var (i := 1) rfl (by first | exact Or.inl rfl | exact Or.inr (Or.inl rfl) | exact Or.inr (Or.inr rfl))) (pI_nil)))))))
theorem ok_f_law_step (T : Tx K w mg ca) (D_ : At K mg "_law_step" "_law_step" s_f_law_step ["_law_digits", "_law_one"]) (O_f_law_take : Ok P w K mg base (gx K w ca) 1 "_law_take" 2 F_f_law_take) : Ok P w K mg base (gx K w ca) 2 "_law_step" 2 F_f_law_step :=
  ok_of D_ sc_f_law_step rfl rfl fun f cdv A outer s H Ex hr =>
   pSs_cons (pS_if (pT_val (pI_callB call_isi2 callS_isi (by rfl) T.n_isinstance (by first | rfl | decide +kernel) (pI_cons (pI_var (i := 1) rfl (by first | exact Or.inl rfl | exact Or.inr (Or.inl rfl) | exact Or.inr (Or.inr rfl))) (pI_cons (pI_ty (n := "str") (by rfl) T.n_str (by first | rfl | decide +kernel)) (pI_nil))))) (pSs_cons (pS_set (i := 2) sc_f_law_step.nd rfl (by first | exact Or.inl rfl | exact Or.inr rfl) (pI_callO O_f_law_take (hr.mono (by decide)) (by rfl) (pI_cons (pI_var (i := 0) rfl (by first | exact Or.inl rfl | exact Or.inr (Or.inl rfl) | exact Or.inr (Or.inr rfl))) (pI_cons (pI_op op_addA opS_add (pI_callB call_len callS_len (by rfl) T.n_len (by first | rfl | decide +kernel) (pI_cons (pI_var (i := 1) rfl (by first | exact Or.inl rfl | exact Or.inr (Or.inl rfl) | exact Or.inr (Or.inr rfl))) (pI_nil))) (pI_int)) (pI_nil)))))
    (pSs_cons (pS_set (i := 3) sc_f_law_step.nd rfl (by first | exact Or.inl rfl | exact Or.inr rfl) (pI_ix ix_seq opS_ix (pI_str) (pI_callO O_f_law_take (hr.mono (by decide)) (by rfl) (pI_cons (pI_var (i := 0) rfl (by first | exact Or.inl rfl | exact Or.inr (Or.inl rfl) | exact Or.inr (Or.inr rfl))) (pI_cons (pI_int) (pI_nil)))) (fun _ _ => rfl)))
    (pSs_cons (pS_set (i := 4) sc_f_law_step.nd rfl (by first | exact Or.inl rfl | exact Or.inr rfl) (pI_lst (pI_cons (pI_op op_addA opS_add (pI_op op_addA opS_add (pI_slice (pI_var (i := 1) rfl (by first | exact Or.inl rfl | exact Or.inr (Or.inl rfl) | exact Or.inr (Or.inr rfl))) (pO_none) (pO_some (pI_var (i := 2) rfl (by first | exact Or.inl rfl | exact Or.inr (Or.inl rfl) | exact Or.inr (Or.inr rfl)))) rfl) (pI_var (i := 3) rfl (by first | exact Or.inl rfl | exact Or.inr (Or.inl rfl) | exact Or.inr (Or.inr rfl)))) (pI_slice (pI_var (i := 1) rfl (by first | exact Or.inl rfl | exact Or.inr (Or.inl rfl) | exact Or.inr (Or.inr rfl))) (pO_some (pI_op op_addA opS_add (pI_var (i := 2) rfl (by first | exact Or.inl rfl | exact Or.inr (Or.inl rfl) | exact Or.inr (Or.inr rfl))) (pI_int))) (pO_none) rfl)) (pI_cons (pI_op op_addA opS_add (pI_op op_addA opS_add (pI_slice (pI_var (i := 1) rfl (by first | exact Or.inl rfl | exact Or.inr (Or.inl rfl) | exact Or.inr (Or.inr rfl))) (pO_none) (pO_some (pI_var (i := 2) rfl (by first | exact Or.inl rfl | exact Or.inr (Or.inl rfl) | exact Or.inr (Or.inr rfl)))) rfl) (pI_var (i := 3) rfl (by first | exact Or.inl rfl | exact Or.inr (Or.inl rfl) | exact Or.inr (Or.inr rfl)))) (pI_slice (pI_var (i := 1) rfl (by first | exact Or.inl rfl | exact Or.inr (Or.inl rfl) | exact Or.inr (Or.inr rfl))) (pO_some (pI_var (i := 2) rfl (by first | exact Or.inl rfl | exact Or.inr (Or.inl rfl) | exact Or.inr (Or.inr rfl)))) (pO_none) rfl)) (pI_cons (pI_op op_addA opS_add (pI_slice (pI_var (i := 1) rfl (by first | exact Or.inl rfl | exact Or.inr (Or.inl rfl) | exact Or.inr (Or.inr rfl))) (pO_none) (pO_some (pI_var (i := 2) rfl (by first | exact Or.inl rfl | exact Or.inr (Or.inl rfl) | exact Or.inr (Or.inr rfl)))) rfl) (pI_slice (pI_var (i := 1) rfl (by first | exact Or.inl rfl | exact Or.inr (Or.inl rfl) | exact Or.inr (Or.inr rfl))) (pO_some (pI_op op_addA opS_add (pI_var (i := 2) rfl (by first | exact Or.inl rfl | exact Or.inr (Or.inl rfl) | exact Or.inr (Or.inr rfl))) (pI_int))) (pO_none) rfl)) (pI_nil))))))
    (pSs_one (pS_ret (pI_ix ix_seq opS_ix (pI_op op_addA opS_add (pI_var (i := 4) rfl (by first | exact Or.inl rfl | exact Or.inr (Or.inl rfl) | exact Or.inr (Or.inr rfl))) (pI_lst (pI_cons (pI_str) (pI_cons (pI_op op_addA opS_add (pI_var (i := 1) rfl (by first | exact Or.inl rfl | exact Or.inr (Or.inl rfl) | exact Or.inr (Or.inr rfl))) (pI_str)) (pI_cons (pI_bm0 rfl PySem.F.plainAttrs_str PySem.F.slot_str_upper PySem.F.type_str_upper mt_upper mtS_upper (pI_var (i := 1) rfl (by first | exact Or.inl rfl | exact Or.inr (Or.inl rfl) | exact Or.inr (Or.inr rfl)))) (pI_cons (pI_tup (pI_cons (pI_var (i := 1) rfl (by first | exact Or.inl rfl | exact Or.inr (Or.inl rfl) | exact Or.inr (Or.inr rfl))) (pI_nil))) (pI_cons (pI_non) (pI_nil)))))))) (pI_callO O_f_law_take (hr.mono (by decide)) (by rfl) (pI_cons (pI_var (i := 0) rfl (by first | exact Or.inl rfl | exact Or.inr (Or.inl rfl) | exact Or.inr (Or.inr rfl))) (pI_cons (pI_int) (pI_nil)))) (fun _ _ => rfl))))))) (pSs_nil))
    (pSs_cons (pS_if (pT_val (pI_callB call_isi2 callS_isi (by rfl) T.n_isinstance (by first | rfl | decide +kernel) (pI_cons (pI_var (i := 1) rfl (by first | exact Or.inl rfl | exact Or.inr (Or.inl rfl) | exact Or.inr (Or.inr rfl))) (pI_cons (pI_ty (n := "int") (by rfl) T.n_int (by first | rfl | decide +kernel)) (pI_nil))))) (pSs_cons (pS_set (i := 4) sc_f_law_step.nd rfl (by first | exact Or.inl rfl | exact Or.inr rfl) (pI_lst (pI_cons (pI_op op_addA opS_add (pI_var (i := 1) rfl (by first | exact Or.inl rfl | exact Or.inr (Or.inl rfl) | exact Or.inr (Or.inr rfl))) (pI_int)) (pI_cons (pI_op op_sub opS_sub (pI_var (i := 1) rfl (by first | exact Or.inl rfl | exact Or.inr (Or.inl rfl) | exact Or.inr (Or.inr rfl))) (pI_int)) (pI_cons (pI_un un_neg unS_neg (pI_int)) (pI_cons (pI_int) (pI_cons (pI_int) (pI_cons (pI_int) (pI_cons (pI_int) (pI_cons (pI_int) (pI_cons (pI_int) (pI_cons (pI_int) (pI_cons (pI_callTy call_str_int callS_strI (by rfl) T.n_str (by first | rfl | decide +kernel) (pI_cons (pI_var (i := 1) rfl (by first | exact Or.inl rfl | exact Or.inr (Or.inl rfl) | exact Or.inr (Or.inr rfl))) (pI_nil))) (pI_cons (pI_cmp (op_eqP hr.units) opS_eq (pI_var (i := 1) rfl (by first | exact Or.inl rfl | exact Or.inr (Or.inl rfl) | exact Or.inr (Or.inr rfl))) (pI_int) (nomark _)) (pI_cons (pI_non) (pI_cons (pI_tup (pI_cons (pI_var (i := 1) rfl (by first | exact Or.inl rfl | exact Or.inr (Or.inl rfl) | exact Or.inr (Or.inr rfl))) (pI_nil))) (pI_nil)))))))))))))))))
    (pSs_one (pS_ret (pI_ix ix_seq opS_ix (pI_var (i := 4) rfl (by first | exact Or.inl rfl | exact Or.inr (Or.inl rfl) | exact Or.inr (Or.inr rfl))) (pI_callO O_f_law_take (hr.mono (by decide)) (by rfl) (pI_cons (pI_var (i := 0) rfl (by first | exact Or.inl rfl | exact Or.inr (Or.inl rfl) | exact Or.inr (Or.inr rfl))) (pI_cons (pI_int) (pI_nil)))) (fun _ _ => rfl))))) (pSs_nil))
    (pSs_cons (pS_set (i := 2) sc_f_law_step.nd rfl (by first | exact Or.inl rfl | exact Or.inr rfl) (pI_callO O_f_law_take (hr.mono (by decide)) (by rfl) (pI_cons (pI_var (i := 0) rfl (by first | exact Or.inl rfl | exact Or.inr (Or.inl rfl) | exact Or.inr (Or.inr rfl))) (pI_cons (pI_callB (call_max2 rfl) callS_max (by rfl) T.n_max (by decide +kernel) (pI_cons (pI_int) (pI_cons (pI_callB call_len callS_len (by rfl) T.n_len (by first | rfl | decide +kernel) (pI_cons (pI_var (i := 1) rfl (by first | exact Or.inl rfl | exact Or.inr (Or.inl rfl) | exact Or.inr (Or.inr rfl))) (pI_nil))) (pI_nil)))) (pI_nil)))))
    (pSs_cons (pS_set (i := 4) sc_f_law_step.nd rfl (by first | exact Or.inl rfl | exact Or.inr rfl) (pI_lst (pI_cons (pI_op op_addA opS_add (pI_slice (pI_var (i := 1) rfl (by first | exact Or.inl rfl | exact Or.inr (Or.inl rfl) | exact Or.inr (Or.inr rfl))) (pO_none) (pO_some (pI_var (i := 2) rfl (by first | exact Or.inl rfl | exact Or.inr (Or.inl rfl) | exact Or.inr (Or.inr rfl)))) rfl) (pI_slice (pI_var (i := 1) rfl (by first | exact Or.inl rfl | exact Or.inr (Or.inl rfl) | exact Or.inr (Or.inr rfl))) (pO_some (pI_op op_addA opS_add (pI_var (i := 2) rfl (by first | exact Or.inl rfl | exact Or.inr (Or.inl rfl) | exact Or.inr (Or.inr rfl))) (pI_int))) (pO_none) rfl)) (pI_cons (pI_op op_addA opS_add (pI_slice (pI_var (i := 1) rfl (by first | exact Or.inl rfl | exact Or.inr (Or.inl rfl) | exact Or.inr (Or.inr rfl))) (pO_none) (pO_some (pI_op op_addA opS_add (pI_var (i := 2) rfl (by first | exact Or.inl rfl | exact Or.inr (Or.inl rfl) | exact Or.inr (Or.inr rfl))) (pI_int))) rfl) (pI_slice (pI_var (i := 1) rfl (by first | exact Or.inl rfl | exact Or.inr (Or.inl rfl) | exact Or.inr (Or.inr rfl))) (pO_some (pI_var (i := 2) rfl (by first | exact Or.inl rfl | exact Or.inr (Or.inl rfl) | exact Or.inr (Or.inr rfl)))) (pO_none) rfl)) (pI_cons (pI_op op_addA opS_add (pI_slice (pI_var (i := 1) rfl (by first | exact Or.inl rfl | exact Or.inr (Or.inl rfl) | exact Or.inr (Or.inr rfl))) (pO_none) (pO_some (pI_var (i := 2) rfl (by first | exact Or.inl rfl | exact Or.inr (Or.inl rfl) | exact Or.inr (Or.inr rfl)))) rfl) (pI_revA rfl (pI_slice (pI_var (i := 1) rfl (by first | exact Or.inl rfl | exact Or.inr (Or.inl rfl) | exact Or.inr (Or.inr rfl))) (pO_some (pI_var (i := 2) rfl (by first | exact Or.inl rfl | exact Or.inr (Or.inl rfl) | exact Or.inr (Or.inr rfl)))) (pO_none) rfl))) (pI_cons (pI_revA rfl (pI_var (i := 1) rfl (by first | exact Or.inl rfl | exact Or.inr (Or.inl rfl) | exact Or.inr (Or.inr rfl)))) (pI_nil)))))))
    (pSs_one (pS_ret (pI_ix ix_seq opS_ix (pI_op op_addA opS_add (pI_var (i := 4) rfl (by first | exact Or.inl rfl | exact Or.inr (Or.inl rfl) | exact Or.inr (Or.inr rfl))) (pI_lst (pI_cons (pI_callTy call_list_of callS_list (by rfl) T.n_list (by first | rfl | decide +kernel) (pI_cons (pI_var (i := 1) rfl (by first | exact Or.inl rfl | exact Or.inr (Or.inl rfl) | exact Or.inr (Or.inr rfl))) (pI_nil))) (pI_cons (pI_tup (pI_cons (pI_var (i := 1) rfl (by first | exact Or.inl rfl | exact Or.inr (Or.inl rfl) | exact Or.inr (Or.inr rfl))) (pI_nil))) (pI_cons (pI_tup (pI_nil)) (pI_cons (pI_non) (pI_nil))))))) (pI_callO O_f_law_take (hr.mono (by decide)) (by rfl) (pI_cons (pI_var (i := 0) rfl (by first | exact Or.inl rfl | exact Or.inr (Or.inl rfl) | exact Or.inr (Or.inr rfl))) (pI_cons (pI_int) (pI_nil)))) (fun _ _ => rfl)))))))
theorem ok_f_law_is_deed (T : Tx K w mg ca) (D_ : At K mg "_law_is_deed" "_law_is_deed" s_f_law_is_deed ["_law_word", "_law_deed", "_law_many"]) (O_f_law_is_number : Ok P w K mg base (gx K w ca) 1 "_law_is_number" 3 F_f_law_is_number) : Ok P w K mg base (gx K w ca) 2 "_law_is_deed" 3 F_f_law_is_deed :=
  ok_of D_ sc_f_law_is_deed rfl rfl fun f cdv A outer s H Ex hr =>
   pSs_cons (pS_if ((pW_or (pT_not (pT_val (pI_callB call_isi2 callS_isi (by rfl) T.n_isinstance (by first | rfl | decide +kernel) (pI_cons (pI_var (i := 1) rfl (by first | exact Or.inl rfl | exact Or.inr (Or.inl rfl) | exact Or.inr (Or.inr rfl))) (pI_cons (pI_ty (n := "tuple") (by rfl) T.n_tuple (by first | rfl | decide +kernel)) (pI_nil)))))) (pW_or1 (pT_cmp (op_neP hr.units) opS_eq (pI_callB call_len callS_len (by rfl) T.n_len (by first | rfl | decide +kernel) (pI_cons (pI_var (i := 1) rfl (by first | exact Or.inl rfl | exact Or.inr (Or.inl rfl) | exact Or.inr (Or.inr rfl))) (pI_nil))) (pI_int) (nomark _)))).pt) (pSs_one (pS_ret (pI_cmp (op_eqP hr.units) opS_eq (pI_var (i := 1) rfl (by first | exact Or.inl rfl | exact Or.inr (Or.inl rfl) | exact Or.inr (Or.inr rfl))) (pI_tup (pI_cons (pI_str) (pI_nil))) (nomark _)))) (pSs_nil))
    (pSs_cons (pS_if (pT_cmp (op_eqP hr.units) opS_eq (pI_ix ix_seq opS_ix (pI_var (i := 1) rfl (by first | exact Or.inl rfl | exact Or.inr (Or.inl rfl) | exact Or.inr (Or.inr rfl))) (pI_int) (fun _ _ => rfl)) (pI_str) (nomark _)) (pSs_one (pS_ret (pI_and (pI_cmp (op_neP hr.units) opS_eq (pI_var (i := 0) rfl (by first | exact Or.inl rfl | exact Or.inr (Or.inl rfl) | exact Or.inr (Or.inr rfl))) (pI_str) (nomark _)) (pI_one (pI_callO O_f_law_is_number (hr.mono (by decide)) (by rfl) (pI_cons (pI_ix ix_seq opS_ix (pI_var (i := 1) rfl (by first | exact Or.inl rfl | exact Or.inr (Or.inl rfl) | exact Or.inr (Or.inr rfl))) (pI_int) (fun _ _ => rfl)) (pI_cons (pI_int) (pI_cons (pI_op op_sub opS_sub (pI_var (i := 2) rfl (by first | exact Or.inl rfl | exact Or.inr (Or.inl rfl) | exact Or.inr (Or.inr rfl))) (pI_int)) (pI_nil))))))))) (pSs_nil))
    (pSs_one (pS_ret (pI_and (pI_cmp (op_eqP hr.units) opS_eq (pI_ix ix_seq opS_ix (pI_var (i := 1) rfl (by first | exact Or.inl rfl | exact Or.inr (Or.inl rfl) | exact Or.inr (Or.inr rfl))) (pI_int) (fun _ _ => rfl)) (pI_str) (nomark _)) (pI_one (pI_callO O_f_law_is_number (hr.mono (by decide)) (by rfl) (pI_cons (pI_ix ix_seq opS_ix (pI_var (i := 1) rfl (by first | exact Or.inl rfl | exact Or.inr (Or.inl rfl) | exact Or.inr (Or.inr rfl))) (pI_int) (fun _ _ => rfl)) (pI_cons (pI_int) (pI_cons (pI_int) (pI_nil))))))))))
theorem ok_f_law_is_note (T : Tx K w mg ca) (D_ : At K mg "_law_is_note" "_law_is_note" s_f_law_is_note ["_law_note"]) (O_f_law_is_number : Ok P w K mg base (gx K w ca) 1 "_law_is_number" 3 F_f_law_is_number) (O_f_law_is_word : Ok P w K mg base (gx K w ca) 1 "_law_is_word" 1 F_f_law_is_word) : Ok P w K mg base (gx K w ca) 2 "_law_is_note" 1 F_f_law_is_note :=
  ok_of D_ sc_f_law_is_note rfl rfl fun f cdv A outer s H Ex hr =>
   pSs_cons (pS_un rfl rfl (pI_var (i := 0) rfl (by first | exact Or.inl rfl | exact Or.inr (Or.inl rfl) | exact Or.inr (Or.inr rfl))) (pGs_cons (pG_name (i := 1) sc_f_law_is_note.nd rfl (by first | exact Or.inl rfl | exact Or.inr rfl)) (pGs_cons (pG_name (i := 2) sc_f_law_is_note.nd rfl (by first | exact Or.inl rfl | exact Or.inr rfl)) (pGs_cons (pG_name (i := 3) sc_f_law_is_note.nd rfl (by first | exact Or.inl rfl | exact Or.inr rfl)) (pGs_nil)))) rfl)
    (pSs_cons (pS_if ((pW_or (pT_not (pT_val (pI_callO O_f_law_is_number (hr.mono (by decide)) (by rfl) (pI_cons (pI_var (i := 1) rfl (by first | exact Or.inl rfl | exact Or.inr (Or.inl rfl) | exact Or.inr (Or.inr rfl))) (pI_cons (pI_un un_neg unS_neg (pI_int)) (pI_cons (pI_int) (pI_nil))))))) (pW_or1 (pT_not (pT_val (pI_callO O_f_law_is_word (hr.mono (by decide)) (by rfl) (pI_cons (pI_var (i := 3) rfl (by first | exact Or.inl rfl | exact Or.inr (Or.inl rfl) | exact Or.inr (Or.inr rfl))) (pI_nil))))))).pt) (pSs_one (pS_ret (pI_bl))) (pSs_nil))
    (pSs_one (pS_ret (pI_and (pI_callO O_f_law_is_number (hr.mono (by decide)) (by rfl) (pI_cons (pI_var (i := 2) rfl (by first | exact Or.inl rfl | exact Or.inr (Or.inl rfl) | exact Or.inr (Or.inr rfl))) (pI_cons (pI_int) (pI_cons (pI_ix ix_seq opS_ix (pI_lst (pI_cons (pI_int) (pI_cons (pI_int) (pI_nil)))) (pI_callTy call_int1 callS_int1 (by rfl) T.n_int (by first | rfl | decide +kernel) (pI_cons (pI_cmp (op_eqP hr.units) opS_eq (pI_var (i := 1) rfl (by first | exact Or.inl rfl | exact Or.inr (Or.inl rfl) | exact Or.inr (Or.inr rfl))) (pI_un un_neg unS_neg (pI_int)) (nomark _)) (pI_nil))) (fun _ _ => rfl)) (pI_nil))))) (pI_one (pI_or (pI_cmp op_gt opS_cmp (pI_var (i := 1) rfl (by first | exact Or.inl rfl | exact Or.inr (Or.inl rfl) | exact Or.inr (Or.inr rfl))) (pI_un un_neg unS_neg (pI_int)) (nomark _)) (pI_one (pI_cmp (op_eqP hr.units) opS_eq (pI_var (i := 3) rfl (by first | exact Or.inl rfl | exact Or.inr (Or.inl rfl) | exact Or.inr (Or.inr rfl))) (pI_str) (nomark _)))))))))
theorem ok_are_deeds (T : Tx K w mg ca) (D_ : At K mg "are_deeds" "are_deeds" s_are_deeds ["thing", "many"]) (O_are_pairs : Ok P w K mg base (gx K w ca) 1 "are_pairs" 1 F_are_pairs) (O_is_word : Ok P w K mg base (gx K w ca) 2 "is_word" 1 F_is_word) (O_is_deed : Ok P w K mg base (gx K w ca) 2 "is_deed" 2 F_is_deed) : Ok P w K mg base (gx K w ca) 3 "are_deeds" 2 F_are_deeds :=
  ok_of D_ sc_are_deeds rfl rfl fun f cdv A outer s H Ex hr =>
   pSs_cons (pS_if ((pW_or (pT_not (pT_val (pI_callO O_are_pairs (hr.mono (by decide)) (by rfl) (pI_cons (pI_var (i := 0) rfl (by first | exact Or.inl rfl | exact Or.inr (Or.inl rfl) | exact Or.inr (Or.inr rfl))) (pI_nil))))) (pW_or1 (pT_not (pT_val (pI_callB (cr_all rfl) callS_all (by rfl) T.n_all (by first | rfl | decide +kernel) (pI_cons (pI_lc (own := [("word", 3), ("deed", 4)]) rfl sc_are_deeds.nd (pIt_seq rfl (pI_var (i := 0) rfl (by first | exact Or.inl rfl | exact Or.inr (Or.inl rfl) | exact Or.inr (Or.inr rfl)))) (blkOk_by (N := N_are_deeds) (sc := (defScope s_are_deeds)) (by decide +kernel)) (fun _ _ _ _ _ => pG_un rfl rfl (pGs_cons (pG_name (i := 3) sc_are_deeds.nd rfl (by first | exact Or.inl rfl | exact Or.inr rfl)) (pGs_cons (pG_name (i := 4) sc_are_deeds.nd rfl (by first | exact Or.inl rfl | exact Or.inr rfl)) (pGs_nil))) rfl) (fun _ _ _ _ _ => pTs_nil) (fun _ _ _ _ _ => pI_and (pI_callO O_is_word (hr.mono (by decide)) (by rfl) (pI_cons (pI_var (i := 3) rfl (by first | exact Or.inl rfl | exact Or.inr (Or.inl rfl) | exact Or.inr (Or.inr rfl))) (pI_nil))) (pI_one (pI_callO O_is_deed (hr.mono (by decide)) (by rfl) (pI_cons (pI_var (i := 4) rfl (by first | exact Or.inl rfl | exact Or.inr (Or.inl rfl) | exact Or.inr (Or.inr rfl))) (pI_cons (pI_var (i := 1) rfl (by first | exact Or.inl rfl | exact Or.inr (Or.inl rfl) | exact Or.inr (Or.inr rfl))) (pI_nil)))))) (by decide)) (pI_nil))))))).pt) (pSs_one (pS_ret (pI_bl))) (pSs_nil))
    (pSs_cons (pS_setLc (i := 2) (own := [("word", 3), ("deed", 4)]) rfl sc_are_deeds.nd rfl rfl (sw_true rfl rfl rfl (by decide +kernel)) (pIt_seq rfl (pI_var (i := 0) rfl (by first | exact Or.inl rfl | exact Or.inr (Or.inl rfl) | exact Or.inr (Or.inr rfl)))) (blkOk_by (N := N_are_deeds) (sc := (defScope s_are_deeds)) (by decide +kernel)) (fun _ _ _ _ _ => pG_un rfl rfl (pGs_cons (pG_name (i := 3) sc_are_deeds.nd rfl (by first | exact Or.inl rfl | exact Or.inr rfl)) (pGs_cons (pG_name (i := 4) sc_are_deeds.nd rfl (by first | exact Or.inl rfl | exact Or.inr rfl)) (pGs_nil))) rfl) (fun _ _ _ _ _ => pTs_nil) (fun _ _ _ _ _ => pI_var (i := 3) rfl (by first | exact Or.inl rfl | exact Or.inr (Or.inl rfl) | exact Or.inr (Or.inr rfl))) (by decide))
    (pSs_one (pS_ret (pI_and (pI_not (pI_callB (cr_any rfl) callS_any (by rfl) T.n_any (by first | rfl | decide +kernel) (pI_cons (pI_lc (own := [("word", 3), ("deed", 4)]) rfl sc_are_deeds.nd (pIt_seq rfl (pI_var (i := 0) rfl (by first | exact Or.inl rfl | exact Or.inr (Or.inl rfl) | exact Or.inr (Or.inr rfl)))) (blkOk_by (N := N_are_deeds) (sc := (defScope s_are_deeds)) (by decide +kernel)) (fun _ _ _ _ _ => pG_un rfl rfl (pGs_cons (pG_name (i := 3) sc_are_deeds.nd rfl (by first | exact Or.inl rfl | exact Or.inr rfl)) (pGs_cons (pG_name (i := 4) sc_are_deeds.nd rfl (by first | exact Or.inl rfl | exact Or.inr rfl)) (pGs_nil))) rfl) (fun _ _ _ _ _ => pTs_nil) (fun _ _ _ _ _ => pI_and (pI_cmp (op_eqP hr.units) opS_eq (pI_ix ix_seq opS_ix (pI_var (i := 4) rfl (by first | exact Or.inl rfl | exact Or.inr (Or.inl rfl) | exact Or.inr (Or.inr rfl))) (pI_int) (fun _ _ => rfl)) (pI_str) (nomark _)) (pI_one (pI_cmp (op_eqP hr.units) opS_eq (pI_var (i := 3) rfl (by first | exact Or.inl rfl | exact Or.inr (Or.inl rfl) | exact Or.inr (Or.inr rfl))) (pI_str) (nomark _)))) (by decide)) (pI_nil)))) (pI_one (pI_cmp (op_eqP hr.units) opS_eq (pI_sortSetT rfl rfl rfl hr.units rfl (by rfl) T.n_sorted (by rfl) T.n_set (pI_cons (pI_var (i := 2) rfl (by first | exact Or.inl rfl | exact Or.inr (Or.inl rfl) | exact Or.inr (Or.inr rfl))) (pI_nil))) (pI_var (i := 2) rfl (by first | exact Or.inl rfl | exact Or.inr (Or.inl rfl) | exact Or.inr (Or.inr rfl))) (nomark _)))))))
theorem ok_is_note (T : Tx K w mg ca) (D_ : At K mg "is_note" "is_note" s_is_note ["thing"]) (O_is_count : Ok P w K mg base (gx K w ca) 1 "is_count" 3 F_is_count) (O_is_word : Ok P w K mg base (gx K w ca) 2 "is_word" 1 F_is_word) : Ok P w K mg base (gx K w ca) 3 "is_note" 1 F_is_note :=
  ok_of D_ sc_is_note rfl rfl fun f cdv A outer s H Ex hr =>
   pSs_cons (pS_if ((pW_or (pT_not (pT_val (pI_callB call_isi2 callS_isi (by rfl) T.n_isinstance (by first | rfl | decide +kernel) (pI_cons (pI_var (i := 0) rfl (by first | exact Or.inl rfl | exact Or.inr (Or.inl rfl) | exact Or.inr (Or.inr rfl))) (pI_cons (pI_ty (n := "tuple") (by rfl) T.n_tuple (by first | rfl | decide +kernel)) (pI_nil)))))) (pW_or (pT_cmp (op_neP hr.units) opS_eq (pI_callB call_len callS_len (by rfl) T.n_len (by first | rfl | decide +kernel) (pI_cons (pI_var (i := 0) rfl (by first | exact Or.inl rfl | exact Or.inr (Or.inl rfl) | exact Or.inr (Or.inr rfl))) (pI_nil))) (pI_int) (nomark _)) (pW_or1 (pT_not (pT_val (pI_callO O_is_count (hr.mono (by decide)) (by rfl) (pI_cons (pI_ix ix_seq opS_ix (pI_var (i := 0) rfl (by first | exact Or.inl rfl | exact Or.inr (Or.inl rfl) | exact Or.inr (Or.inr rfl))) (pI_int) (fun _ _ => rfl)) (pI_cons (pI_un un_neg unS_neg (pI_int)) (pI_cons (pI_op op_sub opS_sub (pI_gint (by rfl) T.c_MOST_RULES) (pI_int)) (pI_nil)))))))))).pt) (pSs_one (pS_ret (pI_bl))) (pSs_nil))
    (pSs_cons (pS_if (pT_cmp (op_eqP hr.units) opS_eq (pI_ix ix_seq opS_ix (pI_var (i := 0) rfl (by first | exact Or.inl rfl | exact Or.inr (Or.inl rfl) | exact Or.inr (Or.inr rfl))) (pI_int) (fun _ _ => rfl)) (pI_un un_neg unS_neg (pI_int)) (nomark _)) (pSs_one (pS_ret (pI_and (pI_callO O_is_count (hr.mono (by decide)) (by rfl) (pI_cons (pI_ix ix_seq opS_ix (pI_var (i := 0) rfl (by first | exact Or.inl rfl | exact Or.inr (Or.inl rfl) | exact Or.inr (Or.inr rfl))) (pI_int) (fun _ _ => rfl)) (pI_cons (pI_int) (pI_cons (pI_int) (pI_nil))))) (pI_and (pI_cmp (op_eqP hr.units) opS_eq (pI_ix ix_seq opS_ix (pI_var (i := 0) rfl (by first | exact Or.inl rfl | exact Or.inr (Or.inl rfl) | exact Or.inr (Or.inr rfl))) (pI_int) (fun _ _ => rfl)) (pI_str) (nomark _)) (pI_one (pI_callB call_isi2 callS_isi (by rfl) T.n_isinstance (by first | rfl | decide +kernel) (pI_cons (pI_ix ix_seq opS_ix (pI_var (i := 0) rfl (by first | exact Or.inl rfl | exact Or.inr (Or.inl rfl) | exact Or.inr (Or.inr rfl))) (pI_int) (fun _ _ => rfl)) (pI_cons (pI_ty (n := "str") (by rfl) T.n_str (by first | rfl | decide +kernel)) (pI_nil))))))))) (pSs_nil))
    (pSs_one (pS_ret (pI_and (pI_callO O_is_count (hr.mono (by decide)) (by rfl) (pI_cons (pI_ix ix_seq opS_ix (pI_var (i := 0) rfl (by first | exact Or.inl rfl | exact Or.inr (Or.inl rfl) | exact Or.inr (Or.inr rfl))) (pI_int) (fun _ _ => rfl)) (pI_cons (pI_int) (pI_cons (pI_gint (by rfl) T.c_MOST_DOT) (pI_nil))))) (pI_one (pI_callO O_is_word (hr.mono (by decide)) (by rfl) (pI_cons (pI_ix ix_seq opS_ix (pI_var (i := 0) rfl (by first | exact Or.inl rfl | exact Or.inr (Or.inl rfl) | exact Or.inr (Or.inr rfl))) (pI_int) (fun _ _ => rfl)) (pI_nil))))))))
theorem ok_f_law_is_state (T : Tx K w mg ca) (D_ : At K mg "_law_is_state" "_law_is_state" s_f_law_is_state ["_law_thing", "_law_many"]) (O_f_law_is_word : Ok P w K mg base (gx K w ca) 1 "_law_is_word" 1 F_f_law_is_word) (O_f_law_is_deed : Ok P w K mg base (gx K w ca) 2 "_law_is_deed" 3 F_f_law_is_deed) (O_f_law_is_number : Ok P w K mg base (gx K w ca) 1 "_law_is_number" 3 F_f_law_is_number) (O_f_law_is_note : Ok P w K mg base (gx K w ca) 2 "_law_is_note" 1 F_f_law_is_note) (O_f_law_rises : Ok P w K mg base (gx K w ca) 1 "_law_rises" 1 F_f_law_rises) : Ok P w K mg base (gx K w ca) 3 "_law_is_state" 2 F_f_law_is_state :=
  ok_of D_ sc_f_law_is_state rfl rfl fun f cdv A outer s H Ex hr =>
   pSs_cons (pS_if ((pW_or (pT_not (pT_val (pI_callB call_isi2 callS_isi (by rfl) T.n_isinstance (by first | rfl | decide +kernel) (pI_cons (pI_var (i := 0) rfl (by first | exact Or.inl rfl | exact Or.inr (Or.inl rfl) | exact Or.inr (Or.inr rfl))) (pI_cons (pI_ty (n := "tuple") (by rfl) T.n_tuple (by first | rfl | decide +kernel)) (pI_nil)))))) (pW_or1 (pT_cmp (op_neP hr.units) opS_eq (pI_callB call_len callS_len (by rfl) T.n_len (by first | rfl | decide +kernel) (pI_cons (pI_var (i := 0) rfl (by first | exact Or.inl rfl | exact Or.inr (Or.inl rfl) | exact Or.inr (Or.inr rfl))) (pI_nil))) (pI_int) (nomark _)))).pt) (pSs_one (pS_ret (pI_bl))) (pSs_nil))
    (pSs_cons (pS_if (pT_cmp (op_neP hr.units) opS_eq (pI_lc (own := [("_law_one", 5)]) rfl sc_f_law_is_state.nd (pIt_seq rfl (pI_var (i := 0) rfl (by first | exact Or.inl rfl | exact Or.inr (Or.inl rfl) | exact Or.inr (Or.inr rfl)))) (blkOk_by (N := N_f_law_is_state) (sc := (defScope s_f_law_is_state)) (by decide +kernel)) (fun _ _ _ _ _ => pG_name (i := 5) sc_f_law_is_state.nd rfl (by first | exact Or.inl rfl | exact Or.inr rfl)) (fun _ _ _ _ _ => pTs_one (pT_not (pT_val (pI_callB call_isi2 callS_isi (by rfl) T.n_isinstance (by first | rfl | decide +kernel) (pI_cons (pI_var (i := 5) rfl (by first | exact Or.inl rfl | exact Or.inr (Or.inl rfl) | exact Or.inr (Or.inr rfl))) (pI_cons (pI_ty (n := "tuple") (by rfl) T.n_tuple (by first | rfl | decide +kernel)) (pI_nil))))))) (fun _ _ _ _ _ => pI_var (i := 5) rfl (by first | exact Or.inl rfl | exact Or.inr (Or.inl rfl) | exact Or.inr (Or.inr rfl))) (by decide)) (pI_lst (pI_nil)) (nomark _)) (pSs_one (pS_ret (pI_bl))) (pSs_nil))
    (pSs_cons (pS_un rfl rfl (pI_var (i := 0) rfl (by first | exact Or.inl rfl | exact Or.inr (Or.inl rfl) | exact Or.inr (Or.inr rfl))) (pGs_cons (pG_name (i := 2) sc_f_law_is_state.nd rfl (by first | exact Or.inl rfl | exact Or.inr rfl)) (pGs_cons (pG_name (i := 3) sc_f_law_is_state.nd rfl (by first | exact Or.inl rfl | exact Or.inr rfl)) (pGs_cons (pG_name (i := 4) sc_f_law_is_state.nd rfl (by first | exact Or.inl rfl | exact Or.inr rfl)) (pGs_nil)))) rfl)
    (pSs_cons (pS_if (pT_cmp (op_neP hr.units) opS_eq (pI_lc (own := [("_law_one", 5)]) rfl sc_f_law_is_state.nd (pIt_seq rfl (pI_op op_addA opS_add (pI_op op_addA opS_add (pI_var (i := 2) rfl (by first | exact Or.inl rfl | exact Or.inr (Or.inl rfl) | exact Or.inr (Or.inr rfl))) (pI_var (i := 3) rfl (by first | exact Or.inl rfl | exact Or.inr (Or.inl rfl) | exact Or.inr (Or.inr rfl)))) (pI_var (i := 4) rfl (by first | exact Or.inl rfl | exact Or.inr (Or.inl rfl) | exact Or.inr (Or.inr rfl))))) (blkOk_by (N := N_f_law_is_state) (sc := (defScope s_f_law_is_state)) (by decide +kernel)) (fun _ _ _ _ _ => pG_name (i := 5) sc_f_law_is_state.nd rfl (by first | exact Or.inl rfl | exact Or.inr rfl)) (fun _ _ _ _ _ => pTs_one (pT_not (pT_val (pI_callB call_isi2 callS_isi (by rfl) T.n_isinstance (by first | rfl | decide +kernel) (pI_cons (pI_var (i := 5) rfl (by first | exact Or.inl rfl | exact Or.inr (Or.inl rfl) | exact Or.inr (Or.inr rfl))) (pI_cons (pI_ty (n := "tuple") (by rfl) T.n_tuple (by first | rfl | decide +kernel)) (pI_nil))))))) (fun _ _ _ _ _ => pI_var (i := 5) rfl (by first | exact Or.inl rfl | exact Or.inr (Or.inl rfl) | exact Or.inr (Or.inr rfl))) (by decide)) (pI_lst (pI_nil)) (nomark _)) (pSs_one (pS_ret (pI_bl))) (pSs_nil))
    (pSs_cons (pS_if (pT_cmp (op_neP hr.units) opS_eq (pI_lc (own := [("_law_one", 5)]) rfl sc_f_law_is_state.nd (pIt_seq rfl (pI_op op_addA opS_add (pI_var (i := 2) rfl (by first | exact Or.inl rfl | exact Or.inr (Or.inl rfl) | exact Or.inr (Or.inr rfl))) (pI_var (i := 3) rfl (by first | exact Or.inl rfl | exact Or.inr (Or.inl rfl) | exact Or.inr (Or.inr rfl))))) (blkOk_by (N := N_f_law_is_state) (sc := (defScope s_f_law_is_state)) (by decide +kernel)) (fun _ _ _ _ _ => pG_name (i := 5) sc_f_law_is_state.nd rfl (by first | exact Or.inl rfl | exact Or.inr rfl)) (fun _ _ _ _ _ => pTs_one ((pW_or (pT_cmp (op_neP hr.units) opS_eq (pI_callB call_len callS_len (by rfl) T.n_len (by first | rfl | decide +kernel) (pI_cons (pI_var (i := 5) rfl (by first | exact Or.inl rfl | exact Or.inr (Or.inl rfl) | exact Or.inr (Or.inr rfl))) (pI_nil))) (pI_int) (nomark _)) (pW_or1 (pT_not (pT_val (pI_callO O_f_law_is_word (hr.mono (by decide)) (by rfl) (pI_cons (pI_ix ix_seq opS_ix (pI_var (i := 5) rfl (by first | exact Or.inl rfl | exact Or.inr (Or.inl rfl) | exact Or.inr (Or.inr rfl))) (pI_int) (fun _ _ => rfl)) (pI_nil))))))).pt)) (fun _ _ _ _ _ => pI_var (i := 5) rfl (by first | exact Or.inl rfl | exact Or.inr (Or.inl rfl) | exact Or.inr (Or.inr rfl))) (by decide)) (pI_lst (pI_nil)) (nomark _)) (pSs_one (pS_ret (pI_bl))) (pSs_nil))
    (pSs_cons (pS_if (pT_cmp (op_neP hr.units) opS_eq (pI_lc (own := [("_law_one", 5)]) rfl sc_f_law_is_state.nd (pIt_seq rfl (pI_var (i := 2) rfl (by first | exact Or.inl rfl | exact Or.inr (Or.inl rfl) | exact Or.inr (Or.inr rfl)))) (blkOk_by (N := N_f_law_is_state) (sc := (defScope s_f_law_is_state)) (by decide +kernel)) (fun _ _ _ _ _ => pG_name (i := 5) sc_f_law_is_state.nd rfl (by first | exact Or.inl rfl | exact Or.inr rfl)) (fun _ _ _ _ _ => pTs_one (pT_not (pT_val (pI_callO O_f_law_is_deed (hr.mono (by decide)) (by rfl) (pI_cons (pI_ix ix_seq opS_ix (pI_var (i := 5) rfl (by first | exact Or.inl rfl | exact Or.inr (Or.inl rfl) | exact Or.inr (Or.inr rfl))) (pI_int) (fun _ _ => rfl)) (pI_cons (pI_ix ix_seq opS_ix (pI_var (i := 5) rfl (by first | exact Or.inl rfl | exact Or.inr (Or.inl rfl) | exact Or.inr (Or.inr rfl))) (pI_int) (fun _ _ => rfl)) (pI_cons (pI_var (i := 1) rfl (by first | exact Or.inl rfl | exact Or.inr (Or.inl rfl) | exact Or.inr (Or.inr rfl))) (pI_nil)))))))) (fun _ _ _ _ _ => pI_var (i := 5) rfl (by first | exact Or.inl rfl | exact Or.inr (Or.inl rfl) | exact Or.inr (Or.inr rfl))) (by decide)) (pI_lst (pI_nil)) (nomark _)) (pSs_one (pS_ret (pI_bl))) (pSs_nil))
    (pSs_cons (pS_if (pT_cmp (op_neP hr.units) opS_eq (pI_lc (own := [("_law_one", 5)]) rfl sc_f_law_is_state.nd (pIt_seq rfl (pI_var (i := 3) rfl (by first | exact Or.inl rfl | exact Or.inr (Or.inl rfl) | exact Or.inr (Or.inr rfl)))) (blkOk_by (N := N_f_law_is_state) (sc := (defScope s_f_law_is_state)) (by decide +kernel)) (fun _ _ _ _ _ => pG_name (i := 5) sc_f_law_is_state.nd rfl (by first | exact Or.inl rfl | exact Or.inr rfl)) (fun _ _ _ _ _ => pTs_one ((pW_or (pT_cmp (op_eqP hr.units) opS_eq (pI_ix ix_seq opS_ix (pI_var (i := 5) rfl (by first | exact Or.inl rfl | exact Or.inr (Or.inl rfl) | exact Or.inr (Or.inr rfl))) (pI_int) (fun _ _ => rfl)) (pI_str) (nomark _)) (pW_or1 (pT_not (pT_val (pI_callO O_f_law_is_number (hr.mono (by decide)) (by rfl) (pI_cons (pI_ix ix_seq opS_ix (pI_var (i := 5) rfl (by first | exact Or.inl rfl | exact Or.inr (Or.inl rfl) | exact Or.inr (Or.inr rfl))) (pI_int) (fun _ _ => rfl)) (pI_cons (pI_int) (pI_cons (pI_op op_sub opS_sub (pI_var (i := 1) rfl (by first | exact Or.inl rfl | exact Or.inr (Or.inl rfl) | exact Or.inr (Or.inr rfl))) (pI_int)) (pI_nil))))))))).pt)) (fun _ _ _ _ _ => pI_var (i := 5) rfl (by first | exact Or.inl rfl | exact Or.inr (Or.inl rfl) | exact Or.inr (Or.inr rfl))) (by decide)) (pI_lst (pI_nil)) (nomark _)) (pSs_one (pS_ret (pI_bl))) (pSs_nil))
    (pSs_cons (pS_if (pT_cmp (op_neP hr.units) opS_eq (pI_lc (own := [("_law_note", 6)]) rfl sc_f_law_is_state.nd (pIt_seq rfl (pI_var (i := 4) rfl (by first | exact Or.inl rfl | exact Or.inr (Or.inl rfl) | exact Or.inr (Or.inr rfl)))) (blkOk_by (N := N_f_law_is_state) (sc := (defScope s_f_law_is_state)) (by decide +kernel)) (fun _ _ _ _ _ => pG_name (i := 6) sc_f_law_is_state.nd rfl (by first | exact Or.inl rfl | exact Or.inr rfl)) (fun _ _ _ _ _ => pTs_one ((pW_or (pT_cmp (op_neP hr.units) opS_eq (pI_callB call_len callS_len (by rfl) T.n_len (by first | rfl | decide +kernel) (pI_cons (pI_var (i := 6) rfl (by first | exact Or.inl rfl | exact Or.inr (Or.inl rfl) | exact Or.inr (Or.inr rfl))) (pI_nil))) (pI_int) (nomark _)) (pW_or1 (pT_not (pT_val (pI_callO O_f_law_is_note (hr.mono (by decide)) (by rfl) (pI_cons (pI_var (i := 6) rfl (by first | exact Or.inl rfl | exact Or.inr (Or.inl rfl) | exact Or.inr (Or.inr rfl))) (pI_nil))))))).pt)) (fun _ _ _ _ _ => pI_var (i := 6) rfl (by first | exact Or.inl rfl | exact Or.inr (Or.inl rfl) | exact Or.inr (Or.inr rfl))) (by decide)) (pI_lst (pI_nil)) (nomark _)) (pSs_one (pS_ret (pI_bl))) (pSs_nil))
    (pSs_cons (pS_if ((pW_or (pT_not (pT_val (pI_callO O_f_law_rises (hr.mono (by decide)) (by rfl) (pI_cons (pI_lc (own := [("_law_one", 5)]) rfl sc_f_law_is_state.nd (pIt_seq rfl (pI_var (i := 2) rfl (by first | exact Or.inl rfl | exact Or.inr (Or.inl rfl) | exact Or.inr (Or.inr rfl)))) (blkOk_by (N := N_f_law_is_state) (sc := (defScope s_f_law_is_state)) (by decide +kernel)) (fun _ _ _ _ _ => pG_name (i := 5) sc_f_law_is_state.nd rfl (by first | exact Or.inl rfl | exact Or.inr rfl)) (fun _ _ _ _ _ => pTs_nil) (fun _ _ _ _ _ => pI_ix ix_seq opS_ix (pI_var (i := 5) rfl (by first | exact Or.inl rfl | exact Or.inr (Or.inl rfl) | exact Or.inr (Or.inr rfl))) (pI_int) (fun _ _ => rfl)) (by decide)) (pI_nil))))) (pW_or1 (pT_not (pT_val (pI_callO O_f_law_rises (hr.mono (by decide)) (by rfl) (pI_cons (pI_lc (own := [("_law_one", 5)]) rfl sc_f_law_is_state.nd (pIt_seq rfl (pI_var (i := 3) rfl (by first | exact Or.inl rfl | exact Or.inr (Or.inl rfl) | exact Or.inr (Or.inr rfl)))) (blkOk_by (N := N_f_law_is_state) (sc := (defScope s_f_law_is_state)) (by decide +kernel)) (fun _ _ _ _ _ => pG_name (i := 5) sc_f_law_is_state.nd rfl (by first | exact Or.inl rfl | exact Or.inr rfl)) (fun _ _ _ _ _ => pTs_nil) (fun _ _ _ _ _ => pI_ix ix_seq opS_ix (pI_var (i := 5) rfl (by first | exact Or.inl rfl | exact Or.inr (Or.inl rfl) | exact Or.inr (Or.inr rfl))) (pI_int) (fun _ _ => rfl)) (by decide)) (pI_nil))))))).pt) (pSs_one (pS_ret (pI_bl))) (pSs_nil))
    (pSs_one (pS_ret (pI_callO O_f_law_rises (hr.mono (by decide)) (by rfl) (pI_cons (pI_var (i := 4) rfl (by first | exact Or.inl rfl | exact Or.inr (Or.inl rfl) | exact Or.inr (Or.inr rfl))) (pI_nil)))))))))))))
theorem ok_are_notes (T : Tx K w mg ca) (D_ : At K mg "are_notes" "are_notes" s_are_notes ["thing"]) (O_is_note : Ok P w K mg base (gx K w ca) 3 "is_note" 1 F_is_note) : Ok P w K mg base (gx K w ca) 4 "are_notes" 1 F_are_notes :=
  ok_of D_ sc_are_notes rfl rfl fun f cdv A outer s H Ex hr =>
   pSs_cons (pS_if ((pW_or (pT_not (pT_val (pI_callB call_isi2 callS_isi (by rfl) T.n_isinstance (by first | rfl | decide +kernel) (pI_cons (pI_var (i := 0) rfl (by first | exact Or.inl rfl | exact Or.inr (Or.inl rfl) | exact Or.inr (Or.inr rfl))) (pI_cons (pI_ty (n := "tuple") (by rfl) T.n_tuple (by first | rfl | decide +kernel)) (pI_nil)))))) (pW_or1 (pT_not (pT_val (pI_callB (cr_all rfl) callS_all (by rfl) T.n_all (by first | rfl | decide +kernel) (pI_cons (pI_lc (own := [("note", 1)]) rfl sc_are_notes.nd (pIt_seq rfl (pI_var (i := 0) rfl (by first | exact Or.inl rfl | exact Or.inr (Or.inl rfl) | exact Or.inr (Or.inr rfl)))) (blkOk_by (N := N_are_notes) (sc := (defScope s_are_notes)) (by decide +kernel)) (fun _ _ _ _ _ => pG_name (i := 1) sc_are_notes.nd rfl (by first | exact Or.inl rfl | exact Or.inr rfl)) (fun _ _ _ _ _ => pTs_nil) (fun _ _ _ _ _ => pI_callO O_is_note (hr.mono (by decide)) (by rfl) (pI_cons (pI_var (i := 1) rfl (by first | exact Or.inl rfl | exact Or.inr (Or.inl rfl) | exact Or.inr (Or.inr rfl))) (pI_nil))) (by decide)) (pI_nil))))))).pt) (pSs_one (pS_ret (pI_bl))) (pSs_nil))
    (pSs_one (pS_ret (pI_cmp (op_eqP hr.units) opS_eq (pI_sortSetT rfl rfl rfl hr.units rfl (by rfl) T.n_sorted (by rfl) T.n_set (pI_cons (pI_var (i := 0) rfl (by first | exact Or.inl rfl | exact Or.inr (Or.inl rfl) | exact Or.inr (Or.inr rfl))) (pI_nil))) (pI_callTy call_list_of callS_list (by rfl) T.n_list (by first | rfl | decide +kernel) (pI_cons (pI_var (i := 0) rfl (by first | exact Or.inl rfl | exact Or.inr (Or.inl rfl) | exact Or.inr (Or.inr rfl))) (pI_nil))) (nomark _))))
theorem ok_f_law_is_table (T : Tx K w mg ca) (D_ : At K mg "_law_is_table" "_law_is_table" s_f_law_is_table ["_law_thing"]) (O_f_law_is_state : Ok P w K mg base (gx K w ca) 3 "_law_is_state" 2 F_f_law_is_state) : Ok P w K mg base (gx K w ca) 4 "_law_is_table" 1 F_f_law_is_table :=
  ok_of D_ sc_f_law_is_table rfl rfl fun f cdv A outer s H Ex hr =>
   pSs_cons (pS_if ((pW_or (pT_not (pT_val (pI_callB call_isi2 callS_isi (by rfl) T.n_isinstance (by first | rfl | decide +kernel) (pI_cons (pI_var (i := 0) rfl (by first | exact Or.inl rfl | exact Or.inr (Or.inl rfl) | exact Or.inr (Or.inr rfl))) (pI_cons (pI_tup (pI_cons (pI_ty (n := "list") (by rfl) T.n_list (by first | rfl | decide +kernel)) (pI_cons (pI_ty (n := "tuple") (by rfl) T.n_tuple (by first | rfl | decide +kernel)) (pI_nil)))) (pI_nil)))))) (pW_or1 (pT_not (pT_chain op_lt opS_cmp op_lt opS_cmp (pI_int) (pI_callB call_len callS_len (by rfl) T.n_len (by first | rfl | decide +kernel) (pI_cons (pI_var (i := 0) rfl (by first | exact Or.inl rfl | exact Or.inr (Or.inl rfl) | exact Or.inr (Or.inr rfl))) (pI_nil))) (pI_int))))).pt) (pSs_one (pS_ret (pI_bl))) (pSs_nil))
    (pSs_one (pS_ret (pI_cmp (op_eqP hr.units) opS_eq (pI_lc (own := [("_law_one", 1)]) rfl sc_f_law_is_table.nd (pIt_seq rfl (pI_var (i := 0) rfl (by first | exact Or.inl rfl | exact Or.inr (Or.inl rfl) | exact Or.inr (Or.inr rfl)))) (blkOk_by (N := N_f_law_is_table) (sc := (defScope s_f_law_is_table)) (by decide +kernel)) (fun _ _ _ _ _ => pG_name (i := 1) sc_f_law_is_table.nd rfl (by first | exact Or.inl rfl | exact Or.inr rfl)) (fun _ _ _ _ _ => pTs_one (pT_not (pT_val (pI_callO O_f_law_is_state (hr.mono (by decide)) (by rfl) (pI_cons (pI_var (i := 1) rfl (by first | exact Or.inl rfl | exact Or.inr (Or.inl rfl) | exact Or.inr (Or.inr rfl))) (pI_cons (pI_callB call_len callS_len (by rfl) T.n_len (by first | rfl | decide +kernel) (pI_cons (pI_var (i := 0) rfl (by first | exact Or.inl rfl | exact Or.inr (Or.inl rfl) | exact Or.inr (Or.inr rfl))) (pI_nil))) (pI_nil))))))) (fun _ _ _ _ _ => pI_var (i := 1) rfl (by first | exact Or.inl rfl | exact Or.inr (Or.inl rfl) | exact Or.inr (Or.inr rfl))) (by decide)) (pI_lst (pI_nil)) (nomark _))))
theorem ok_is_state (T : Tx K w mg ca) (D_ : At K mg "is_state" "is_state" s_is_state ["thing", "many"]) (O_are_deeds : Ok P w K mg base (gx K w ca) 3 "are_deeds" 2 F_are_deeds) (O_are_goes : Ok P w K mg base (gx K w ca) 2 "are_goes" 2 F_are_goes) (O_are_notes : Ok P w K mg base (gx K w ca) 4 "are_notes" 1 F_are_notes) : Ok P w K mg base (gx K w ca) 5 "is_state" 2 F_is_state :=
  ok_of D_ sc_is_state rfl rfl fun f cdv A outer s H Ex hr =>
   pSs_cons (pS_if ((pW_or (pT_not (pT_val (pI_callB call_isi2 callS_isi (by rfl) T.n_isinstance (by first | rfl | decide +kernel) (pI_cons (pI_var (i := 0) rfl (by first | exact Or.inl rfl | exact Or.inr (Or.inl rfl) | exact Or.inr (Or.inr rfl))) (pI_cons (pI_ty (n := "tuple") (by rfl) T.n_tuple (by first | rfl | decide +kernel)) (pI_nil)))))) (pW_or1 (pT_cmp (op_neP hr.units) opS_eq (pI_callB call_len callS_len (by rfl) T.n_len (by first | rfl | decide +kernel) (pI_cons (pI_var (i := 0) rfl (by first | exact Or.inl rfl | exact Or.inr (Or.inl rfl) | exact Or.inr (Or.inr rfl))) (pI_nil))) (pI_int) (nomark _)))).pt) (pSs_one (pS_ret (pI_bl))) (pSs_nil))
    (pSs_one (pS_ret (pI_and (pI_callO O_are_deeds (hr.mono (by decide)) (by rfl) (pI_cons (pI_ix ix_seq opS_ix (pI_var (i := 0) rfl (by first | exact Or.inl rfl | exact Or.inr (Or.inl rfl) | exact Or.inr (Or.inr rfl))) (pI_int) (fun _ _ => rfl)) (pI_cons (pI_var (i := 1) rfl (by first | exact Or.inl rfl | exact Or.inr (Or.inl rfl) | exact Or.inr (Or.inr rfl))) (pI_nil)))) (pI_and (pI_callO O_are_goes (hr.mono (by decide)) (by rfl) (pI_cons (pI_ix ix_seq opS_ix (pI_var (i := 0) rfl (by first | exact Or.inl rfl | exact Or.inr (Or.inl rfl) | exact Or.inr (Or.inr rfl))) (pI_int) (fun _ _ => rfl)) (pI_cons (pI_var (i := 1) rfl (by first | exact Or.inl rfl | exact Or.inr (Or.inl rfl) | exact Or.inr (Or.inr rfl))) (pI_nil)))) (pI_one (pI_callO O_are_notes (hr.mono (by decide)) (by rfl) (pI_cons (pI_ix ix_seq opS_ix (pI_var (i := 0) rfl (by first | exact Or.inl rfl | exact Or.inr (Or.inl rfl) | exact Or.inr (Or.inr rfl))) (pI_int) (fun _ _ => rfl)) (pI_nil))))))))
theorem ok_Table_init (T : Tx K w mg ca) {f : Addr} {fd : FuncData} (F_ : Fun K "__init__" "Table.__init__" s_Table_init f fd) (b_ : Binds K fd ["self", "states"] []) (M_ : Mk K ca.Table f) (O_is_state : Ok P w K mg base (gx K w ca) 5 "is_state" 2 F_is_state) : OkMk P w K mg base (gx K w ca) 6 "Table" "Table" 1 F_Table_init :=
  ⟨ca.Table, f, fd, _, M_, fnX_ok F_ sc_Table_init rfl fun cdv A outer s H Ex hr =>
   pSs_cons (pS_if ((pW_or (pT_not (pT_val (pI_callB call_isi2 callS_isi (by rfl) T.n_isinstance (by first | rfl | decide +kernel) (pI_cons (pI_var (i := 1) rfl (by first | exact Or.inl rfl | exact Or.inr (Or.inl rfl) | exact Or.inr (Or.inr rfl))) (pI_cons (pI_tup (pI_cons (pI_ty (n := "list") (by rfl) T.n_list (by first | rfl | decide +kernel)) (pI_cons (pI_ty (n := "tuple") (by rfl) T.n_tuple (by first | rfl | decide +kernel)) (pI_nil)))) (pI_nil)))))) (pW_or1 (pT_not (pT_chain op_le opS_cmp op_le opS_cmp (pI_int) (pI_callB call_len callS_len (by rfl) T.n_len (by first | rfl | decide +kernel) (pI_cons (pI_var (i := 1) rfl (by first | exact Or.inl rfl | exact Or.inr (Or.inl rfl) | exact Or.inr (Or.inr rfl))) (pI_nil))) (pI_gint (by rfl) T.c_MOST_STATES))))).pt) (pSs_one (pS_raise rfl (takes_of rfl rfl rfl rfl) (cm_NoTable (ca := ca)) PySem.F.excBase_ValueError T.e_NoTable.x T.g_NoTable T.e_NoTable.k (raises_own T.e_NoTable.b T.e_NoTable.t) (by rfl))) (pSs_nil))
    (pSs_cons (pS_if (pT_not (pT_val (pI_callB (cr_all rfl) callS_all (by rfl) T.n_all (by first | rfl | decide +kernel) (pI_cons (pI_lc (own := [("state", 2)]) rfl sc_Table_init.nd (pIt_seq rfl (pI_var (i := 1) rfl (by first | exact Or.inl rfl | exact Or.inr (Or.inl rfl) | exact Or.inr (Or.inr rfl)))) (blkOk_by (N := N_Table_init) (sc := (defScope s_Table_init)) (by decide +kernel)) (fun _ _ _ _ _ => pG_name (i := 2) sc_Table_init.nd rfl (by first | exact Or.inl rfl | exact Or.inr rfl)) (fun _ _ _ _ _ => pTs_nil) (fun _ _ _ _ _ => pI_callO O_is_state (hr.mono (by decide)) (by rfl) (pI_cons (pI_var (i := 2) rfl (by first | exact Or.inl rfl | exact Or.inr (Or.inl rfl) | exact Or.inr (Or.inr rfl))) (pI_cons (pI_callB call_len callS_len (by rfl) T.n_len (by first | rfl | decide +kernel) (pI_cons (pI_var (i := 1) rfl (by first | exact Or.inl rfl | exact Or.inr (Or.inl rfl) | exact Or.inr (Or.inr rfl))) (pI_nil))) (pI_nil)))) (by decide)) (pI_nil))))) (pSs_one (pS_raise rfl (takes_of rfl rfl rfl rfl) (cm_NoTable (ca := ca)) PySem.F.excBase_ValueError T.e_NoTable.x T.g_NoTable T.e_NoTable.k (raises_own T.e_NoTable.b T.e_NoTable.t) (by rfl))) (pSs_nil))
    (pSs_one (pS_fldSet (pI_var (i := 0) rfl (by first | exact Or.inl rfl | exact Or.inr (Or.inl rfl) | exact Or.inr (Or.inr rfl))) (pI_callTy call_tuple_of callS_tuple (by rfl) T.n_tuple (by first | rfl | decide +kernel) (pI_cons (pI_var (i := 1) rfl (by first | exact Or.inl rfl | exact Or.inr (Or.inl rfl) | exact Or.inr (Or.inr rfl))) (pI_nil))) rfl T.fl_states))), b_, T.g_Table, cm_Table⟩
theorem ok_f_law_refused (T : Tx K w mg ca) (D_ : At K mg "_law_refused" "_law_refused" s_f_law_refused ["_law_thing"]) (O_Table_init : OkMk P w K mg base (gx K w ca) 6 "Table" "Table" 1 F_Table_init) (O_f_law_alone : Ok P w K mg base (gx K w ca) 1 "_law_alone" 1 F_f_law_alone) : Ok P w K mg base (gx K w ca) 8 "_law_refused" 1 F_f_law_refused :=
  ok_of D_ sc_f_law_refused rfl rfl fun f cdv A outer s H Ex hr =>
   pSs_cons (pS_set (i := 1) sc_f_law_refused.nd rfl (by first | exact Or.inl rfl | exact Or.inr rfl) (pI_non))
    (pSs_cons (pS_try (i := 2) rfl rfl sc_f_law_refused.nd rfl rfl ⟨by rfl, by decide, .inl T.g_ReadError⟩ takes0 rfl T.hits_ReadError (fun W pn xe tk hp => pSs_one (pS_expr (pI_make O_Table_init (hr.mono (by decide)) tk (by rfl) (pI_cons (pI_var (i := 0) rfl (by first | exact Or.inl rfl | exact Or.inr (Or.inl rfl) | exact Or.inr (Or.inr rfl))) (pI_nil))))) (fun a pn => pSs_one (pS_set (i := 1) sc_f_law_refused.nd rfl (by first | exact Or.inl rfl | exact Or.inr rfl) (pI_var (i := 2) rfl (by first | exact Or.inl rfl | exact Or.inr (Or.inl rfl) | exact Or.inr (Or.inr rfl))))))
    (pSs_one (pS_ret (pI_callO O_f_law_alone (hr.mono (by decide)) (by rfl) (pI_cons (pI_var (i := 1) rfl (by first | exact Or.inl rfl | exact Or.inr (Or.inl rfl) | exact Or.inr (Or.inr rfl))) (pI_nil))))))
theorem ok_f_law_spots (T : Tx K w mg ca) (D_ : At K mg "_law_spots" "_law_spots" s_f_law_spots ["_law_thing"])  : ∀ n : Nat, Ok P w K mg base (gx K w ca) (0 + n) "_law_spots" 1 (F_f_law_spots n)
  | 0 => ok_stuck D_ rfl
  | n + 1 => by
   have O_rec := ok_f_law_spots T D_  n
   exact ok_of D_ sc_f_law_spots rfl rfl fun f cdv A outer s H Ex hr =>
   pSs_cons (pS_set (i := 1) sc_f_law_spots.nd rfl (by first | exact Or.inl rfl | exact Or.inr rfl) (pI_lst (pI_cons (pI_tup (pI_nil)) (pI_nil))))
    (pSs_cons (pS_if (pT_val (pI_callB call_isi2 callS_isi (by rfl) T.n_isinstance (by first | rfl | decide +kernel) (pI_cons (pI_var (i := 0) rfl (by first | exact Or.inl rfl | exact Or.inr (Or.inl rfl) | exact Or.inr (Or.inr rfl))) (pI_cons (pI_ty (n := "tuple") (by rfl) T.n_tuple (by first | rfl | decide +kernel)) (pI_nil))))) (pSs_one (pS_for PassesOwn.never rfl (pIt_enumA rfl (by rfl) T.n_enumerate (pI_cons (pI_var (i := 0) rfl (by first | exact Or.inl rfl | exact Or.inr (Or.inl rfl) | exact Or.inr (Or.inr rfl))) (pI_nil))) (pG_un rfl rfl (pGs_cons (pG_name (i := 2) sc_f_law_spots.nd rfl (by first | exact Or.inl rfl | exact Or.inr rfl)) (pGs_cons (pG_name (i := 3) sc_f_law_spots.nd rfl (by first | exact Or.inl rfl | exact Or.inr rfl)) (pGs_nil))) rfl) (pSs_one (pS_set (i := 1) sc_f_law_spots.nd rfl (by first | exact Or.inl rfl | exact Or.inr rfl) (pI_op op_addA opS_add (pI_var (i := 1) rfl (by first | exact Or.inl rfl | exact Or.inr (Or.inl rfl) | exact Or.inr (Or.inr rfl))) (pI_lc (own := [("_law_way", 4)]) rfl sc_f_law_spots.nd (pIt_seq rfl (pI_callO O_rec (hr.mono (Nat.le_refl _)) (by rfl) (pI_cons (pI_var (i := 3) rfl (by first | exact Or.inl rfl | exact Or.inr (Or.inl rfl) | exact Or.inr (Or.inr rfl))) (pI_nil)))) (blkOk_by (N := N_f_law_spots) (sc := (defScope s_f_law_spots)) (by decide +kernel)) (fun _ _ _ _ _ => pG_name (i := 4) sc_f_law_spots.nd rfl (by first | exact Or.inl rfl | exact Or.inr rfl)) (fun _ _ _ _ _ => pTs_nil) (fun _ _ _ _ _ => pI_op op_addA opS_add (pI_tup (pI_cons (pI_var (i := 2) rfl (by first | exact Or.inl rfl | exact Or.inr (Or.inl rfl) | exact Or.inr (Or.inr rfl))) (pI_nil))) (pI_var (i := 4) rfl (by first | exact Or.inl rfl | exact Or.inr (Or.inl rfl) | exact Or.inr (Or.inr rfl)))) (by decide))))))) (pSs_nil))
    (pSs_one (pS_ret (pI_var (i := 1) rfl (by first | exact Or.inl rfl | exact Or.inr (Or.inl rfl) | exact Or.inr (Or.inr rfl))))))
theorem ok_f_law_with (T : Tx K w mg ca) (D_ : At K mg "_law_with" "_law_with" s_f_law_with ["_law_thing", "_law_way", "_law_other"])  : ∀ n : Nat, Ok P w K mg base (gx K w ca) (0 + n) "_law_with" 3 (F_f_law_with n)
  | 0 => ok_stuck D_ rfl
  | n + 1 => by
   have O_rec := ok_f_law_with T D_  n
   exact ok_of D_ sc_f_law_with rfl rfl fun f cdv A outer s H Ex hr =>
   pSs_cons (pS_if (pT_cmp (op_eqP hr.units) opS_eq (pI_var (i := 1) rfl (by first | exact Or.inl rfl | exact Or.inr (Or.inl rfl) | exact Or.inr (Or.inr rfl))) (pI_tup (pI_nil)) (nomark _)) (pSs_one (pS_ret (pI_var (i := 2) rfl (by first | exact Or.inl rfl | exact Or.inr (Or.inl rfl) | exact Or.inr (Or.inr rfl))))) (pSs_nil))
    (pSs_cons (pS_set (i := 3) sc_f_law_with.nd rfl (by first | exact Or.inl rfl | exact Or.inr rfl) (pI_ix ix_seq opS_ix (pI_var (i := 1) rfl (by first | exact Or.inl rfl | exact Or.inr (Or.inl rfl) | exact Or.inr (Or.inr rfl))) (pI_int) (fun _ _ => rfl)))
    (pSs_one (pS_ret (pI_op op_addA opS_add (pI_op op_addA opS_add (pI_slice (pI_var (i := 0) rfl (by first | exact Or.inl rfl | exact Or.inr (Or.inl rfl) | exact Or.inr (Or.inr rfl))) (pO_none) (pO_some (pI_var (i := 3) rfl (by first | exact Or.inl rfl | exact Or.inr (Or.inl rfl) | exact Or.inr (Or.inr rfl)))) rfl) (pI_tup (pI_cons (pI_callO O_rec (hr.mono (Nat.le_refl _)) (by rfl) (pI_cons (pI_ix ix_seq opS_ix (pI_var (i := 0) rfl (by first | exact Or.inl rfl | exact Or.inr (Or.inl rfl) | exact Or.inr (Or.inr rfl))) (pI_var (i := 3) rfl (by first | exact Or.inl rfl | exact Or.inr (Or.inl rfl) | exact Or.inr (Or.inr rfl))) (fun _ _ => rfl)) (pI_cons (pI_slice (pI_var (i := 1) rfl (by first | exact Or.inl rfl | exact Or.inr (Or.inl rfl) | exact Or.inr (Or.inr rfl))) (pO_some (pI_int)) (pO_none) rfl) (pI_cons (pI_var (i := 2) rfl (by first | exact Or.inl rfl | exact Or.inr (Or.inl rfl) | exact Or.inr (Or.inr rfl))) (pI_nil))))) (pI_nil)))) (pI_slice (pI_var (i := 0) rfl (by first | exact Or.inl rfl | exact Or.inr (Or.inl rfl) | exact Or.inr (Or.inr rfl))) (pO_some (pI_op op_addA opS_add (pI_var (i := 3) rfl (by first | exact Or.inl rfl | exact Or.inr (Or.inl rfl) | exact Or.inr (Or.inr rfl))) (pI_int))) (pO_none) rfl)))))
theorem ok_f_law_spoilt (T : Tx K w mg ca) (D_ : At K mg "_law_spoilt" "_law_spoilt" s_f_law_spoilt ["_law_digits", "_law_thing"]) (O_f_law_spots : Ok P w K mg base (gx K w ca) 8 "_law_spots" 1 (F_f_law_spots 8)) (O_f_law_take : Ok P w K mg base (gx K w ca) 1 "_law_take" 2 F_f_law_take) (O_f_law_with : Ok P w K mg base (gx K w ca) 8 "_law_with" 3 (F_f_law_with 8)) (O_f_law_step : Ok P w K mg base (gx K w ca) 2 "_law_step" 2 F_f_law_step) : Ok P w K mg base (gx K w ca) 9 "_law_spoilt" 2 F_f_law_spoilt :=
  ok_of D_ sc_f_law_spoilt rfl rfl fun f cdv A outer s H Ex hr =>
   pSs_cons (pS_set (i := 2) sc_f_law_spoilt.nd rfl (by first | exact Or.inl rfl | exact Or.inr rfl) (pI_callO O_f_law_spots (hr.mono (by decide)) (by rfl) (pI_cons (pI_var (i := 1) rfl (by first | exact Or.inl rfl | exact Or.inr (Or.inl rfl) | exact Or.inr (Or.inr rfl))) (pI_nil))))
    (pSs_cons (pS_set (i := 3) sc_f_law_spoilt.nd rfl (by first | exact Or.inl rfl | exact Or.inr rfl) (pI_ix ix_seq opS_ix (pI_var (i := 2) rfl (by first | exact Or.inl rfl | exact Or.inr (Or.inl rfl) | exact Or.inr (Or.inr rfl))) (pI_callO O_f_law_take (hr.mono (by decide)) (by rfl) (pI_cons (pI_var (i := 0) rfl (by first | exact Or.inl rfl | exact Or.inr (Or.inl rfl) | exact Or.inr (Or.inr rfl))) (pI_cons (pI_callB call_len callS_len (by rfl) T.n_len (by first | rfl | decide +kernel) (pI_cons (pI_var (i := 2) rfl (by first | exact Or.inl rfl | exact Or.inr (Or.inl rfl) | exact Or.inr (Or.inr rfl))) (pI_nil))) (pI_nil)))) (fun _ _ => rfl)))
    (pSs_cons (pS_set (i := 4) sc_f_law_spoilt.nd rfl (by first | exact Or.inl rfl | exact Or.inr rfl) (pI_var (i := 1) rfl (by first | exact Or.inl rfl | exact Or.inr (Or.inl rfl) | exact Or.inr (Or.inr rfl))))
    (pSs_cons (pS_for PassesOwn.never rfl (pIt_seq rfl (pI_var (i := 3) rfl (by first | exact Or.inl rfl | exact Or.inr (Or.inl rfl) | exact Or.inr (Or.inr rfl)))) (pG_name (i := 5) sc_f_law_spoilt.nd rfl (by first | exact Or.inl rfl | exact Or.inr rfl)) (pSs_one (pS_set (i := 4) sc_f_law_spoilt.nd rfl (by first | exact Or.inl rfl | exact Or.inr rfl) (pI_ix ix_seq opS_ix (pI_var (i := 4) rfl (by first | exact Or.inl rfl | exact Or.inr (Or.inl rfl) | exact Or.inr (Or.inr rfl))) (pI_var (i := 5) rfl (by first | exact Or.inl rfl | exact Or.inr (Or.inl rfl) | exact Or.inr (Or.inr rfl))) (fun _ _ => rfl)))))
    (pSs_one (pS_ret (pI_callO O_f_law_with (hr.mono (by decide)) (by rfl) (pI_cons (pI_var (i := 1) rfl (by first | exact Or.inl rfl | exact Or.inr (Or.inl rfl) | exact Or.inr (Or.inr rfl))) (pI_cons (pI_var (i := 3) rfl (by first | exact Or.inl rfl | exact Or.inr (Or.inl rfl) | exact Or.inr (Or.inr rfl))) (pI_cons (pI_callO O_f_law_step (hr.mono (by decide)) (by rfl) (pI_cons (pI_var (i := 0) rfl (by first | exact Or.inl rfl | exact Or.inr (Or.inl rfl) | exact Or.inr (Or.inr rfl))) (pI_cons (pI_var (i := 4) rfl (by first | exact Or.inl rfl | exact Or.inr (Or.inl rfl) | exact Or.inr (Or.inr rfl))) (pI_nil)))) (pI_nil))))))))))
theorem ok_f_law_kept_or_refused (T : Tx K w mg ca) (D_ : At K mg "_law_kept_or_refused" "_law_kept_or_refused" s_f_law_kept_or_refused ["_law_thing"]) (O_f_law_is_table : Ok P w K mg base (gx K w ca) 4 "_law_is_table" 1 F_f_law_is_table) (O_f_law_refused : Ok P w K mg base (gx K w ca) 8 "_law_refused" 1 F_f_law_refused) (O_Table_init : OkMk P w K mg base (gx K w ca) 6 "Table" "Table" 1 F_Table_init) : OkG P w K mg base (gx K w ca) 9 "_law_kept_or_refused" 1 F_f_law_kept_or_refused :=
  okG_of D_ sc_f_law_kept_or_refused rfl rfl fun f cdv A outer s H Ex hr hgd =>
   pSs_cons (pS_if (pT_not (pT_val (pI_callO O_f_law_is_table (hr.mono (by decide)) (by rfl) (pI_cons (pI_var (i := 0) rfl (by first | exact Or.inl rfl | exact Or.inr (Or.inl rfl) | exact Or.inr (Or.inr rfl))) (pI_nil))))) (pSs_one (pS_ret (pI_callO O_f_law_refused (hr.mono (by decide)) (by rfl) (pI_cons (pI_var (i := 0) rfl (by first | exact Or.inl rfl | exact Or.inr (Or.inl rfl) | exact Or.inr (Or.inr rfl))) (pI_nil))))) (pSs_nil))
    (pSs_one (pS_ret (pI_cmp (op_eqP hr.units) opS_eq (pI_callB (call_repr (room65 hr) hgd) callS_repr (by rfl) T.n_repr (by decide +kernel) (pI_cons (pI_fld (pI_make O_Table_init (hr.mono (by decide)) takes0 (by rfl) (pI_cons (pI_var (i := 0) rfl (by first | exact Or.inl rfl | exact Or.inr (Or.inl rfl) | exact Or.inr (Or.inr rfl))) (pI_nil))) rfl T.fl_states) (pI_nil))) (pI_callB (call_repr (room65 hr) hgd) callS_repr (by rfl) T.n_repr (by decide +kernel) (pI_cons (pI_callTy call_tuple_of callS_tuple (by rfl) T.n_tuple (by first | rfl | decide +kernel) (pI_cons (pI_var (i := 0) rfl (by first | exact Or.inl rfl | exact Or.inr (Or.inl rfl) | exact Or.inr (Or.inr rfl))) (pI_nil))) (pI_nil))) (nomark _))))
theorem fn_law (T : Tx K w mg ca) {f : Addr} {fd : FuncData} (F : Fun K "law" "law" s_law f fd) (O_f_law_names : Ok P w K mg base (gx K w ca) 1 "_law_names" 1 F_f_law_names) (O_f_law_number : Ok P w K mg base (gx K w ca) 2 "_law_number" 2 F_f_law_number) (O_f_law_bad_parts : Ok P w K mg base (gx K w ca) 1 "_law_bad_parts" 1 F_f_law_bad_parts) (O_f_law_state : Ok P w K mg base (gx K w ca) 1 "_law_state" 3 F_f_law_state) (O_f_law_mixed : Ok P w K mg base (gx K w ca) 1 "_law_mixed" 2 F_f_law_mixed) (O_Table_init : OkMk P w K mg base (gx K w ca) 6 "Table" "Table" 1 F_Table_init) (O_f_law_refused : Ok P w K mg base (gx K w ca) 8 "_law_refused" 1 F_f_law_refused) (O_f_law_spoilt : Ok P w K mg base (gx K w ca) 9 "_law_spoilt" 2 F_f_law_spoilt) (O_f_law_kept_or_refused : OkG P w K mg base (gx K w ca) 9 "_law_kept_or_refused" 1 F_f_law_kept_or_refused) : FnG P w K mg base CX0 10 f fd ["_law_script"] (spN (gx K w ca) 1 F_law) :=
  fnG_ok F sc_law rfl fun cdv A outer s H Ex hr hgd =>
   pSs_cons (pS_set (i := 1) sc_law.nd rfl (by first | exact Or.inl rfl | exact Or.inr rfl) (pI_callO O_f_law_names (hr.mono (by decide)) (by rfl) (pI_cons (pI_callO O_f_law_number (hr.mono (by decide)) (by rfl) (pI_cons (pI_var (i := 0) rfl (by first | exact Or.inl rfl | exact Or.inr (Or.inl rfl) | exact Or.inr (Or.inr rfl))) (pI_cons (pI_int) (pI_nil)))) (pI_nil))))
    (pSs_cons (pS_set (i := 2) sc_law.nd rfl (by first | exact Or.inl rfl | exact Or.inr rfl) (pI_callO O_f_law_bad_parts (hr.mono (by decide)) (by rfl) (pI_cons (pI_var (i := 1) rfl (by first | exact Or.inl rfl | exact Or.inr (Or.inl rfl) | exact Or.inr (Or.inr rfl))) (pI_nil))))
    (pSs_cons (pS_for PassesOwn.never rfl (pIt_r2 (by rfl) T.n_range (pI_cons (pI_int) (pI_cons (pI_callB call_len callS_len (by rfl) T.n_len (by first | rfl | decide +kernel) (pI_cons (pI_var (i := 0) rfl (by first | exact Or.inl rfl | exact Or.inr (Or.inl rfl) | exact Or.inr (Or.inr rfl))) (pI_nil))) (pI_nil)))) (pG_name (i := 3) sc_law.nd rfl (by first | exact Or.inl rfl | exact Or.inr rfl)) (pSs_cons (pS_set (i := 4) sc_law.nd rfl (by first | exact Or.inl rfl | exact Or.inr rfl) (pI_callO O_f_law_number (hr.mono (by decide)) (by rfl) (pI_cons (pI_var (i := 0) rfl (by first | exact Or.inl rfl | exact Or.inr (Or.inl rfl) | exact Or.inr (Or.inr rfl))) (pI_cons (pI_var (i := 3) rfl (by first | exact Or.inl rfl | exact Or.inr (Or.inl rfl) | exact Or.inr (Or.inr rfl))) (pI_nil)))))
    (pSs_cons (pS_set (i := 5) sc_law.nd rfl (by first | exact Or.inl rfl | exact Or.inr rfl) (pI_op op_addA opS_add (pI_int) (pI_op op_mod opS_mod (pI_var (i := 4) rfl (by first | exact Or.inl rfl | exact Or.inr (Or.inl rfl) | exact Or.inr (Or.inr rfl))) (pI_int))))
    (pSs_cons (pS_reg (i := 6) sc_law.nd rfl (by first | exact Or.inl rfl | exact Or.inr rfl) (pI_lst (pI_nil)))
    (pSs_cons (pS_for PassesOwn.never rfl (pIt_r1 (by rfl) T.n_range (pI_cons (pI_var (i := 5) rfl (by first | exact Or.inl rfl | exact Or.inr (Or.inl rfl) | exact Or.inr (Or.inr rfl))) (pI_nil))) (pG_name (i := 7) sc_law.nd rfl (by first | exact Or.inl rfl | exact Or.inr rfl)) (pSs_one (pS_expr (pI_bm rfl PySem.F.plainAttrs_list PySem.F.slot_list_append PySem.F.type_list_append mt_append mtS_append (pI_var (i := 6) rfl (by first | exact Or.inl rfl | exact Or.inr (Or.inl rfl) | exact Or.inr (Or.inr rfl))) (pI_cons (pI_callO O_f_law_state (hr.mono (by decide)) (by rfl) (pI_cons (pI_callO O_f_law_mixed (hr.mono (by decide)) (by rfl) (pI_cons (pI_op op_fdivW opS_divW (pI_var (i := 4) rfl (by first | exact Or.inl rfl | exact Or.inr (Or.inl rfl) | exact Or.inr (Or.inr rfl))) (pI_int)) (pI_cons (pI_var (i := 7) rfl (by first | exact Or.inl rfl | exact Or.inr (Or.inl rfl) | exact Or.inr (Or.inr rfl))) (pI_nil)))) (pI_cons (pI_var (i := 1) rfl (by first | exact Or.inl rfl | exact Or.inr (Or.inl rfl) | exact Or.inr (Or.inr rfl))) (pI_cons (pI_var (i := 5) rfl (by first | exact Or.inl rfl | exact Or.inr (Or.inl rfl) | exact Or.inr (Or.inr rfl))) (pI_nil))))) (pI_nil))))))
    (pSs_cons (pS_setIx set_list setS_list (pI_callO O_f_law_state (hr.mono (by decide)) (by rfl) (pI_cons (pI_op op_fdivW opS_divW (pI_var (i := 4) rfl (by first | exact Or.inl rfl | exact Or.inr (Or.inl rfl) | exact Or.inr (Or.inr rfl))) (pI_int)) (pI_cons (pI_var (i := 1) rfl (by first | exact Or.inl rfl | exact Or.inr (Or.inl rfl) | exact Or.inr (Or.inr rfl))) (pI_cons (pI_var (i := 5) rfl (by first | exact Or.inl rfl | exact Or.inr (Or.inl rfl) | exact Or.inr (Or.inr rfl))) (pI_nil))))) (pI_var (i := 6) rfl (by first | exact Or.inl rfl | exact Or.inr (Or.inl rfl) | exact Or.inr (Or.inr rfl))) (pI_int))
    (pSs_cons (pS_reg (i := 8) sc_law.nd rfl (by first | exact Or.inl rfl | exact Or.inr rfl) (pI_callTy call_list_of callS_list (by rfl) T.n_list (by first | rfl | decide +kernel) (pI_cons (pI_var (i := 6) rfl (by first | exact Or.inl rfl | exact Or.inr (Or.inl rfl) | exact Or.inr (Or.inr rfl))) (pI_nil))))
    (pSs_cons (pS_set (i := 9) sc_law.nd rfl (by first | exact Or.inl rfl | exact Or.inr rfl) (pI_make O_Table_init (hr.mono (by decide)) takes0 (by rfl) (pI_cons (pI_var (i := 8) rfl (by first | exact Or.inl rfl | exact Or.inr (Or.inl rfl) | exact Or.inr (Or.inr rfl))) (pI_nil))))
    (pSs_cons (pS_expr (pI_bm rfl PySem.F.plainAttrs_list PySem.F.slot_list_append PySem.F.type_list_append mt_append mtS_append (pI_var (i := 8) rfl (by first | exact Or.inl rfl | exact Or.inr (Or.inl rfl) | exact Or.inr (Or.inr rfl))) (pI_cons (pI_non) (pI_nil))))
    (pSs_cons (pS_if ((pW_or (pT_not (pT_val (pI_callB call_isi2 callS_isi (by rfl) T.n_isinstance (by first | rfl | decide +kernel) (pI_cons (pI_fld (pI_var (i := 9) rfl (by first | exact Or.inl rfl | exact Or.inr (Or.inl rfl) | exact Or.inr (Or.inr rfl))) rfl T.fl_states) (pI_cons (pI_ty (n := "tuple") (by rfl) T.n_tuple (by first | rfl | decide +kernel)) (pI_nil)))))) (pW_or1 (pT_cmp (op_neP hr.units) opS_eq (pI_callTy call_list_of callS_list (by rfl) T.n_list (by first | rfl | decide +kernel) (pI_cons (pI_fld (pI_var (i := 9) rfl (by first | exact Or.inl rfl | exact Or.inr (Or.inl rfl) | exact Or.inr (Or.inr rfl))) rfl T.fl_states) (pI_nil))) (pI_var (i := 6) rfl (by first | exact Or.inl rfl | exact Or.inr (Or.inl rfl) | exact Or.inr (Or.inr rfl))) (nomark _)))).pt) (pSs_one (pS_ret (pI_bl))) (pSs_nil))
    (pSs_cons (pS_if (pT_cmp (op_neP hr.units) opS_eq (pI_fld (pI_make O_Table_init (hr.mono (by decide)) takes0 (by rfl) (pI_cons (pI_callTy call_tuple_of callS_tuple (by rfl) T.n_tuple (by first | rfl | decide +kernel) (pI_cons (pI_var (i := 6) rfl (by first | exact Or.inl rfl | exact Or.inr (Or.inl rfl) | exact Or.inr (Or.inr rfl))) (pI_nil))) (pI_nil))) rfl T.fl_states) (pI_callTy call_tuple_of callS_tuple (by rfl) T.n_tuple (by first | rfl | decide +kernel) (pI_cons (pI_var (i := 6) rfl (by first | exact Or.inl rfl | exact Or.inr (Or.inl rfl) | exact Or.inr (Or.inr rfl))) (pI_nil))) (nomark _)) (pSs_one (pS_ret (pI_bl))) (pSs_nil))
    (pSs_cons (pS_set (i := 10) sc_law.nd rfl (by first | exact Or.inl rfl | exact Or.inr rfl) (pI_op op_mod opS_mod (pI_op op_fdivW opS_divW (pI_var (i := 4) rfl (by first | exact Or.inl rfl | exact Or.inr (Or.inl rfl) | exact Or.inr (Or.inr rfl))) (pI_int)) (pI_op op_addA opS_add (pI_var (i := 5) rfl (by first | exact Or.inl rfl | exact Or.inr (Or.inl rfl) | exact Or.inr (Or.inr rfl))) (pI_int))))
    (pSs_cons (pS_set (i := 11) sc_law.nd rfl (by first | exact Or.inl rfl | exact Or.inr rfl) (pI_ix ix_seq opS_ix (pI_var (i := 2) rfl (by first | exact Or.inl rfl | exact Or.inr (Or.inl rfl) | exact Or.inr (Or.inr rfl))) (pI_op op_mod opS_mod (pI_op op_fdivW opS_divW (pI_var (i := 4) rfl (by first | exact Or.inl rfl | exact Or.inr (Or.inl rfl) | exact Or.inr (Or.inr rfl))) (pI_int)) (pI_callB call_len callS_len (by rfl) T.n_len (by first | rfl | decide +kernel) (pI_cons (pI_var (i := 2) rfl (by first | exact Or.inl rfl | exact Or.inr (Or.inl rfl) | exact Or.inr (Or.inr rfl))) (pI_nil)))) (fun _ _ => rfl)))
    (pSs_cons (pS_set (i := 12) sc_law.nd rfl (by first | exact Or.inl rfl | exact Or.inr rfl) (pI_op op_addA opS_add (pI_op op_addA opS_add (pI_slice (pI_var (i := 6) rfl (by first | exact Or.inl rfl | exact Or.inr (Or.inl rfl) | exact Or.inr (Or.inr rfl))) (pO_none) (pO_some (pI_var (i := 10) rfl (by first | exact Or.inl rfl | exact Or.inr (Or.inl rfl) | exact Or.inr (Or.inr rfl)))) rfl) (pI_lst (pI_cons (pI_var (i := 11) rfl (by first | exact Or.inl rfl | exact Or.inr (Or.inl rfl) | exact Or.inr (Or.inr rfl))) (pI_nil)))) (pI_slice (pI_var (i := 6) rfl (by first | exact Or.inl rfl | exact Or.inr (Or.inl rfl) | exact Or.inr (Or.inr rfl))) (pO_some (pI_var (i := 10) rfl (by first | exact Or.inl rfl | exact Or.inr (Or.inl rfl) | exact Or.inr (Or.inr rfl)))) (pO_none) rfl)))
    (pSs_cons (pS_set (i := 13) sc_law.nd rfl (by first | exact Or.inl rfl | exact Or.inr rfl) (pI_ix ix_seq opS_ix (pI_lst (pI_cons (pI_non) (pI_cons (pI_int) (pI_cons (pI_lst (pI_nil)) (pI_cons (pI_tup (pI_nil)) (pI_cons (pI_str) (pI_cons (pI_dic0) (pI_nil)))))))) (pI_op op_mod opS_mod (pI_op op_fdivW opS_divW (pI_var (i := 4) rfl (by first | exact Or.inl rfl | exact Or.inr (Or.inl rfl) | exact Or.inr (Or.inr rfl))) (pI_int)) (pI_int)) (fun _ _ => rfl)))
    (pSs_cons (pS_if ((pW_or (pT_not (pT_val (pI_callO O_f_law_refused (hr.mono (by decide)) (by rfl) (pI_cons (pI_var (i := 12) rfl (by first | exact Or.inl rfl | exact Or.inr (Or.inl rfl) | exact Or.inr (Or.inr rfl))) (pI_nil))))) (pW_or1 (pT_not (pT_val (pI_callO O_f_law_refused (hr.mono (by decide)) (by rfl) (pI_cons (pI_var (i := 13) rfl (by first | exact Or.inl rfl | exact Or.inr (Or.inl rfl) | exact Or.inr (Or.inr rfl))) (pI_nil))))))).pt) (pSs_one (pS_ret (pI_bl))) (pSs_nil))
    (pSs_one (pS_for PassesOwn.never rfl (pIt_r1 (by rfl) T.n_range (pI_cons (pI_int) (pI_nil))) (pG_name (i := 14) sc_law.nd rfl (by first | exact Or.inl rfl | exact Or.inr rfl)) (pSs_cons (pS_set (i := 15) sc_law.nd rfl (by first | exact Or.inl rfl | exact Or.inr rfl) (pI_callO O_f_law_spoilt (hr.mono (by decide)) (by rfl) (pI_cons (pI_reg (pI_lst (pI_cons (pI_callO O_f_law_mixed (hr.mono (by decide)) (by rfl) (pI_cons (pI_var (i := 4) rfl (by first | exact Or.inl rfl | exact Or.inr (Or.inl rfl) | exact Or.inr (Or.inr rfl))) (pI_cons (pI_op op_addA opS_add (pI_int) (pI_var (i := 14) rfl (by first | exact Or.inl rfl | exact Or.inr (Or.inl rfl) | exact Or.inr (Or.inr rfl)))) (pI_nil)))) (pI_nil)))) (pI_cons (pI_callTy call_tuple_of callS_tuple (by rfl) T.n_tuple (by first | rfl | decide +kernel) (pI_cons (pI_var (i := 6) rfl (by first | exact Or.inl rfl | exact Or.inr (Or.inl rfl) | exact Or.inr (Or.inr rfl))) (pI_nil))) (pI_nil)))))
    (pSs_one (pS_if (pT_not (pT_val (pI_callG O_f_law_kept_or_refused (hr.mono (by decide)) hgd (by rfl) (pI_cons (pI_var (i := 15) rfl (by first | exact Or.inl rfl | exact Or.inr (Or.inl rfl) | exact Or.inr (Or.inr rfl))) (pI_nil))))) (pSs_one (pS_ret (pI_bl))) (pSs_nil))))))))))))))))))))))
    (pSs_cons (pS_set (i := 16) sc_law.nd rfl (by first | exact Or.inl rfl | exact Or.inr rfl) (pI_tup (pI_cons (pI_tup (pI_nil)) (pI_cons (pI_tup (pI_nil)) (pI_cons (pI_tup (pI_nil)) (pI_nil))))))
    (pSs_one (pS_ret (pI_and (pI_callO O_f_law_refused (hr.mono (by decide)) (by rfl) (pI_cons (pI_op (OpR.or op_repL (OpR.or op_mulS (OpR.or op_mul op_repT))) opS_mulB (pI_lst (pI_cons (pI_var (i := 16) rfl (by first | exact Or.inl rfl | exact Or.inr (Or.inl rfl) | exact Or.inr (Or.inr rfl))) (pI_nil))) (pI_int)) (pI_nil))) (pI_one (pI_cmp (op_eqP hr.units) opS_eq (pI_callB call_len callS_len (by rfl) T.n_len (by first | rfl | decide +kernel) (pI_cons (pI_fld (pI_make O_Table_init (hr.mono (by decide)) takes0 (by rfl) (pI_cons (pI_op (OpR.or op_repL (OpR.or op_mulS (OpR.or op_mul op_repT))) opS_mulB (pI_lst (pI_cons (pI_var (i := 16) rfl (by first | exact Or.inl rfl | exact Or.inr (Or.inl rfl) | exact Or.inr (Or.inr rfl))) (pI_nil))) (pI_int)) (pI_nil))) rfl T.fl_states) (pI_nil))) (pI_int) (nomark _)))))))))
end
end Lw
namespace Lw
open PySem PySem.Spec PyProof.Rows L2 VI
mutual
/-- what may stand in a table that is tried -/
def thing : D → Bool
  | .non => true
  | .bl _ => true
  | .int _ => true
  | .str z => decide (z.length ≤ 1000)
  | .tup ds => decide (ds.length ≤ 200) && things ds
  | .lst ds => decide (ds.length ≤ 200) && things ds
  | _ => false
def things : List D → Bool
  | [] => true
  | d :: ds => thing d && things ds
end
theorem things_mem {ds : List D} : things ds = true ↔ ∀ d ∈ ds, thing d = true := by
  induction ds with
  | nil => simp [things]
  | cons d ds ih => simp [things, ih]
mutual
theorem thing_py : ∀ d : D, thing d = true → isPy d = true
  | .non, _ => by simp [isPy]
  | .bl _, _ => by simp [isPy]
  | .int _, _ => by simp [isPy]
  | .str _, _ => by simp [isPy]
  | .tup ds, h => by
    simp only [thing, Bool.and_eq_true] at h
    simp only [isPy]; exact things_py ds h.2
  | .lst ds, h => by
    simp only [thing, Bool.and_eq_true] at h
    simp only [isPy]; exact things_py ds h.2
  | .dic _, h => by simp [thing] at h
  | .ref _, h => by simp [thing] at h
  | .ty _, h => by simp [thing] at h
  | .cl _, h => by simp [thing] at h
  | .obj _ _, h => by simp [thing] at h
theorem things_py : ∀ ds : List D, things ds = true → isPys ds = true
  | [], _ => by simp [isPys]
  | d :: ds, h => by
    simp only [things, Bool.and_eq_true] at h
    simp only [isPys, Bool.and_eq_true]; exact ⟨thing_py d h.1, things_py ds h.2⟩
end
mutual
theorem thing_refs : ∀ d : D, thing d = true → refsLt 0 d = true
  | .non, _ => by simp [refsLt]
  | .bl _, _ => by simp [refsLt]
  | .int _, _ => by simp [refsLt]
  | .str _, _ => by simp [refsLt]
  | .tup ds, h => by
    simp only [thing, Bool.and_eq_true] at h
    simp only [refsLt]; exact things_refs ds h.2
  | .lst ds, h => by
    simp only [thing, Bool.and_eq_true] at h
    simp only [refsLt]; exact things_refs ds h.2
  | .dic _, h => by simp [thing] at h
  | .ref _, h => by simp [thing] at h
  | .ty _, h => by simp [thing] at h
  | .cl _, h => by simp [thing] at h
  | .obj _ _, h => by simp [thing] at h
theorem things_refs : ∀ ds : List D, things ds = true → refsLts 0 ds = true
  | [], _ => by simp [refsLts]
  | d :: ds, h => by
    simp only [things, Bool.and_eq_true] at h
    simp only [refsLts, Bool.and_eq_true]; exact ⟨thing_refs d h.1, things_refs ds h.2⟩
end
theorem unref_thing {d : D} (h : thing d = true) (st : Store) : unref d st = d := by
  cases d <;> first | rfl | simp [thing] at h
/-- compared with something shallow -/
theorem fEq_thing {d e : D} {neg : Bool} {st : Store} (h : thing d = true) (he : isPy e = true) (hu : unref e st = e) (hs : (toPy e).depth ≤ 60) : fEq neg d e st = .ok (.val (.bl (if neg then !eqD d e else eqD d e))) st := by
  unfold fEq
  have c : (isPy (unref d st) && isPy (unref e st) && shallow (unref d st) (unref e st)) = true := by
    rw [unref_thing h, hu]
    simp only [thing_py d h, he, shallow, Bool.true_and, decide_eq_true_eq]
    omega
  rw [if_pos c, unref_thing h, hu]
theorem fEq_str {d : D} {x : Str} {neg : Bool} {st : Store} (h : thing d = true) : fEq neg d (.str x) st = .ok (.val (.bl (if neg then !eqD d (.str x) else eqD d (.str x)))) st :=
  fEq_thing h (by simp [isPy]) rfl (by simp [toPy, PyData.depth])
abbrev letters : Str := "abcdefghijklmnopqrstuvwxyz"
def nameB : D → Bool
  | .str z => (decide ((1 : Int) ≤ (z.length : Int)) && decide ((z.length : Int) ≤ 8)) && z.cps.toList.all fun c => strIn ⟨#[c]⟩ letters
  | _ => false
theorem is_name_eq (d : D) (st : Store) (h : thing d = true) : F_is_name [d] st = .ok (.val (.bl (nameB d))) st := by
  unfold F_is_name runP b_is_name x1_is_name x2_is_name x3_is_name
  cases d with
  | str z =>
    simp only [thing, decide_eq_true_eq] at h
    have hz : z.length ≤ 100000 := by omega
    have hlc : lc_is_name_1 [some (D.str z), none] st = _ := evLc_map1 (own := [1]) (m := itSeq (evVar 0)) (g := gdName 1) (e := ev2 (fIn false) (evVar 1) (evC (.str letters))) (env := [some (D.str z), none]) (st := st) (items := z.cps.toList) (fun c => D.str ⟨#[c]⟩)
      (fun c => D.bl (strIn ⟨#[c]⟩ letters)) (fun c => [some (D.str z), some (D.str ⟨#[c]⟩)]) (by simp) (by simpa [Str.length] using hz) (fun c _ => ⟨by simp [wipeD], fun more => ⟨_, by simp; rfl, rfl⟩⟩) (fun c _ => by simp [refsLt])
    by_cases h1 : (1 : Int) ≤ (z.length : Int) <;> by_cases h2 : (z.length : Int) ≤ 8 <;> simp [isiTab, hz, hlc, h1, h2, nameB]
  | _ => simp [isiTab, nameB, thing] at h ⊢
/-- a number within bounds -/
def numB (lo hi : Int) : D → Bool
  | .int i => decide (lo ≤ i) && decide (i ≤ hi)
  | _ => false
theorem is_count_eq (d : D) (lo hi : Int) (st : Store) (h : thing d = true) : F_is_count [d, .int lo, .int hi] st = .ok (.val (.bl (numB lo hi d))) st := by
  unfold F_is_count runP b_is_count x1_is_count
  cases d with
  | int i => by_cases h1 : lo ≤ i <;> by_cases h2 : i ≤ hi <;> simp [isiTab, numB, h1, h2]
  | bl b => simp [isiTab, numB]
  | _ => simp [isiTab, numB, thing] at h ⊢
theorem law_is_number_eq (d : D) (lo hi : Int) (st : Store) (h : thing d = true) : F_f_law_is_number [d, .int lo, .int hi] st = .ok (.val (.bl (numB lo hi d))) st := by
  unfold F_f_law_is_number runP b_f_law_is_number x1_f_law_is_number
  cases d with
  | int i => by_cases h1 : lo ≤ i <;> by_cases h2 : i ≤ hi <;> simp [isiTab, numB, h1, h2]
  | bl b => simp [isiTab, numB]
  | _ => simp [isiTab, numB, thing] at h ⊢
def wordB : D → Bool
  | .str z => decide ((z.length : Int) ≤ 8) && z.cps.toList.all fun c => strIn ⟨#[c]⟩ letters
  | _ => false
theorem len_none {z : Str} (h : z.length = 0) : z = "" := by
  obtain ⟨a⟩ := z
  have : a = #[] := Array.eq_empty_of_size_eq_zero h
  rw [this]; rfl
theorem word_name {z : Str} (h : z ≠ "") : wordB (.str z) = nameB (.str z) := by
  have h1 : (1 : Int) ≤ (z.length : Int) := by
    have : z.length ≠ 0 := fun e => h (len_none e)
    omega
  simp [wordB, nameB, h1]
theorem is_word_eq (d : D) (st : Store) (h : thing d = true) : F_is_word [d] st = .ok (.val (.bl (wordB d))) st := by
  have hn := is_name_eq d st h
  unfold F_is_word runP b_is_word x1_is_word
  cases d with
  | str z =>
    by_cases h0 : z = ""
    · subst h0
      have e : wordB (.str "") = true := by decide
      simp [isiTab, e]
    · simp [isiTab, h0, hn, word_name h0]
  | _ => simp [isiTab, wordB, thing] at h ⊢
theorem law_is_word_eq (d : D) (st : Store) (h : thing d = true) : F_f_law_is_word [d] st = .ok (.val (.bl (wordB d))) st := by
  unfold F_f_law_is_word runP b_f_law_is_word x1_f_law_is_word x2_f_law_is_word x3_f_law_is_word
  cases d with
  | str z =>
    simp only [thing, decide_eq_true_eq] at h
    have hz : z.length ≤ 100000 := by omega
    have hlc : lc_f_law_is_word_1 [some (D.str z), none] st = _ := evLc_map (own := [1]) (m := itSeq (evVar 0)) (g := gdName 1) (t := tvB (ev2 (fIn true) (evVar 1) (evC (.str letters)))) (e := evVar 1) (env := [some (D.str z), none]) (st := st) (items := z.cps.toList) (fun c => D.str ⟨#[c]⟩)
      (fun c => !strIn ⟨#[c]⟩ letters) (fun c => D.str ⟨#[c]⟩) (fun c => [some (D.str z), some (D.str ⟨#[c]⟩)]) (by simp) (by simpa [Str.length] using hz) (fun c _ => ⟨by simp [wipeD], fun more => ⟨by simp, fun _ => ⟨_, by simp; rfl, rfl⟩⟩⟩) (fun c _ _ => by simp [refsLt])
    have hnil := fEq_nil (st := st) (neg := false) (ds := (z.cps.toList.filter fun c => !strIn ⟨#[c]⟩ letters).map fun c => D.str ⟨#[c]⟩) (by rw [isPys_all]; intro d hd; obtain ⟨n, _, rfl⟩ := List.mem_map.mp hd; simp [isPy])
    have hb : ((z.cps.toList.filter fun c => !strIn ⟨#[c]⟩ letters).map fun c => D.str ⟨#[c]⟩).isEmpty = z.cps.toList.all fun c => strIn ⟨#[c]⟩ letters := by
      rw [List.isEmpty_map]
      generalize z.cps.toList = cs
      induction cs with
      | nil => rfl
      | cons c cs ih =>
        rw [List.filter_cons, List.all_cons]
        cases strIn ⟨#[c]⟩ letters <;> simp [ih]
    by_cases h2 : (8 : Int) < (z.length : Int)
    · have h3 : ¬ (z.length : Int) ≤ 8 := by omega
      simp [isiTab, hz, h2, h3, wordB]
    · have h3 : (z.length : Int) ≤ 8 := by omega
      simp [isiTab, hz, hlc, h2, h3, wordB, hnil, hb]
  | _ => simp [isiTab, wordB, thing] at h ⊢
end Lw
namespace Lw
open PySem PySem.Spec PyProof.Rows L2 VI
theorem eqD_str {x z : Str} : eqD (.str x) (.str z) = decide (x = z) := by
  by_cases h : x = z <;> simp [eqD, toPy, PyData.eqv, h]
theorem eqD_is {d : D} {x : Str} (h : thing d = true) : eqD d (.str x) = decide (d = .str x) := by
  cases d with
  | str z =>
    rw [eqD_str]
    by_cases q : z = x
    · subst q; simp
    · simp [q]
  | _ => first | (simp [thing] at h; done) | (simp [eqD, toPy, PyData.eqv])
def deedB (m : Int) : D → Bool
  | .tup [a] => decide (a = .str "end")
  | .tup [a, x] => (decide (a = .str "shift") && numB 0 (m - 1) x) || (decide (a = .str "make") && numB 0 299 x)
  | _ => false
def isShift : D → Bool
  | .tup (a :: _) => decide (a = .str "shift")
  | _ => false
theorem is_deed_eq (d : D) (m : Int) (st : Store) (h : thing d = true) : F_is_deed [d, .int m] st = .ok (.val (.bl (deedB m d))) st := by
  unfold F_is_deed runP b_is_deed x1_is_deed x2_is_deed x3_is_deed x4_is_deed x5_is_deed x6_is_deed x7_is_deed
  cases d with
  | tup ds =>
    have e0 := fun neg => fEq_thing (neg := neg) (st := st) (e := .tup []) h (by simp [isPy, isPys]) rfl (by simp [toPy, toPys, PyData.depth, PyData.depthAll])
    have e9 := fun neg => fEq_thing (neg := neg) (st := st) (e := .tup [.str "end"]) h (by simp [isPy, isPys]) rfl (by simp [toPy, toPys, PyData.depth, PyData.depthAll])
    simp only [thing, Bool.and_eq_true, decide_eq_true_eq] at h
    obtain ⟨h0, hm⟩ := h
    match ds, h0, hm, e0, e9 with
    | [], _, _, e0, _ => simp [isiTab, deedB, e0, eqD, toPy, toPys, PyData.eqv, PyData.eqvAll]
    | [a], _, hm, e0, e9 =>
      have ha := things_mem.mp hm a (by simp)
      have q0 : eqD (.tup [a]) (.tup []) = false := by simp [eqD, toPy, toPys, PyData.eqv, PyData.eqvAll]
      have q9 : eqD (.tup [a]) (.tup [.str "end"]) = decide (a = .str "end") := by
        rw [← eqD_is ha]; simp [eqD, toPy, toPys, PyData.eqv, PyData.eqvAll]
      cases a with
      | str z =>
        have f1 := fun (neg : Bool) (x : Str) => fEq_str (x := x) (neg := neg) (st := st) ha
        by_cases z1 : z = "shift"
        · subst z1
          simp [isiTab, deedB, e0, e9, q0, q9, atI, ixN]
        · by_cases z2 : z = "make"
          · subst z2
            simp [isiTab, deedB, e0, e9, q0, q9, atI, ixN]
          · simp [isiTab, deedB, e0, e9, q0, q9, atI, ixN, z1, z2]
      | _ => simp [isiTab, deedB, e0, e9, q0, q9, atI, ixN, thing] at ha ⊢
    | [a, x], _, hm, e0, e9 =>
      have ha := things_mem.mp hm a (by simp)
      have hx := things_mem.mp hm x (by simp)
      have n1 := is_count_eq x 0 (m - 1) st hx
      have n2 := is_count_eq x 0 299 st hx
      have q0 : eqD (.tup [a, x]) (.tup []) = false := by simp [eqD, toPy, toPys, PyData.eqv, PyData.eqvAll]
      have q9 : eqD (.tup [a, x]) (.tup [.str "end"]) = false := by simp [eqD, toPy, toPys, PyData.eqv, PyData.eqvAll]
      cases a with
      | str z =>
        by_cases z1 : z = "shift"
        · subst z1
          simp [isiTab, deedB, e0, e9, q0, q9, atI, ixN, n1]
        · by_cases z2 : z = "make"
          · subst z2
            simp [isiTab, deedB, e0, e9, q0, q9, atI, ixN, n2]
          · simp [isiTab, deedB, e0, e9, q0, q9, atI, ixN, z1, z2]
      | _ => simp [isiTab, deedB, e0, e9, q0, q9, atI, ixN, thing] at ha ⊢
    | a :: x :: y :: r, h0, hm, e0, e9 =>
      have ha := things_mem.mp hm a (by simp)
      have q0 : eqD (.tup (a :: x :: y :: r)) (.tup []) = false := by simp [eqD, toPy, toPys, PyData.eqv, PyData.eqvAll]
      have q9 : eqD (.tup (a :: x :: y :: r)) (.tup [.str "end"]) = false := by simp [eqD, toPy, toPys, PyData.eqv, PyData.eqvAll]
      have q : ¬ ((r.length : Int) + 1 + 1 + 1 = 2) := by omega
      have qp : (0 : Int) < (r.length : Int) + 1 + 1 + 1 := by omega
      cases a with
      | str z =>
        by_cases z1 : z = "shift"
        · subst z1
          simp [isiTab, deedB, e0, e9, q0, q9, atI, ixN, q, qp]
        · by_cases z2 : z = "make"
          · subst z2
            simp [isiTab, deedB, e0, e9, q0, q9, atI, ixN, q, qp]
          · simp [isiTab, deedB, e0, e9, q0, q9, atI, ixN, z1, z2, qp]
      | _ => simp [isiTab, deedB, e0, e9, q0, q9, atI, ixN, thing, qp] at ha ⊢
  | _ => simp [isiTab, deedB, thing] at h ⊢
theorem law_is_deed_eq (w d : D) (m : Int) (st : Store) (hw : thing w = true) (h : thing d = true) : F_f_law_is_deed [w, d, .int m] st = .ok (.val (.bl (deedB m d && !(isShift d && decide (w = .str ""))))) st := by
  unfold F_f_law_is_deed runP b_f_law_is_deed x1_f_law_is_deed x2_f_law_is_deed x3_f_law_is_deed x4_f_law_is_deed x5_f_law_is_deed
  have w0 := fun (neg : Bool) => fEq_str (x := "") (neg := neg) (st := st) hw
  have w1 := eqD_is (x := "") hw
  have e9 := fun neg => fEq_thing (neg := neg) (st := st) (e := .tup [.str "end"]) h (by simp [isPy, isPys]) rfl (by simp [toPy, toPys, PyData.depth, PyData.depthAll])
  cases d with
  | tup ds =>
    simp only [thing, Bool.and_eq_true, decide_eq_true_eq] at h
    obtain ⟨h0, hm⟩ := h
    match ds, h0, hm, e9 with
    | [], _, _, e9 => simp [isiTab, deedB, e9, eqD, toPy, toPys, PyData.eqv, PyData.eqvAll]
    | [a], _, hm, e9 =>
      have ha := things_mem.mp hm a (by simp)
      have q9 : eqD (.tup [a]) (.tup [.str "end"]) = decide (a = .str "end") := by
        rw [← eqD_is ha]; simp [eqD, toPy, toPys, PyData.eqv, PyData.eqvAll]
      by_cases qa : a = .str "end"
      · subst qa; simp [isiTab, deedB, isShift, e9, q9]
      · simp [isiTab, deedB, isShift, e9, q9, qa]
    | [a, x], _, hm, e9 =>
      have ha := things_mem.mp hm a (by simp)
      have hx := things_mem.mp hm x (by simp)
      have n1 := law_is_number_eq x 0 (m - 1) st hx
      have n2 := law_is_number_eq x 0 299 st hx
      have f1 := fun (neg : Bool) (x : Str) => fEq_str (x := x) (neg := neg) (st := st) ha
      have f2 := fun (x : Str) => eqD_is (x := x) ha
      by_cases z1 : a = .str "shift"
      · subst z1
        by_cases q : w = .str ""
        · simp [isiTab, deedB, isShift, atI, ixN, n1, w0, w1, q]
        · simp [isiTab, deedB, isShift, atI, ixN, n1, w0, w1, q]
      · by_cases z2 : a = .str "make"
        · subst z2
          simp [isiTab, deedB, isShift, atI, ixN, n2]
        · simp [isiTab, deedB, isShift, atI, ixN, f1, f2, z1, z2]
    | a :: x :: y :: r, h0, hm, e9 =>
      have q9 : eqD (.tup (a :: x :: y :: r)) (.tup [.str "end"]) = false := by simp [eqD, toPy, toPys, PyData.eqv, PyData.eqvAll]
      have q : ¬ ((r.length : Int) + 1 + 1 + 1 = 2) := by omega
      simp [isiTab, deedB, e9, q9, q]
  | _ => simp [isiTab, deedB, thing, e9, eqD, toPy, toPys, PyData.eqv] at h ⊢
def noteB : D → Bool
  | .tup [a, b, c] => (decide (a = .int (-1)) && numB 0 1 b && decide (c = .str "")) || (numB 0 299 a && numB 0 8 b && wordB c)
  | _ => false
theorem is_note_eq (d : D) (st : Store) (h : thing d = true) : F_is_note [d] st = .ok (.val (.bl (noteB d))) st := by
  unfold F_is_note runP b_is_note x1_is_note x2_is_note x3_is_note x4_is_note x5_is_note
  cases d with
  | tup ds =>
    simp only [thing, Bool.and_eq_true, decide_eq_true_eq] at h
    obtain ⟨h0, hm⟩ := h
    match ds, h0, hm with
    | [], _, _ => simp [isiTab, noteB]
    | [a], _, _ => simp [isiTab, noteB]
    | [a, b], _, _ => simp [isiTab, noteB]
    | [a, b, c], _, hm =>
      have ha := things_mem.mp hm a (by simp)
      have hb := things_mem.mp hm b (by simp)
      have hc := things_mem.mp hm c (by simp)
      have n1 := is_count_eq a (-1) 299 st ha
      have n2 := is_count_eq b 0 1 st hb
      have n3 := is_count_eq b 0 8 st hb
      have n4 := is_word_eq c st hc
      have f1 := fEq_str (x := "") (neg := false) (st := st) hc
      have f2 := eqD_is (x := "") hc
      cases a with
      | int i =>
        by_cases i1 : i = -1
        · subst i1
          have e1 : numB (-1) 299 (.int (-1)) = true := by decide
          have e2 : numB 0 299 (.int (-1)) = false := by decide
          by_cases q1 : numB 0 1 b = true
          · by_cases q2 : c = .str ""
            · subst q2; simp [isiTab, noteB, atI, ixN, n1, n2, e1, e2, q1]
            · simp [isiTab, noteB, atI, ixN, n1, n2, e1, e2, q1, f1, f2, q2]
          · simp [isiTab, noteB, atI, ixN, n1, n2, e1, e2, q1]
        · by_cases q0 : numB (-1) 299 (.int i) = true
          · have q1 : numB 0 299 (.int i) = true := by
              simp [numB] at q0 ⊢; omega
            by_cases q2 : numB 0 8 b = true
            · simp [isiTab, noteB, atI, ixN, n1, n3, n4, q0, q1, q2, i1]
            · simp [isiTab, noteB, atI, ixN, n1, n3, n4, q0, q1, q2, i1]
          · have q1 : numB 0 299 (.int i) = false := by
              simp [numB] at q0 ⊢; omega
            simp [isiTab, noteB, atI, ixN, n1, q0, q1, i1]
      | _ => simp [isiTab, noteB, atI, ixN, n1, numB]
    | a :: b :: c :: e :: r, h0, _ =>
      have q : ¬ ((r.length : Int) + 1 + 1 + 1 + 1 = 3) := by omega
      simp [isiTab, noteB, q]
  | _ => simp [isiTab, noteB, thing] at h ⊢
theorem law_is_note_eq (a b c : D) (st : Store) (ha : thing a = true) (hb : thing b = true) (hc : thing c = true) : F_f_law_is_note [.tup [a, b, c]] st = .ok (.val (.bl (noteB (.tup [a, b, c])))) st := by
  have n1 := law_is_number_eq a (-1) 299 st ha
  have n2 := law_is_number_eq b 0 1 st hb
  have n3 := law_is_number_eq b 0 8 st hb
  have n4 := law_is_word_eq c st hc
  have f1 := fEq_str (x := "") (neg := false) (st := st) hc
  have f2 := eqD_is (x := "") hc
  unfold F_f_law_is_note runP b_f_law_is_note x1_f_law_is_note x2_f_law_is_note x3_f_law_is_note x4_f_law_is_note
  cases a with
  | int i =>
    by_cases i1 : i = -1
    · subst i1
      have e1 : numB (-1) 299 (.int (-1)) = true := by decide
      have e2 : numB 0 299 (.int (-1)) = false := by decide
      by_cases q1 : numB 0 1 b = true
      · by_cases q2 : c = .str ""
        · subst q2
          have e : wordB (.str "") = true := by decide
          simp [sUn, colX, gdSeq, isiTab, noteB, atI, ixN, n1, n2, n4, e1, e2, q1, e, fInt1]
        · by_cases q3 : wordB c = true
          · simp [sUn, colX, gdSeq, isiTab, noteB, atI, ixN, n1, n2, n4, e1, e2, q1, f1, f2, q2, q3, fInt1]
          · simp [sUn, colX, gdSeq, isiTab, noteB, atI, ixN, n1, n2, n4, e1, e2, q1, f1, f2, q2, q3, fInt1]
      · by_cases q3 : wordB c = true
        · simp [sUn, colX, gdSeq, isiTab, noteB, atI, ixN, n1, n2, n4, e1, e2, q1, q3, fInt1]
        · simp [sUn, colX, gdSeq, isiTab, noteB, atI, ixN, n1, n2, n4, e1, e2, q1, q3, fInt1]
    · by_cases q0 : numB (-1) 299 (.int i) = true
      · have q1 : numB 0 299 (.int i) = true := by
          simp [numB] at q0 ⊢; omega
        have q5 : (-1 : Int) < i := by simp [numB] at q0; omega
        by_cases q2 : numB 0 8 b = true <;> by_cases q3 : wordB c = true <;> simp [sUn, colX, gdSeq, isiTab, noteB, atI, ixN, n1, n3, n4, q0, q1, q2, q3, i1, q5, fInt1]
      · have q1 : numB 0 299 (.int i) = false := by
          simp [numB] at q0 ⊢; omega
        simp [sUn, colX, gdSeq, isiTab, noteB, atI, ixN, n1, q0, q1, i1]
  | _ => simp [sUn, colX, gdSeq, isiTab, noteB, atI, ixN, n1, numB]
end Lw
namespace Lw
open PySem PySem.Spec PyProof.Rows L2 VI
/-! ### what rises -/
def rises {α : Type} (le : α → α → Bool) : List α → Bool
  | a :: b :: r => !le b a && rises le (b :: r)
  | _ => true
section
variable {α : Type} [DecidableEq α] {le : α → α → Bool}
theorem nub_self : ∀ {l : List α}, l.Nodup → nub l = l
  | [], _ => rfl
  | a :: l, h => by
    obtain ⟨h1, h2⟩ := List.nodup_cons.mp h
    unfold nub
    rw [if_neg h1, nub_self h2]
theorem rises_strict (T : PySem.W.TotalLe le) : ∀ {l : List α}, rises le l = true → l.Pairwise fun a b => le a b = true ∧ le b a = false
  | [], _ => List.Pairwise.nil
  | [a], _ => List.pairwise_singleton _ _
  | a :: b :: r, h => by
    simp only [rises, Bool.and_eq_true, Bool.not_eq_true'] at h
    have ih := rises_strict T h.2
    have ab : le a b = true := (T.total a b).resolve_right (by rw [h.1]; simp)
    refine List.pairwise_cons.mpr ⟨fun c hc => ?_, ih⟩
    rcases List.mem_cons.mp hc with rfl | hc
    · exact ⟨ab, h.1⟩
    · obtain ⟨h1, h2⟩ := (List.pairwise_cons.mp ih).1 c hc
      refine ⟨T.trans _ _ _ ab h1, ?_⟩
      cases q : le c a with
      | false => rfl
      | true =>
        have := T.trans _ _ _ q ab
        rw [h2] at this; cases this
theorem rises_of : ∀ {l : List α}, l.Pairwise (fun a b => le a b = true) → l.Nodup → (∀ a ∈ l, ∀ b ∈ l, le a b = true → le b a = true → a = b) → rises le l = true
  | [], _, _, _ => rfl
  | [_], _, _, _ => rfl
  | a :: b :: r, h, n, anti => by
    obtain ⟨h1, h2⟩ := List.pairwise_cons.mp h
    obtain ⟨n1, n2⟩ := List.nodup_cons.mp n
    have q : le b a = false := by
      cases q : le b a with
      | false => rfl
      | true => exact absurd (anti a (by simp) b (by simp) (h1 b (by simp)) q) (fun e => n1 (by rw [e]; simp))
    simp only [rises, q, Bool.not_false, Bool.true_and]
    exact rises_of h2 n2 fun x hx y hy => anti x (List.mem_cons_of_mem _ hx) y (List.mem_cons_of_mem _ hy)
theorem sorted_rises (T : PySem.W.TotalLe le) {l : List α} (anti : ∀ a ∈ l, ∀ b ∈ l, le a b = true → le b a = true → a = b) : decide (isort le (nub l) = l) = rises le l := by
  by_cases h : isort le (nub l) = l
  · rw [decide_eq_true h]
    have h1 := isort_sorted T (nub l)
    have h2 := (isort_perm (le := le) (nub l)).nodup_iff.mpr (nodup_nub l)
    rw [h] at h1 h2
    exact (rises_of h1 h2 anti).symm
  · rw [decide_eq_false h]
    cases q : rises le l with
    | false => rfl
    | true =>
      have s := rises_strict T q
      have nd : l.Nodup := s.imp fun ⟨h1, h2⟩ e => by subst e; rw [h1] at h2; cases h2
      refine absurd ?_ h
      rw [nub_self nd]
      exact sorted_one (isort_perm l) (isort_sorted T l) (s.imp fun h => h.1) fun a ha b hb => anti a ((isort_perm l).mem_iff.mp ha) b ((isort_perm l).mem_iff.mp hb)
theorem rises_map {β : Type} {le2 : β → β → Bool} (f : α → β) (h : ∀ a b, le2 (f a) (f b) = le a b) : ∀ l : List α, rises le2 (l.map f) = rises le l
  | [] => rfl
  | [_] => rfl
  | a :: b :: r => by
    have := rises_map f h (b :: r)
    simp only [List.map_cons, rises, h] at this ⊢
    rw [this]
end
theorem rises_range (le : D → D → Bool) : ∀ ds : List D, rises le ds = (List.range (ds.length - 1)).all fun k => !le (ds.getD (k + 1) .non) (ds.getD k .non)
  | [] => rfl
  | [_] => rfl
  | a :: b :: r => by
    have ih := rises_range le (b :: r)
    simp only [rises, List.length_cons, Nat.add_sub_cancel] at ih ⊢
    rw [List.range_succ_eq_map, List.all_cons, List.all_map, ih]
    simp only [Function.comp_def, List.getD_cons_zero, List.getD_cons_succ]
/-- items that may be compared -/
def cmpOk (ds : List D) : Prop := ds.length ≤ 1000 ∧ ∀ a ∈ ds, ∀ b ∈ ds, ∀ st, fGeA a b st = .ok (.val (.bl (leD b a))) st
theorem getD_mem {ds : List D} {k : Nat} (h : k < ds.length) : ds.getD k .non ∈ ds ∧ ds[k]? = some (ds.getD k .non) := by
  rw [List.getD_eq_getElem?_getD, List.getElem?_eq_getElem h]
  exact ⟨List.getElem_mem h, rfl⟩
def seqD1 : D → Option (List D)
  | .tup ds => some ds
  | .lst ds => some ds
  | _ => none
theorem rises_eq {d : D} {ds : List D} (hd : seqD1 d = some ds) (h : cmpOk ds) (st : Store) : F_f_law_rises [d] st = .ok (.val (.bl (rises leD ds))) st := by
  obtain ⟨hl, hc⟩ := h
  have fl : fLen [d] st = .ok (.val (.int ds.length)) st := by
    cases d <;> simp [seqD1] at hd
    · subst hd; simp [fLen]
    · subst hd; simp [fLen, lstOf]
  have ix : ∀ (i : Int) (s : Store), fIx d (.int i) s = (match atI ds i with | some d => .ok (.val d) s | none => .stuck) := fun i s => by
    cases d <;> simp [seqD1] at hd
    · subst hd; rfl
    · subst hd; rfl
  have ok : okR ((ds.length : Int) - 1) = true := okR_small (by omega) (by omega)
  have e1 : ((ds.length : Int) - 1).toNat = ds.length - 1 := by omega
  have it : itR1 (acons (ev2 fSub (evA fLen (acons (evVar 0) (anil))) (evC (.int 1))) (anil)) [some d, none] st = .ok ⟨(List.range (ds.length - 1)).map fun i : Nat => D.int (i : Int), none⟩ st := by
    have h := itR1_of (me := ev2 fSub (evA fLen (acons (evVar 0) (anil))) (evC (.int 1))) (env := [some d, none]) (st := st) (st1 := st) (j := (ds.length : Int) - 1) (by simp [fl]) ok
    rw [h, e1, rangeD_map]
  have hlc : lc_f_law_rises_1 [some d, none] st = _ := evLc_map (own := [1]) (g := gdName 1) (t := tvB (ev2 fGeA (ev2 fIx (evVar 0) (evVar 1)) (ev2 fIx (evVar 0) (ev2 fAdd (evVar 1) (evC (.int 1)))))) (e := evVar 1) (env := [some d, none]) (st := st) (items := List.range (ds.length - 1)) (fun i : Nat => D.int (i : Int))
    (fun k => leD (ds.getD (k + 1) .non) (ds.getD k .non)) (fun k : Nat => D.int k) (fun k : Nat => [some d, some (.int k)]) it (by simp; omega) (fun k hk => by
      have hk := List.mem_range.mp hk
      obtain ⟨m1, g1⟩ := getD_mem (ds := ds) (k := k) (by omega)
      obtain ⟨m2, g2⟩ := getD_mem (ds := ds) (k := k + 1) (by omega)
      have a1 := atI_nat g1
      have a2 := atI_nat g2
      have ge := hc _ m1 _ m2
      generalize ds.getD k .non = x at *
      generalize ds.getD (k + 1) .non = y at *
      refine ⟨by simp [wipeD], fun more => ⟨?_, fun _ => ⟨_, by simp; rfl, rfl⟩⟩⟩
      have a2' : atI ds ((k : Int) + 1) = some y := by rw [← a2]; congr 1
      simp [ix, a1, a2', ge]) (fun k _ _ => by simp [refsLt])
  have hnil := fEq_nil (st := st) (neg := false) (ds := ((List.range (ds.length - 1)).filter fun k => leD (ds.getD (k + 1) .non) (ds.getD k .non)).map fun k : Nat => D.int k) (by rw [isPys_all]; intro d hd; obtain ⟨n, _, rfl⟩ := List.mem_map.mp hd; simp [isPy])
  have hb : (((List.range (ds.length - 1)).filter fun k => leD (ds.getD (k + 1) .non) (ds.getD k .non)).map fun k : Nat => D.int k).isEmpty = rises leD ds := by
    rw [List.isEmpty_map, rises_range]
    generalize List.range (ds.length - 1) = ks
    induction ks with
    | nil => rfl
    | cons k ks ih =>
      rw [List.filter_cons, List.all_cons]
      cases q : leD (ds.getD (k + 1) .non) (ds.getD k .non)
      · simp only [Bool.not_false, Bool.true_and, if_false, Bool.false_eq_true]; exact ih
      · simp
  obtain ⟨L, hL⟩ : ∃ L, L = ((List.range (ds.length - 1)).filter fun k => leD (ds.getD (k + 1) .non) (ds.getD k .non)).map fun k : Nat => D.int k := ⟨_, rfl⟩
  rw [← hL] at hlc hnil hb
  unfold F_f_law_rises runP b_f_law_rises x1_f_law_rises
  simp [hlc, hnil, hb]
end Lw
namespace Lw
open PySem PySem.Spec PyProof.Rows L2 VI
theorem eqD_key {a b : D} (ha : isKey a = true) (hb : isKey b = true) : eqD a b = decide (a = b) := by
  by_cases h : a = b
  · subst h
    have e : eqD a a = true := PySem.SeqAt.eqv_refl_plain _ (toPy_plain a)
    simp [e]
  · cases q : eqD a b with
    | false => simp [h]
    | true =>
      refine absurd ?_ h
      have ea := dOf_nkD a ha
      have eb := dOf_nkD b hb
      have : PyData.eqv (nkD a).data (nkD b).data = true := by rw [← toPy_dOf, ← toPy_dOf, ea, eb]; exact q
      rw [← ea, ← eb, eqv_key _ _ this]
theorem eqD_keys {xs ys : List D} (ha : isKeys xs = true) (hb : isKeys ys = true) : eqD (.lst xs) (.lst ys) = decide (xs = ys) := by
  have e : eqD (.lst xs) (.lst ys) = eqD (.tup xs) (.tup ys) := by simp [eqD, toPy, PyData.eqv]
  rw [e, eqD_key (by simpa only [isKey] using ha) (by simpa only [isKey] using hb)]
  simp
theorem isKeys_all {ds : List D} : isKeys ds = true ↔ ∀ d ∈ ds, isKey d = true := by
  induction ds with
  | nil => simp [isKeys]
  | cons d ds ih => simp [isKeys, ih]
theorem depthAll_le {ds : List D} {B : Nat} (h : ∀ d ∈ ds, (toPy d).depth ≤ B) : PyData.depthAll (toPys ds) ≤ B := by
  induction ds with
  | nil => simp [toPys, PyData.depthAll]
  | cons d ds ih =>
    have h1 := h d List.mem_cons_self
    have h2 := ih fun x hx => h x (List.mem_cons_of_mem _ hx)
    simp only [toPys, PyData.depthAll]
    omega
theorem isKey_py {d : D} (h : isKey d = true) : isPy d = true := by rw [← dOf_nkD d h]; exact isPy_dOf _
/-- two lists of keys, not deep, compared -/
theorem fEq_keys {xs ys : List D} {neg : Bool} {st : Store} (ha : ∀ d ∈ xs, isKey d = true) (hb : ∀ d ∈ ys, isKey d = true) (hd : ∀ d ∈ ys, (toPy d).depth ≤ 50) : fEq neg (.lst xs) (.lst ys) st = .ok (.val (.bl (if neg then !decide (xs = ys) else decide (xs = ys)))) st := by
  have p1 : isPys xs = true := isPys_all.mpr fun d hd => isKey_py (ha d hd)
  have p2 : isPys ys = true := isPys_all.mpr fun d hd => isKey_py (hb d hd)
  have dp := depthAll_le hd
  unfold fEq
  have c : (isPy (unref (.lst xs) st) && isPy (unref (.lst ys) st) && shallow (unref (.lst xs) st) (unref (.lst ys) st)) = true := by
    simp only [unref, isPy, p1, p2, shallow, toPy, PyData.depth, Bool.true_and, decide_eq_true_eq]
    omega
  rw [if_pos c]
  simp only [unref]
  rw [eqD_keys (isKeys_all.mpr ha) (isKeys_all.mpr hb)]
/-! ### pairs -/
abbrev pr (p : D × D) : D := .tup [p.1, p.2]
def pairB : D → Bool
  | .tup [_, _] => true
  | _ => false
theorem pairs_of : ∀ {ds : List D}, ds.all pairB = true → ∃ ps : List (D × D), ds = ps.map pr
  | [], _ => ⟨[], rfl⟩
  | d :: ds, h => by
    simp only [List.all_cons, Bool.and_eq_true] at h
    obtain ⟨ps, rfl⟩ := pairs_of h.2
    have h1 := h.1
    unfold pairB at h1
    split at h1
    · rename_i a b
      exact ⟨(a, b) :: ps, rfl⟩
    · cases h1
theorem are_pairs_eq (d : D) (st : Store) (h : thing d = true) : F_are_pairs [d] st = .ok (.val (.bl (match d with | .tup ds => ds.all pairB | _ => false))) st := by
  unfold F_are_pairs runP b_are_pairs x1_are_pairs
  cases d with
  | tup ds =>
    simp only [thing, Bool.and_eq_true, decide_eq_true_eq] at h
    obtain ⟨hl, hm⟩ := h
    have hlc : lc_are_pairs_1 [some (D.tup ds), none] st = _ := evLc_map1 (own := [1]) (m := itSeq (evVar 0)) (g := gdName 1) (e := evAnd (evA fIsi (acons (evVar 1) (acons (evC (.ty "tuple")) (anil)))) (ev2 (fEq false) (evA fLen (acons (evVar 1) (anil))) (evC (.int 2)))) (env := [some (D.tup ds), none]) (st := st) (items := ds) id
      (fun d => D.bl (pairB d)) (fun d => [some (D.tup ds), some d]) (by simp) (by omega) (fun d hd => ⟨by simp [wipeD], fun more => by
        have td := things_mem.mp hm d hd
        cases d with
        | tup es =>
          match es with
          | [] => exact ⟨_, by simp [isiTab]; rfl, by simp [pairB]⟩
          | [a] => exact ⟨_, by simp [isiTab]; rfl, by simp [pairB]⟩
          | [a, b] => exact ⟨_, by simp [isiTab]; rfl, by simp [pairB]⟩
          | a :: b :: c :: r =>
            have q : ¬ ((r.length : Int) + 1 + 1 + 1 = 2) := by omega
            exact ⟨.val (.bl false), by simp [isiTab, q], by simp [pairB]⟩
        | _ => first | (simp [thing] at td; done) | exact ⟨.val (.bl false), by simp [isiTab], by simp [pairB]⟩⟩) (fun d _ => by simp [refsLt])
    simp [isiTab, hlc, List.all_map, Function.comp_def]
  | _ => simp [isiTab, thing] at h ⊢
theorem sortT_eq (ss : List Str) (hl : ss.length < 1000) (st : Store) : fSortSetT [.lst (ss.map D.str)] st = .ok (.new (.lst ((sortT ss).map D.str))) st := by
  have h : ∀ ss : List Str, strsOf (ss.map D.str) = some ss := fun ss => by
    induction ss with
    | nil => rfl
    | cons x ss ih => simp [strsOf, ih]
  simp [fSortSetT, colOf, lstOf, h, hl]
theorem str_map_inj {xs ys : List Str} : (xs.map D.str = ys.map D.str) ↔ xs = ys := by
  constructor
  · intro h
    induction xs generalizing ys with
    | nil => cases ys with
      | nil => rfl
      | cons y ys => simp at h
    | cons x xs ih =>
      cases ys with
      | nil => simp at h
      | cons y ys =>
        simp only [List.map_cons, List.cons.injEq, D.str.injEq] at h
        rw [h.1, ih h.2]
  · rintro rfl; rfl
theorem rises_strs (ss : List Str) (neg : Bool) (st : Store) : fEq neg (.lst ((sortT ss).map D.str)) (.lst (ss.map D.str)) st = .ok (.val (.bl (if neg then !rises leD (ss.map D.str) else rises leD (ss.map D.str)))) st := by
  have k : ∀ (xs : List Str), ∀ d ∈ xs.map D.str, isKey d = true ∧ (toPy d).depth ≤ 50 := fun xs d hd => by
    obtain ⟨x, _, rfl⟩ := List.mem_map.mp hd
    exact ⟨rfl, by simp [toPy, PyData.depth]⟩
  rw [fEq_keys (fun d hd => (k _ d hd).1) (fun d hd => (k _ d hd).1) (fun d hd => (k _ d hd).2)]
  have e1 : decide ((sortT ss).map D.str = ss.map D.str) = decide (sortT ss = ss) := by
    by_cases h : sortT ss = ss
    · simp [h]
    · have : ¬ (sortT ss).map D.str = ss.map D.str := fun z => h (str_map_inj.mp z)
      simp [h, this]
  have e2 : rises leD (ss.map D.str) = rises leT ss := rises_map D.str (fun _ _ => rfl) ss
  rw [e1, e2, ← sorted_rises leT_total fun a _ b _ => leT_anti]
  rfl
end Lw
namespace Lw
open PySem PySem.Spec PyProof.Rows L2 VI
def dpB (m : Int) : D → Bool
  | .tup [w, x] => wordB w && deedB m x
  | _ => false
def gpB (m : Int) : D → Bool
  | .tup [p, x] => nameB p && numB 0 (m - 1) x
  | _ => false
def shiftNone : D → Bool
  | .tup [w, x] => isShift x && decide (w = .str "")
  | _ => false
def fst0 : D → D
  | .tup (a :: _) => a
  | d => d
def deedsB (m : Int) : D → Bool
  | .tup ds => ds.all (dpB m) && (!ds.any shiftNone && rises leD (ds.map fst0))
  | _ => false
def goesB (m : Int) : D → Bool
  | .tup ds => ds.all (gpB m) && rises leD (ds.map fst0)
  | _ => false
def notesB : D → Bool
  | .tup ns => ns.all noteB && rises leD ns
  | _ => false
def stateB (m : Int) : D → Bool
  | .tup [a, b, c] => deedsB m a && (goesB m b && notesB c)
  | _ => false
theorem pair_things {ps : List (D × D)} (h : things (ps.map pr) = true) : ∀ p ∈ ps, thing p.1 = true ∧ thing p.2 = true := fun p hp => by
  have := things_mem.mp h (pr p) (List.mem_map.mpr ⟨p, hp, rfl⟩)
  simp only [thing, things, Bool.and_eq_true] at this
  exact ⟨this.2.1, this.2.2.1⟩
theorem not_pairs {ds : List D} {f : D → Bool} (hf : ∀ d, f d = true → pairB d = true) (h : ds.all pairB = false) : ds.all f = false := by
  cases q : ds.all f with
  | false => rfl
  | true =>
    have : ds.all pairB = true := List.all_eq_true.mpr fun d hd => hf d (List.all_eq_true.mp q d hd)
    rw [h] at this; cases this
theorem dpB_pair {m : Int} (d : D) (h : dpB m d = true) : pairB d = true := by
  unfold dpB at h
  split at h
  · rfl
  · cases h
theorem gpB_pair {m : Int} (d : D) (h : gpB m d = true) : pairB d = true := by
  unfold gpB at h
  split at h
  · rfl
  · cases h
theorem word_str {d : D} (h : wordB d = true) : ∃ x : Str, d = .str x := by
  cases d <;> simp [wordB] at h
  exact ⟨_, rfl⟩
theorem name_str {d : D} (h : nameB d = true) : ∃ x : Str, d = .str x := by
  cases d <;> simp [nameB] at h
  exact ⟨_, rfl⟩
theorem firsts {ps : List (D × D)} (h : ∀ p ∈ ps, ∃ x : Str, p.1 = .str x) : ∃ ss : List Str, ps.map (·.1) = ss.map D.str ∧ ss.length = ps.length := by
  induction ps with
  | nil => exact ⟨[], rfl, rfl⟩
  | cons p ps ih =>
    obtain ⟨ss, e, l⟩ := ih fun q hq => h q (List.mem_cons_of_mem _ hq)
    obtain ⟨x, hx⟩ := h p List.mem_cons_self
    exact ⟨x :: ss, by simp [e, hx], by simp [l]⟩
theorem fst_map (ps : List (D × D)) : (ps.map pr).map fst0 = ps.map (·.1) := by
  rw [List.map_map]; rfl
theorem deed_tup {m : Int} {d : D} (h : deedB m d = true) : ∃ a r, d = .tup (a :: r) := by
  unfold deedB at h
  split at h
  · exact ⟨_, _, rfl⟩
  · exact ⟨_, _, rfl⟩
  · cases h
theorem are_deeds_eq (d : D) (m : Int) (st : Store) (h : thing d = true) : F_are_deeds [d, .int m] st = .ok (.val (.bl (deedsB m d))) st := by
  have ap := are_pairs_eq d st h
  unfold F_are_deeds runP b_are_deeds x1_are_deeds x2_are_deeds x3_are_deeds x4_are_deeds
  cases d with
  | tup ds =>
    simp only [thing, Bool.and_eq_true, decide_eq_true_eq] at h
    obtain ⟨hl, hm⟩ := h
    cases hp : ds.all pairB with
    | false =>
      have q := not_pairs (f := dpB m) dpB_pair hp
      simp only [hp] at ap
      simp [ap, deedsB, q]
    | true =>
      obtain ⟨ps, rfl⟩ := pairs_of hp
      have tp := pair_things hm
      have lp : ps.length ≤ 200 := by simpa using hl
      simp only [hp] at ap
      have hlc : lc_are_deeds_1 [some (D.tup (ps.map pr)), some (.int m), none, none, none] st = _ := evLc_map1 (own := [3, 4]) (m := itSeq (evVar 0)) (g := gdUn [gdName 3, gdName 4]) (e := evAnd (evCall 1 F_is_word (acons (evVar 3) (anil))) (evCall 2 F_is_deed (acons (evVar 4) (acons (evVar 1) (anil))))) (env := [some (D.tup (ps.map pr)), some (.int m), none, none, none]) (st := st) (items := ps) pr
        (fun p => D.bl (dpB m (pr p))) (fun p => [some (D.tup (ps.map pr)), some (.int m), none, some p.1, some p.2]) (by simp) (by omega) (fun p hp => ⟨by simp [wipeD, gdSeq], fun more => by
          have w1 := is_word_eq p.1 (st ++ more) (tp p hp).1
          have w2 := is_deed_eq p.2 m (st ++ more) (tp p hp).2
          cases q1 : wordB p.1
          · exact ⟨.val (.bl false), by simp [w1, q1], by simp [dpB, q1]⟩
          · exact ⟨.val (.bl (deedB m p.2)), by simp [w1, w2, q1], by simp [dpB, q1]⟩⟩) (fun p _ => by simp [refsLt])
      have al : (ps.map fun p => dpB m (pr p)).all id = (ps.map pr).all (dpB m) := by rw [List.all_map, List.all_map]; rfl
      cases q : (ps.map pr).all (dpB m) with
      | false =>
        rw [q] at al
        simp only [List.all_map, Function.comp_def, id] at al
        simp [ap, hlc, deedsB, q, List.all_map, Function.comp_def, al]
      | true =>
        have good : ∀ p ∈ ps, wordB p.1 = true ∧ deedB m p.2 = true := fun p hp => by
          have := List.all_eq_true.mp q (pr p) (List.mem_map.mpr ⟨p, hp, rfl⟩)
          simpa [dpB] using this
        rw [q] at al
        simp only [List.all_map, Function.comp_def, id] at al
        obtain ⟨ss, es, ls⟩ := firsts fun p hp => word_str (good p hp).1
        have hl2 : lc_are_deeds_2 [some (D.tup (ps.map pr)), some (.int m), none, none, none] st = _ := evLc_map1 (own := [3, 4]) (m := itSeq (evVar 0)) (g := gdUn [gdName 3, gdName 4]) (e := evVar 3) (env := [some (D.tup (ps.map pr)), some (.int m), none, none, none]) (st := st) (items := ps) pr
          (fun p => p.1) (fun p => [some (D.tup (ps.map pr)), some (.int m), none, some p.1, some p.2]) (by simp) (by omega) (fun p hp => ⟨by simp [wipeD, gdSeq], fun more => ⟨_, by simp; rfl, rfl⟩⟩) (fun p hp => thing_refs _ (tp p hp).1)
        have hl3 : lc_are_deeds_3 [some (D.tup (ps.map pr)), some (.int m), some (.lst (ss.map D.str)), none, none] st = _ := evLc_map1 (own := [3, 4]) (m := itSeq (evVar 0)) (g := gdUn [gdName 3, gdName 4]) (e := evAnd (ev2 (fEq false) (ev2 fIx (evVar 4) (evC (.int 0))) (evC (.str "shift"))) (ev2 (fEq false) (evVar 3) (evC (.str "")))) (env := [some (D.tup (ps.map pr)), some (.int m), some (.lst (ss.map D.str)), none, none]) (st := st) (items := ps) pr
          (fun p => D.bl (shiftNone (pr p))) (fun p => [some (D.tup (ps.map pr)), some (.int m), some (.lst (ss.map D.str)), some p.1, some p.2]) (by simp) (by omega) (fun p hp => ⟨by simp [wipeD, gdSeq], fun more => by
            obtain ⟨a, r, ea⟩ := deed_tup (good p hp).2
            obtain ⟨x, ex⟩ := word_str (good p hp).1
            have tr := (tp p hp).2
            rw [ea] at tr
            simp only [thing, things, Bool.and_eq_true] at tr
            have f1 := fEq_str (x := "shift") (neg := false) (st := st ++ more) tr.2.1
            have f2 := eqD_is (x := "shift") tr.2.1
            have rp : (0 : Int) < (r.length : Int) + 1 := by omega
            by_cases z1 : a = .str "shift"
            · by_cases z2 : x = ""
              · exact ⟨.val (.bl true), by simp [ea, ex, z1, z2, atI, ixN, rp], by simp [shiftNone, isShift, ea, ex, z1, z2]⟩
              · exact ⟨.val (.bl false), by simp [ea, ex, z1, z2, atI, ixN, rp], by simp [shiftNone, isShift, ea, ex, z1, z2]⟩
            · exact ⟨.val (.bl false), by simp [ea, ex, z1, atI, ixN, rp, f1, f2], by simp [shiftNone, isShift, ea, ex, z1]⟩⟩) (fun p _ => by simp [refsLt])
        rw [es] at hl2
        have so := sortT_eq ss (by omega) st
        have fe := rises_strs ss false st
        have an : ((ps.map pr).any shiftNone) = ps.any fun p => shiftNone (pr p) := by rw [List.any_map]; rfl
        obtain ⟨W, hW⟩ : ∃ W, W = ss.map D.str := ⟨_, rfl⟩
        have rr : rises leD ((ps.map pr).map fst0) = rises leD W := by rw [fst_map, es, hW]
        have rr2 : rises leD (ps.map fun x => fst0 (pr x)) = rises leD W := by rw [← rr, List.map_map]; rfl
        rw [← hW] at hl2 hl3 so fe
        have pW : ∀ k, refsLts k W = true := fun k => by rw [hW, refsLts_all]; intro d hd; obtain ⟨x, _, rfl⟩ := List.mem_map.mp hd; simp [refsLt]
        cases qa : ps.any fun p => shiftNone (pr p)
        · have : (ps.any fun x => shiftNone (D.tup [x.fst, x.snd])) = false := qa
          simp [ap, hlc, al, hl2, hl3, so, fe, deedsB, q, an, qa, rr, rr2, this, List.all_map, List.any_map, Function.comp_def]
        · have : (ps.any fun x => shiftNone (D.tup [x.fst, x.snd])) = true := qa
          simp [ap, hlc, al, hl2, hl3, so, fe, deedsB, q, an, qa, rr, rr2, this, List.all_map, List.any_map, Function.comp_def]
  | _ => simp [ap, deedsB, thing] at h ⊢
end Lw
namespace Lw
open PySem PySem.Spec PyProof.Rows L2 VI
theorem are_goes_eq (d : D) (m : Int) (st : Store) (h : thing d = true) : F_are_goes [d, .int m] st = .ok (.val (.bl (goesB m d))) st := by
  have ap := are_pairs_eq d st h
  unfold F_are_goes runP b_are_goes x1_are_goes x2_are_goes x3_are_goes x4_are_goes
  cases d with
  | tup ds =>
    simp only [thing, Bool.and_eq_true, decide_eq_true_eq] at h
    obtain ⟨hl, hm⟩ := h
    cases hp : ds.all pairB with
    | false =>
      have q := not_pairs (f := gpB m) gpB_pair hp
      simp only [hp] at ap
      simp [ap, goesB, q]
    | true =>
      obtain ⟨ps, rfl⟩ := pairs_of hp
      have tp := pair_things hm
      have lp : ps.length ≤ 200 := by simpa using hl
      simp only [hp] at ap
      have hlc : lc_are_goes_1 [some (D.tup (ps.map pr)), some (.int m), none, none, none] st = _ := evLc_map1 (own := [3, 4]) (m := itSeq (evVar 0)) (g := gdUn [gdName 3, gdName 4]) (e := evAnd (evCall 1 F_is_name (acons (evVar 3) (anil))) (evCall 3 F_is_count (acons (evVar 4) (acons (evC (.int 0)) (acons (ev2 fSub (evVar 1) (evC (.int 1))) (anil)))))) (env := [some (D.tup (ps.map pr)), some (.int m), none, none, none]) (st := st) (items := ps) pr
        (fun p => D.bl (gpB m (pr p))) (fun p => [some (D.tup (ps.map pr)), some (.int m), none, some p.1, some p.2]) (by simp) (by omega) (fun p hp => ⟨by simp [wipeD, gdSeq], fun more => by
          have w1 := is_name_eq p.1 (st ++ more) (tp p hp).1
          have w2 := is_count_eq p.2 0 (m - 1) (st ++ more) (tp p hp).2
          cases q1 : nameB p.1
          · exact ⟨.val (.bl false), by simp [w1, q1], by simp [gpB, q1]⟩
          · exact ⟨.val (.bl (numB 0 (m - 1) p.2)), by simp [w1, w2, q1], by simp [gpB, q1]⟩⟩) (fun p _ => by simp [refsLt])
      have al : (ps.map fun p => gpB m (pr p)).all id = (ps.map pr).all (gpB m) := by rw [List.all_map, List.all_map]; rfl
      cases q : (ps.map pr).all (gpB m) with
      | false =>
        rw [q] at al
        simp only [List.all_map, Function.comp_def, id] at al
        simp [ap, hlc, goesB, q, List.all_map, Function.comp_def, al]
      | true =>
        have good : ∀ p ∈ ps, nameB p.1 = true := fun p hp => by
          have := List.all_eq_true.mp q (pr p) (List.mem_map.mpr ⟨p, hp, rfl⟩)
          simp only [gpB, Bool.and_eq_true] at this
          exact this.1
        rw [q] at al
        simp only [List.all_map, Function.comp_def, id] at al
        obtain ⟨ss, es, ls⟩ := firsts fun p hp => name_str (good p hp)
        have hl2 : lc_are_goes_2 [some (D.tup (ps.map pr)), some (.int m), none, none, none] st = _ := evLc_map1 (own := [3, 4]) (m := itSeq (evVar 0)) (g := gdUn [gdName 3, gdName 4]) (e := evVar 3) (env := [some (D.tup (ps.map pr)), some (.int m), none, none, none]) (st := st) (items := ps) pr
          (fun p => p.1) (fun p => [some (D.tup (ps.map pr)), some (.int m), none, some p.1, some p.2]) (by simp) (by omega) (fun p hp => ⟨by simp [wipeD, gdSeq], fun more => ⟨_, by simp; rfl, rfl⟩⟩) (fun p hp => thing_refs _ (tp p hp).1)
        rw [es] at hl2
        have so := sortT_eq ss (by omega) st
        have fe := rises_strs ss false st
        obtain ⟨W, hW⟩ : ∃ W, W = ss.map D.str := ⟨_, rfl⟩
        have rr : rises leD ((ps.map pr).map fst0) = rises leD W := by rw [fst_map, es, hW]
        have rr2 : rises leD (ps.map fun x => fst0 (pr x)) = rises leD W := by rw [← rr, List.map_map]; rfl
        rw [← hW] at hl2 so fe
        simp [ap, hlc, al, hl2, so, fe, goesB, q, rr, rr2, List.all_map, List.any_map, Function.comp_def]
  | _ => simp [ap, goesB, thing] at h ⊢
theorem numB_int {lo hi : Int} {d : D} (h : numB lo hi d = true) : ∃ i, d = .int i := by
  cases d <;> simp [numB] at h
  exact ⟨_, rfl⟩
theorem note_form {d : D} (h : noteB d = true) : ∃ (i j : Int) (x : Str), d = .tup [.int i, .int j, .str x] := by
  unfold noteB at h
  split at h
  · rename_i a b c
    simp only [Bool.or_eq_true, Bool.and_eq_true, decide_eq_true_eq] at h
    rcases h with ⟨⟨rfl, h2⟩, rfl⟩ | ⟨⟨h1, h2⟩, h3⟩
    · obtain ⟨j, rfl⟩ := numB_int h2; exact ⟨_, _, _, rfl⟩
    · obtain ⟨i, rfl⟩ := numB_int h1
      obtain ⟨j, rfl⟩ := numB_int h2
      obtain ⟨x, rfl⟩ := word_str h3
      exact ⟨_, _, _, rfl⟩
  · cases h
theorem note_key {d : D} (h : noteB d = true) : keyTup d = true ∧ isKey d = true ∧ (toPy d).depth ≤ 50 := by
  obtain ⟨i, j, x, rfl⟩ := note_form h
  simp [keyTup, isKeys, isKey, nkD, nkDs, NestedKey.depth, NestedKey.depthAll, toPy, toPys, PyData.depth, PyData.depthAll]
theorem notes_alike {ns : List D} (h : ∀ d ∈ ns, noteB d = true) : alikes ns = true := by
  simp only [alikes, List.all_eq_true]
  intro d hd e he
  obtain ⟨i, j, x, rfl⟩ := note_form (h d hd)
  obtain ⟨i, j, x, rfl⟩ := note_form (h e he)
  simp [toPy, toPys, W.alike, W.alikeAll]
theorem notes_anti {ns : List D} (h : ∀ d ∈ ns, noteB d = true) : ∀ a ∈ ns, ∀ b ∈ ns, leD a b = true → leD b a = true → a = b := fun a ha b hb h1 h2 => by
  have al := notes_alike h
  unfold alikes at al
  rw [List.all_eq_true] at al
  exact leD_anti (note_key (h a ha)).1 (note_key (h b hb)).1 (List.all_eq_true.mp (al a ha) b hb) h1 h2
theorem notes_sort {ns : List D} (h : ∀ d ∈ ns, noteB d = true) (hl : ns.length ≤ 200) (neg : Bool) (st : Store) :
    ∃ w, fSortSetT [.tup ns] st = .ok (.new (.lst w)) st ∧ fEq neg (.lst w) (.lst ns) st = .ok (.val (.bl (if neg then !rises leD ns else rises leD ns))) st := by
  cases ns with
  | nil => exact ⟨[], by simp [fSortSetT, colOf, strsOf, sortT, nub, isort], by simp [fEq, unref, isPy, isPys, shallow, toPy, toPys, PyData.depth, PyData.depthAll, eqD, PyData.eqv, PyData.eqvAll, rises]⟩
  | cons n r =>
    obtain ⟨i, j, x, e⟩ := note_form (h n List.mem_cons_self)
    have s1 : strsOf (n :: r) = none := by rw [e]; rfl
    have s2 : intsD (n :: r) = none := by rw [e]; rfl
    have ok : okKeys (n :: r) = true := by
      simp only [okKeys, Bool.and_eq_true, decide_eq_true_eq, List.all_eq_true]
      exact ⟨⟨by omega, fun d hd => (note_key (h d hd)).1⟩, notes_alike h⟩
    refine ⟨sortSet (n :: r), by simp [fSortSetT, fSortSet, colOf, s1, s2, ok], ?_⟩
    rw [fEq_keys (fun d hd => (note_key (h d (mem_sortSet.mp hd))).2.1) (fun d hd => (note_key (h d hd)).2.1) (fun d hd => (note_key (h d hd)).2.2)]
    rw [← sorted_rises leD_total (notes_anti h)]
    rfl
theorem are_notes_eq (d : D) (st : Store) (h : thing d = true) : F_are_notes [d] st = .ok (.val (.bl (notesB d))) st := by
  unfold F_are_notes runP b_are_notes x1_are_notes x2_are_notes x3_are_notes
  cases d with
  | tup ns =>
    simp only [thing, Bool.and_eq_true, decide_eq_true_eq] at h
    obtain ⟨hl, hm⟩ := h
    have hlc : lc_are_notes_1 [some (D.tup ns), none] st = _ := evLc_map1 (own := [1]) (m := itSeq (evVar 0)) (g := gdName 1) (e := evCall 1 F_is_note (acons (evVar 1) (anil))) (env := [some (D.tup ns), none]) (st := st) (items := ns) id
      (fun d => D.bl (noteB d)) (fun d => [some (D.tup ns), some d]) (by simp) (by omega) (fun d hd => ⟨by simp [wipeD], fun more => ⟨.val (.bl (noteB d)), by
        have := is_note_eq d (st ++ more) (things_mem.mp hm d hd)
        simp [this], rfl⟩⟩) (fun d _ => by simp [refsLt])
    cases q : ns.all noteB with
    | false =>
      simp [isiTab, hlc, notesB, q, List.all_map, Function.comp_def]
    | true =>
      obtain ⟨w, e1, e2⟩ := notes_sort (List.all_eq_true.mp q) hl false st
      simp [isiTab, hlc, notesB, q, List.all_map, Function.comp_def, e1, e2]
  | _ => simp [isiTab, notesB, thing] at h ⊢
theorem is_state_eq (d : D) (m : Int) (st : Store) (h : thing d = true) : F_is_state [d, .int m] st = .ok (.val (.bl (stateB m d))) st := by
  unfold F_is_state runP b_is_state x1_is_state x2_is_state x3_is_state
  cases d with
  | tup ds =>
    simp only [thing, Bool.and_eq_true, decide_eq_true_eq] at h
    obtain ⟨h0, hm⟩ := h
    match ds, h0, hm with
    | [], _, _ => simp [isiTab, stateB]
    | [a], _, _ => simp [isiTab, stateB]
    | [a, b], _, _ => simp [isiTab, stateB]
    | [a, b, c], _, hm =>
      have n1 := are_deeds_eq a m st (things_mem.mp hm a (by simp))
      have n2 := are_goes_eq b m st (things_mem.mp hm b (by simp))
      have n3 := are_notes_eq c st (things_mem.mp hm c (by simp))
      cases q1 : deedsB m a <;> cases q2 : goesB m b <;> simp [isiTab, stateB, atI, ixN, n1, n2, n3, q1, q2]
    | a :: b :: c :: e :: r, h0, _ =>
      have q : ¬ ((r.length : Int) + 1 + 1 + 1 + 1 = 3) := by omega
      simp [isiTab, stateB, q]
  | _ => simp [isiTab, stateB, thing] at h ⊢
end Lw
namespace Lw
open PySem PySem.Spec PyProof.Rows L2 VI
def isTup : D → Bool
  | .tup _ => true
  | _ => false
theorem any_chk {items : List D} {c : D → Bool} (py : ∀ d ∈ items, thing d = true) (st : Store) : fEq true (.lst ((items.filter c).map id)) (.lst []) st = .ok (.val (.bl (items.any c))) st := by
  rw [fEq_nil (by rw [isPys_all]; intro d hd; obtain ⟨e, he, rfl⟩ := List.mem_map.mp hd; exact thing_py _ (py _ (List.mem_filter.mp he).1))]
  have : (!((items.filter c).map id).isEmpty) = items.any c := by
    rw [List.isEmpty_map]
    induction items with
    | nil => rfl
    | cons a l ih =>
      rw [List.filter_cons, List.any_cons]
      cases q : c a
      · simp only [if_false, Bool.false_eq_true, Bool.false_or]; exact ih fun d hd => py d (List.mem_cons_of_mem _ hd)
      · simp
  simp only [if_true]
  rw [this]
/-- `if [..] != []: return False` -/
theorem stage {lc : EM} {env : DEnv} {st : Store} {items : List D} {c : D → Bool} (h : lc env st = .ok (.new (.lst ((items.filter c).map id))) st) (th : ∀ d ∈ items, thing d = true) :
    sIf (tvB (ev2 (fEq true) lc (evLst (anil)))) (sRet (evC (.bl false))) sNext env st = if items.any c then .ret (.val (.bl false)) st else .nx env st := by
  have f := any_chk (c := c) th st
  obtain ⟨R, hR⟩ : ∃ R, R = (items.filter c).map id := ⟨_, rfl⟩
  rw [← hR] at h f
  cases q : items.any c <;> rw [q] at f <;> simp [h, f]
theorem all_and {α : Type} {f g : α → Bool} : ∀ l : List α, (l.all f && l.all g) = l.all fun d => f d && g d
  | [] => rfl
  | a :: l => by
    rw [List.all_cons, List.all_cons, List.all_cons, ← all_and l]
    cases f a <;> cases g a <;> simp
theorem seq_ret {a b : SM} {env : DEnv} {s : Store} {w : Wv} (h : a env s = .ret w s) : sSeq a b env s = .ret w s := by rw [sSeq_s, h]; rfl
/-- [x for x in items if test(x)] -/
theorem chk_lc {own : List Nat} {m : IM} {g : GD} {t : TM} {i : Nat} {env : DEnv} {st : Store} {items : List D} {c : D → Bool} (e1 : D → DEnv) (hm : m env st = .ok ⟨items, none⟩ st) (hl : items.length ≤ 100000)
    (hg : ∀ d ∈ items, g d (wipeD env own) = some (e1 d) ∧ (e1 d)[i]? = some (some d)) (ht : ∀ d ∈ items, ∀ more : Store, t (e1 d) (st ++ more) = .ok (c d) (st ++ more)) (th : ∀ d ∈ items, thing d = true) :
    evLc own m g t (evVar i) env st = .ok (.new (.lst ((items.filter c).map id))) st :=
  evLc_map (items := items) id c id e1 (by simpa using hm) hl (fun d hd => ⟨(hg d hd).1, fun more => ⟨ht d hd more, fun _ => ⟨.val d, by simp [evVar, (hg d hd).2], rfl⟩⟩⟩) fun d hd _ => thing_refs _ (th d hd)
theorem cmp_strs {ss : List Str} (hl : ss.length ≤ 1000) : cmpOk (ss.map D.str) := by
  refine ⟨by simpa using hl, fun a ha b hb st => ?_⟩
  obtain ⟨x, _, rfl⟩ := List.mem_map.mp ha
  obtain ⟨y, _, rfl⟩ := List.mem_map.mp hb
  simp [fGeA, isPy, toPy, W.alike, noneD, shallow, PyData.depth]
theorem cmp_notes {ns : List D} (h : ∀ d ∈ ns, noteB d = true) (hl : ns.length ≤ 1000) : cmpOk ns := by
  refine ⟨hl, fun a ha b hb st => ?_⟩
  obtain ⟨i, j, x, rfl⟩ := note_form (h a ha)
  obtain ⟨i, j, x, rfl⟩ := note_form (h b hb)
  simp [fGeA, isPy, isPys, toPy, toPys, W.alike, W.alikeAll, noneD, shallow, PyData.depth, PyData.depthAll]
def c5 (d : D) : Bool := !(pairB d && wordB (fst0 d))
def c6 (m : Int) : D → Bool
  | .tup [w, x] => !(deedB m x && !(isShift x && decide (w = .str "")))
  | _ => true
def c7 (m : Int) : D → Bool
  | .tup [w, x] => decide (w = .str "") || !numB 0 (m - 1) x
  | _ => true
theorem any_all {items : List D} {c f : D → Bool} (h : ∀ d ∈ items, c d = !f d) : items.any c = !items.all f := by
  induction items with
  | nil => rfl
  | cons a l ih =>
    rw [List.any_cons, List.all_cons, h a List.mem_cons_self, ih fun d hd => h d (List.mem_cons_of_mem _ hd)]
    cases f a <;> simp
theorem all_congr {items : List D} {f g : D → Bool} (h : ∀ d ∈ items, f d = g d) : items.all f = items.all g := by
  induction items with
  | nil => rfl
  | cons a l ih => rw [List.all_cons, List.all_cons, h a List.mem_cons_self, ih fun d hd => h d (List.mem_cons_of_mem _ hd)]
section
variable {m : Int} {ds gs ns : List D} {st : Store}
abbrev T3 (ds gs ns : List D) : D := .tup [.tup ds, .tup gs, .tup ns]
abbrev E7 (m : Int) (ds gs ns : List D) (a5 a6 : Option D) : DEnv := [some (T3 ds gs ns), some (.int m), some (.tup ds), some (.tup gs), some (.tup ns), a5, a6]
/-- the law's look, from where the parts are told -/
theorem law_rest (hd : ∀ d ∈ ds, thing d = true) (hg : ∀ d ∈ gs, thing d = true) (hn : ∀ d ∈ ns, thing d = true) (ld : ds.length ≤ 200) (lg : gs.length ≤ 200) (ln : ns.length ≤ 200) :
    (sSeq (x6_f_law_is_state) (sSeq (x8_f_law_is_state) (sSeq (x10_f_law_is_state) (sSeq (x12_f_law_is_state) (sSeq (x14_f_law_is_state) (sSeq (x16_f_law_is_state) (x18_f_law_is_state))))))) (E7 m ds gs ns none none) st =
      .ret (.val (.bl (stateB m (T3 ds gs ns)))) st := by
  have hdg : ∀ d ∈ ds ++ gs, thing d = true := fun d h => (List.mem_append.mp h).elim (hd d) (hg d)
  have hdgn : ∀ d ∈ ds ++ gs ++ ns, thing d = true := fun d h => (List.mem_append.mp h).elim (hdg d) (hn d)
  have k1 : catOk ds gs = true := by simp [catOk]; omega
  have k2 : catOk (ds ++ gs) ns = true := by simp [catOk]; omega
  -- the members are tuples
  have l2 : lc_f_law_is_state_2 (E7 m ds gs ns none none) st = _ := chk_lc (own := [5]) (m := itSeq (ev2 fAdd (ev2 fAdd (evVar 2) (evVar 3)) (evVar 4))) (g := gdName 5) (t := tvNot (tvB (evA fIsi (acons (evVar 5) (acons (evC (.ty "tuple")) (anil)))))) (i := 5) (items := ds ++ gs ++ ns) (c := fun d => !isTup d) (fun d => E7 m ds gs ns (some d) none)
    (by simp [k1, k2]) (by simp; omega) (fun d _ => by simp [wipeD]) (fun d h more => by
      have t := hdgn d h
      cases d <;> first | (simp [thing] at t; done) | (simp [isiTab, isTup])) hdgn
  have S6 := stage l2 hdgn
  cases q2 : (ds ++ gs ++ ns).any fun d => !isTup d with
  | true =>
    have e : stateB m (T3 ds gs ns) = false := by
      cases q : stateB m (T3 ds gs ns) with
      | false => rfl
      | true =>
        simp only [stateB, deedsB, goesB, notesB, Bool.and_eq_true, List.all_eq_true] at q
        obtain ⟨d, h1, h2⟩ := List.any_eq_true.mp q2
        have : isTup d = true := by
          rcases List.mem_append.mp h1 with h1 | h1
          · rcases List.mem_append.mp h1 with h1 | h1
            · have := q.1.1 d h1; unfold dpB at this; split at this <;> first | rfl | cases this
            · have := q.2.1.1 d h1; unfold gpB at this; split at this <;> first | rfl | cases this
          · have := q.2.2.1 d h1; unfold noteB at this; split at this <;> first | rfl | cases this
        simp [this] at h2
    rw [q2] at S6
    rw [e]
    exact seq_ret S6
  | false =>
  have allT : ∀ d ∈ ds ++ gs ++ ns, isTup d = true := fun d h => by
    have := List.any_eq_false.mp q2 d h
    simpa using this
  rw [q2] at S6
  rw [run_step (a := x6_f_law_is_state) S6]
  show (sSeq (x8_f_law_is_state) _) (E7 m ds gs ns none none) st = _
  -- pairs with words
  have l3 : lc_f_law_is_state_3 (E7 m ds gs ns none none) st = _ := chk_lc (own := [5]) (m := itSeq (ev2 fAdd (evVar 2) (evVar 3))) (g := gdName 5) (t := tvOr (tvB (ev2 (fEq true) (evA fLen (acons (evVar 5) (anil))) (evC (.int 2)))) (tvNot (tvB (evCall 1 F_f_law_is_word (acons (ev2 fIx (evVar 5) (evC (.int 0))) (anil)))))) (i := 5) (items := ds ++ gs) (c := c5) (fun d => E7 m ds gs ns (some d) none)
    (by simp [k1]) (by simp; omega) (fun d _ => by simp [wipeD]) (fun d h more => by
      have t := hdg d h
      have tt := allT d (List.mem_append_left _ h)
      cases d with
      | tup es =>
        simp only [thing, Bool.and_eq_true] at t
        match es, t with
        | [], _ => simp [c5, pairB]
        | [a], _ => simp [c5, pairB]
        | [a, b], t =>
          have w := law_is_word_eq a (st ++ more) (things_mem.mp t.2 a (by simp))
          cases q : wordB a <;> simp [c5, pairB, fst0, atI, ixN, w, q]
        | a :: b :: c :: r, _ =>
          have q : ¬ ((r.length : Int) + 1 + 1 + 1 = 2) := by omega
          simp [c5, pairB, q]
      | _ => simp [isTup] at tt) hdg
  have S8 := stage l3 hdg
  cases q3 : (ds ++ gs).any c5 with
  | true =>
    have e : stateB m (T3 ds gs ns) = false := by
      cases q : stateB m (T3 ds gs ns) with
      | false => rfl
      | true =>
        simp only [stateB, deedsB, goesB, notesB, Bool.and_eq_true, List.all_eq_true] at q
        obtain ⟨d, h1, h2⟩ := List.any_eq_true.mp q3
        have : c5 d = false := by
          rcases List.mem_append.mp h1 with h1 | h1
          · have := q.1.1 d h1
            unfold dpB at this
            split at this
            · simp only [Bool.and_eq_true] at this; simp [c5, pairB, fst0, this.1]
            · cases this
          · have := q.2.1.1 d h1
            unfold gpB at this
            split at this
            · rename_i p x
              simp only [Bool.and_eq_true] at this
              obtain ⟨z, rfl⟩ := name_str this.1
              have hz : z ≠ "" := fun e => by subst e; exact absurd this.1 (by decide)
              simp [c5, pairB, fst0, word_name hz, this.1]
            · cases this
        rw [this] at h2; cases h2
    rw [q3] at S8
    rw [e]
    exact seq_ret S8
  | false =>
  rw [q3] at S8
  rw [run_step (a := x8_f_law_is_state) S8]
  show (sSeq (x10_f_law_is_state) _) (E7 m ds gs ns none none) st = _
  have pw : ∀ d ∈ ds ++ gs, ∃ (z : Str) (x : D), d = .tup [.str z, x] ∧ wordB (.str z) = true ∧ thing (.str z) = true ∧ thing x = true := fun d h => by
    have := List.any_eq_false.mp q3 d h
    simp only [c5, Bool.not_eq_true', Bool.not_eq_false', Bool.and_eq_true, Bool.not_eq_false] at this
    have t := hdg d h
    obtain ⟨h1, h2⟩ := this
    unfold pairB at h1
    split at h1
    · rename_i a b
      obtain ⟨z, ez⟩ := word_str h2
      simp only [fst0] at ez h2
      subst ez
      simp only [thing, things, Bool.and_eq_true] at t
      exact ⟨z, b, rfl, h2, by simpa only [thing] using t.2.1, t.2.2.1⟩
    · cases h1
  have pd : ∀ d ∈ ds, _ := fun d h => pw d (List.mem_append_left _ h)
  have pg : ∀ d ∈ gs, _ := fun d h => pw d (List.mem_append_right _ h)
  -- deeds
  have l4 : lc_f_law_is_state_4 (E7 m ds gs ns none none) st = _ := chk_lc (own := [5]) (m := itSeq (evVar 2)) (g := gdName 5) (t := tvNot (tvB (evCall 3 F_f_law_is_deed (acons (ev2 fIx (evVar 5) (evC (.int 0))) (acons (ev2 fIx (evVar 5) (evC (.int 1))) (acons (evVar 1) (anil))))))) (i := 5) (items := ds) (c := c6 m) (fun d => E7 m ds gs ns (some d) none)
    (by simp) (by omega) (fun d _ => by simp [wipeD]) (fun d h more => by
      obtain ⟨z, x, rfl, hw, tz, tx⟩ := pd d h
      have w := law_is_deed_eq (.str z) x m (st ++ more) tz tx
      simp [c6, atI, ixN, w]) hd
  have S10 := stage l4 hd
  have l5 : lc_f_law_is_state_5 (E7 m ds gs ns none none) st = _ := chk_lc (own := [5]) (m := itSeq (evVar 3)) (g := gdName 5) (t := tvOr (tvB (ev2 (fEq false) (ev2 fIx (evVar 5) (evC (.int 0))) (evC (.str "")))) (tvNot (tvB (evCall 3 F_f_law_is_number (acons (ev2 fIx (evVar 5) (evC (.int 1))) (acons (evC (.int 0)) (acons (ev2 fSub (evVar 1) (evC (.int 1))) (anil)))))))) (i := 5) (items := gs) (c := c7 m) (fun d => E7 m ds gs ns (some d) none)
    (by simp) (by omega) (fun d _ => by simp [wipeD]) (fun d h more => by
      obtain ⟨z, x, rfl, hw, tz, tx⟩ := pg d h
      have w := law_is_number_eq x 0 (m - 1) (st ++ more) tx
      by_cases q : z = ""
      · simp [c7, atI, ixN, w, q]
      · simp [c7, atI, ixN, w, q]) hg
  have S12 := stage l5 hg
  have l6 : lc_f_law_is_state_6 (E7 m ds gs ns none none) st = _ := chk_lc (own := [6]) (m := itSeq (evVar 4)) (g := gdName 6) (t := tvOr (tvB (ev2 (fEq true) (evA fLen (acons (evVar 6) (anil))) (evC (.int 3)))) (tvNot (tvB (evCall 1 F_f_law_is_note (acons (evVar 6) (anil)))))) (i := 6) (items := ns) (c := fun d => !noteB d) (fun d => E7 m ds gs ns none (some d))
    (by simp) (by omega) (fun d _ => by simp [wipeD]) (fun d h more => by
      have t := hn d h
      have tt := allT d (List.mem_append_right _ h)
      cases d with
      | tup es =>
        simp only [thing, Bool.and_eq_true] at t
        match es, t with
        | [], _ => simp [noteB]
        | [a], _ => simp [noteB]
        | [a, b], _ => simp [noteB]
        | [a, b, c], t =>
          have w := law_is_note_eq a b c (st ++ more) (things_mem.mp t.2 a (by simp)) (things_mem.mp t.2 b (by simp)) (things_mem.mp t.2 c (by simp))
          generalize noteB (D.tup [a, b, c]) = q at w ⊢
          simp [w]
        | a :: b :: c :: e :: r, _ =>
          have q : ¬ ((r.length : Int) + 1 + 1 + 1 + 1 = 3) := by omega
          simp [noteB, q]
      | _ => simp [isTup] at tt) hn
  have S14 := stage l6 hn
  have s1 : deedsB m (.tup ds) = (ds.all (fun d => !c6 m d) && rises leD (ds.map fst0)) := by
    have e1 : ds.all (fun d => !c6 m d) = (ds.all (dpB m) && !ds.any shiftNone) := by
      rw [any_all (f := fun d => !shiftNone d) (fun d _ => by simp)]
      rw [Bool.not_not, all_and]
      refine all_congr fun d h => ?_
      obtain ⟨z, x, rfl, hw, _⟩ := pd d h
      simp only [c6, dpB, shiftNone, hw, Bool.true_and, Bool.not_not]
    simp only [deedsB, e1, Bool.and_assoc]
  have s2 : goesB m (.tup gs) = (gs.all (fun d => !c7 m d) && rises leD (gs.map fst0)) := by
    have e1 : gs.all (fun d => !c7 m d) = gs.all (gpB m) := by
      refine all_congr fun d h => ?_
      obtain ⟨z, x, rfl, hw, _⟩ := pg d h
      by_cases q : z = ""
      · subst q
        have : nameB (.str "") = false := by decide
        simp [c7, gpB, this]
      · simp [c7, gpB, q, ← word_name q, hw]
    simp only [goesB, e1]
  have a6 := any_all (items := ds) (c := c6 m) (f := fun d => !c6 m d) (fun d _ => by simp)
  have a7 := any_all (items := gs) (c := c7 m) (f := fun d => !c7 m d) (fun d _ => by simp)
  have a8 := any_all (items := ns) (c := fun d => !noteB d) (f := noteB) (fun d _ => rfl)
  rw [a6] at S10
  rw [a7] at S12
  rw [a8] at S14
  have eS : stateB m (T3 ds gs ns) = ((ds.all (fun d => !c6 m d) && rises leD (ds.map fst0)) && ((gs.all (fun d => !c7 m d) && rises leD (gs.map fst0)) && (ns.all noteB && rises leD ns))) := by
    show (deedsB m (.tup ds) && (goesB m (.tup gs) && notesB (.tup ns))) = _
    rw [s1, s2]; rfl
  cases q4 : ds.all (fun d => !c6 m d) with
  | false =>
    rw [q4] at S10
    rw [eS]
    simp only [q4, Bool.false_and, Bool.and_false, Bool.true_and]
    exact seq_ret S10
  | true =>
  rw [q4] at S10
  rw [run_step (a := x10_f_law_is_state) S10]
  show (sSeq (x12_f_law_is_state) _) (E7 m ds gs ns none none) st = _
  cases q5 : gs.all (fun d => !c7 m d) with
  | false =>
    rw [q5] at S12
    rw [eS]
    simp only [q4, q5, Bool.false_and, Bool.and_false, Bool.true_and]
    exact seq_ret S12
  | true =>
  rw [q5] at S12
  rw [run_step (a := x12_f_law_is_state) S12]
  show (sSeq (x14_f_law_is_state) _) (E7 m ds gs ns none none) st = _
  cases q6 : ns.all noteB with
  | false =>
    rw [q6] at S14
    rw [eS]
    simp only [q4, q5, q6, Bool.false_and, Bool.and_false, Bool.true_and]
    exact seq_ret S14
  | true =>
  rw [q6] at S14
  rw [run_step (a := x14_f_law_is_state) S14]
  show (sSeq (x16_f_law_is_state) _) (E7 m ds gs ns none none) st = _
  have firstsOf : ∀ {xs : List D}, (∀ d ∈ xs, ∃ (z : Str) (x : D), d = .tup [.str z, x] ∧ wordB (.str z) = true ∧ thing (.str z) = true ∧ thing x = true) → ∃ ss : List Str, xs.map fst0 = ss.map D.str ∧ ss.length = xs.length := by
    intro xs
    induction xs with
    | nil => exact fun _ => ⟨[], rfl, rfl⟩
    | cons d xs ih =>
      intro h
      obtain ⟨ss, e, l⟩ := ih fun q hq => h q (List.mem_cons_of_mem _ hq)
      obtain ⟨z, x, rfl, _⟩ := h d List.mem_cons_self
      exact ⟨z :: ss, by simp [e, fst0], by simp [l]⟩
  obtain ⟨s7, e7, n7⟩ := firstsOf pd
  obtain ⟨s8, e8, n8⟩ := firstsOf pg
  have l7 : lc_f_law_is_state_7 (E7 m ds gs ns none none) st = .ok (.new (.lst (ds.map fst0))) st := evLc_map1 (own := [5]) (m := itSeq (evVar 2)) (g := gdName 5) (e := ev2 fIx (evVar 5) (evC (.int 0))) (items := ds) id fst0 (fun d => E7 m ds gs ns (some d) none)
    (by simp) (by omega) (fun d h => ⟨by simp [wipeD], fun more => by
      obtain ⟨z, x, rfl, hw, tz, tx⟩ := pd d h
      exact ⟨_, by simp [atI, ixN]; rfl, rfl⟩⟩) (fun d h => by
      obtain ⟨z, x, rfl, hw, tz, tx⟩ := pd d h
      simp [fst0, refsLt])
  have l8 : lc_f_law_is_state_8 (E7 m ds gs ns none none) st = .ok (.new (.lst (gs.map fst0))) st := evLc_map1 (own := [5]) (m := itSeq (evVar 3)) (g := gdName 5) (e := ev2 fIx (evVar 5) (evC (.int 0))) (items := gs) id fst0 (fun d => E7 m ds gs ns (some d) none)
    (by simp) (by omega) (fun d h => ⟨by simp [wipeD], fun more => by
      obtain ⟨z, x, rfl, hw, tz, tx⟩ := pg d h
      exact ⟨_, by simp [atI, ixN]; rfl, rfl⟩⟩) (fun d h => by
      obtain ⟨z, x, rfl, hw, tz, tx⟩ := pg d h
      simp [fst0, refsLt])
  have r7 := rises_eq (d := .lst (ds.map fst0)) rfl (by rw [e7]; exact cmp_strs (by omega)) st
  have r8 := rises_eq (d := .lst (gs.map fst0)) rfl (by rw [e8]; exact cmp_strs (by omega)) st
  have r9 := rises_eq (d := .tup ns) rfl (cmp_notes (List.all_eq_true.mp q6) (by omega)) st
  rw [eS, q4, q5, q6]
  unfold x16_f_law_is_state x17_f_law_is_state x18_f_law_is_state
  cases z7 : rises leD (ds.map fst0)
  · simp [l7, r7, z7]
  · cases z8 : rises leD (gs.map fst0)
    · simp [l7, r7, z7, l8, r8, z8]
    · simp [l7, r7, z7, l8, r8, z8, r9]
end
end Lw
namespace Lw
open PySem PySem.Spec PyProof.Rows L2 VI
theorem tup_of {d : D} (h : isTup d = true) : ∃ ds, d = .tup ds := by
  cases d <;> simp [isTup] at h
  exact ⟨_, rfl⟩
theorem law_is_state_eq (d : D) (m : Int) (st : Store) (h : thing d = true) : F_f_law_is_state [d, .int m] st = .ok (.val (.bl (stateB m d))) st := by
  cases d with
  | tup ds =>
    simp only [thing, Bool.and_eq_true, decide_eq_true_eq] at h
    obtain ⟨h0, hm⟩ := h
    match ds, h0, hm with
    | [], _, _ => unfold F_f_law_is_state runP b_f_law_is_state x1_f_law_is_state x2_f_law_is_state; simp [isiTab, stateB]
    | [a], _, _ => unfold F_f_law_is_state runP b_f_law_is_state x1_f_law_is_state x2_f_law_is_state; simp [isiTab, stateB]
    | [a, b], _, _ => unfold F_f_law_is_state runP b_f_law_is_state x1_f_law_is_state x2_f_law_is_state; simp [isiTab, stateB]
    | [a, b, c], _, hm =>
      have t3 := things_mem.mp hm
      have l1 : lc_f_law_is_state_1 [some (.tup [a, b, c]), some (.int m), none, none, none, none, none] st = _ := chk_lc (own := [5]) (m := itSeq (evVar 0)) (g := gdName 5) (t := tvNot (tvB (evA fIsi (acons (evVar 5) (acons (evC (.ty "tuple")) (anil)))))) (i := 5) (items := [a, b, c]) (c := fun d => !isTup d) (fun d => [some (.tup [a, b, c]), some (.int m), none, none, none, some d, none])
        (by simp) (by simp) (fun d _ => by simp [wipeD]) (fun d h more => by
          have t := t3 d h
          cases d <;> first | (simp [thing] at t; done) | (simp [isiTab, isTup])) t3
      have S3 := stage l1 t3
      have S1 : x1_f_law_is_state [some (.tup [a, b, c]), some (.int m), none, none, none, none, none] st = .nx [some (.tup [a, b, c]), some (.int m), none, none, none, none, none] st := by
        unfold x1_f_law_is_state; simp [isiTab]
      refine (run_ret (k := 7) (w := .val (.bl (stateB m (.tup [a, b, c])))) (s' := st) ?_).trans (by simp)
      show (sSeq x1_f_law_is_state _) [some (.tup [a, b, c]), some (.int m), none, none, none, none, none] st = _
      rw [run_step S1]
      cases q : [a, b, c].any fun d => !isTup d with
      | true =>
        rw [q] at S3
        have e : stateB m (.tup [a, b, c]) = false := by
          cases z : stateB m (.tup [a, b, c]) with
          | false => rfl
          | true =>
            simp only [stateB, Bool.and_eq_true] at z
            obtain ⟨z1, z2, z3⟩ := z
            have i1 : isTup a = true := by unfold deedsB at z1; split at z1 <;> first | rfl | cases z1
            have i2 : isTup b = true := by unfold goesB at z2; split at z2 <;> first | rfl | cases z2
            have i3 : isTup c = true := by unfold notesB at z3; split at z3 <;> first | rfl | cases z3
            simp [i1, i2, i3] at q
        rw [e]
        exact seq_ret S3
      | false =>
        rw [q] at S3
        rw [run_step (a := x3_f_law_is_state) S3]
        have al : ∀ d ∈ [a, b, c], isTup d = true := fun d h => by
          have := List.any_eq_false.mp q d h
          simpa using this
        obtain ⟨ds, rfl⟩ := tup_of (al a (by simp))
        obtain ⟨gs, rfl⟩ := tup_of (al b (by simp))
        obtain ⟨ns, rfl⟩ := tup_of (al c (by simp))
        have ta := t3 _ (show D.tup ds ∈ _ by simp)
        have tb := t3 _ (show D.tup gs ∈ _ by simp)
        have tc := t3 _ (show D.tup ns ∈ _ by simp)
        simp only [thing, Bool.and_eq_true, decide_eq_true_eq] at ta tb tc
        have S5 : x5_f_law_is_state [some (T3 ds gs ns), some (.int m), none, none, none, none, none] st = .nx (E7 m ds gs ns none none) st := by
          unfold x5_f_law_is_state; simp [sUn, colX, gdSeq]
        rw [run_step S5]
        exact law_rest (things_mem.mp ta.2) (things_mem.mp tb.2) (things_mem.mp tc.2) ta.1 tb.1 tc.1
    | a :: b :: c :: e :: r, h0, _ =>
      have q : ¬ ((r.length : Int) + 1 + 1 + 1 + 1 = 3) := by omega
      unfold F_f_law_is_state runP b_f_law_is_state x1_f_law_is_state x2_f_law_is_state
      simp [isiTab, stateB, q]
  | _ =>
    unfold F_f_law_is_state runP b_f_law_is_state x1_f_law_is_state x2_f_law_is_state
    simp [isiTab, stateB, thing] at h ⊢
/-! ### tables -/
/-- what is handed to Table: a list, a tuple (or a cell) of things, or some other thing -/
def SeqArg (d : D) (st : Store) (ds : List D) : Prop := d = .lst ds ∨ d = .tup ds ∨ ∃ k, d = .ref k ∧ st[k]? = some (some (.lst ds))
theorem SeqArg.isi {d : D} {st : Store} {ds : List D} (h : SeqArg d st ds) : fIsi [d, .tup [.ty "list", .ty "tuple"]] st = .ok (.val (.bl true)) st := by
  rcases h with rfl | rfl | ⟨k, rfl, e⟩
  · simp [fIsi, tysOf, isiTab]
  · simp [fIsi, tysOf, isiTab, tyD]
  · simp [fIsi, tysOf, isiTab, tyD, e]
theorem SeqArg.len {d : D} {st : Store} {ds : List D} (h : SeqArg d st ds) : fLen [d] st = .ok (.val (.int ds.length)) st := by
  rcases h with rfl | rfl | ⟨k, rfl, e⟩
  · simp [fLen, lstOf]
  · simp [fLen]
  · simp [fLen, lstOf, e]
theorem SeqArg.more {d : D} {st more : Store} {ds : List D} (h : SeqArg d st ds) : SeqArg d (st ++ more) ds := by
  rcases h with h | h | ⟨k, h, e⟩
  · exact .inl h
  · exact .inr (.inl h)
  · obtain ⟨hk, _⟩ := List.getElem?_eq_some_iff.mp e
    exact .inr (.inr ⟨k, h, by rw [List.getElem?_append_left hk]; exact e⟩)
theorem SeqArg.tuple {d : D} {st : Store} {ds : List D} (h : SeqArg d st ds) : fTuple [d] st = .ok (.val (.tup ds)) st := by
  rcases h with rfl | rfl | ⟨k, rfl, e⟩
  · simp [fTuple, lstOf]
  · simp [fTuple]
  · simp [fTuple, lstOf, e]
theorem SeqArg.seq {d : D} {st : Store} {ds : List D} (h : SeqArg d st ds) : ∃ src, seqOf d st = some (ds, src) ∧ ∀ k, src = some k → st[k]? = some (some (.lst ds)) := by
  rcases h with rfl | rfl | ⟨k, rfl, e⟩
  · exact ⟨none, rfl, fun _ h => nomatch h⟩
  · exact ⟨none, rfl, fun _ h => nomatch h⟩
  · exact ⟨some k, by simp [seqOf, lstOf, e], fun k' h => by cases h; exact e⟩
def tableB (ds : List D) : Bool := decide (1 ≤ ds.length) && (decide (ds.length ≤ 600) && ds.all (stateB ds.length))
theorem law_is_table_eq {d : D} {st : Store} {ds : List D} (h : SeqArg d st ds) (th : ∀ x ∈ ds, thing x = true) (hl : ds.length ≤ 1000) : F_f_law_is_table [d] st = .ok (.val (.bl (tableB ds))) st := by
  obtain ⟨src, sq, lp⟩ := h.seq
  have hi := h.isi
  have hlen := fun more => (h.more (more := more)).len
  have hlen0 := h.len
  unfold F_f_law_is_table runP b_f_law_is_table x1_f_law_is_table x2_f_law_is_table x3_f_law_is_table
  by_cases h1 : (0 : Int) < ds.length
  · have h1n : 0 < ds.length := by omega
    by_cases h2 : (ds.length : Int) < 601
    · have hlc : lc_f_law_is_table_1 [some d, none] st = _ := evLc_mapS (own := [1]) (m := itSeq (evVar 0)) (g := gdName 1) (t := tvNot (tvB (evCall 2 F_f_law_is_state (acons (evVar 1) (acons (evA fLen (acons (evVar 0) (anil))) (anil)))))) (e := evVar 1) (env := [some d, none]) (st := st) (items := ds) (src := src)
        (fun x => !stateB ds.length x) id (fun x => [some d, some x]) (by simp [itSeq, sq]) lp (by omega) (fun x hx => ⟨by simp [wipeD], fun more => by
          have w := law_is_state_eq x ds.length (st ++ more) (th x hx)
          exact ⟨by simp [hlen more, w], fun _ => ⟨_, by simp; rfl, rfl⟩⟩⟩) (fun x hx _ => refsLt_mono (Nat.zero_le _) _ (thing_refs _ (th x hx)))
      have f := any_chk (c := fun x => !stateB ds.length x) th st
      have fn := fEq_nil (st := st) (neg := false) (ds := (ds.filter fun x => !stateB ds.length x).map id) (by rw [isPys_all]; intro y hy; obtain ⟨e, he, rfl⟩ := List.mem_map.mp hy; exact thing_py _ (th _ (List.mem_filter.mp he).1))
      have e : ((ds.filter fun x => !stateB ds.length x).map id).isEmpty = tableB ds := by
        have h3 : 1 ≤ ds.length := by omega
        have h4 : ds.length ≤ 600 := by omega
        simp only [tableB, h3, h4, decide_true, Bool.true_and]
        rw [List.isEmpty_map]
        generalize (ds.length : Int) = n
        clear hlc f fn h1 h1n h2 h3 h4 hlen hlen0 hl th lp sq hi h
        induction ds with
        | nil => rfl
        | cons x l ih =>
          rw [List.filter_cons, List.all_cons]
          cases q : stateB n x
          · simp
          · simp only [Bool.not_true, Bool.true_and, if_false, Bool.false_eq_true]; exact ih
      rw [e] at fn
      obtain ⟨R, hR⟩ : ∃ R, R = (ds.filter fun x => !stateB ds.length x).map id := ⟨_, rfl⟩
      rw [← hR] at hlc fn
      simp [hi, hlen0, h1, h1n, h2, hlc, fn]
    · have e : tableB ds = false := by
        have : ¬ ds.length ≤ 600 := by omega
        simp [tableB, this]
      simp [hi, hlen0, h1, h1n, h2, e]
  · have e : tableB ds = false := by
      have : ¬ 1 ≤ ds.length := by omega
      simp [tableB, this]
    have h1n : ¬ 0 < ds.length := by omega
    simp [hi, hlen0, h1, h1n, e]
end Lw
namespace Lw
open PySem PySem.Spec PyProof.Rows L2 VI
theorem fin_of {st st' : Store} {d : D} (h : cutOk st st' = true) (ht : st'.take st.length = st') (hd : refsLt st.length d = true) (hr : ∀ n, d ≠ .ref n) : fin st (.val d) st' = .ok (.val d) st' := by
  unfold fin
  rw [if_pos h]
  cases d <;> simp_all
theorem closed_more {k j : Nat} {st : Store} (h : closedB k st = true) (hk : k ≤ j) : closedB j st = true := by
  unfold closedB at *
  rw [List.all_eq_true] at *
  intro x hx
  have := h x hx
  cases x with
  | none => rfl
  | some d => exact refsLt_mono hk d this
theorem finX_none {st : Store} {c : String} : finX st ⟨c, none⟩ st = .exc ⟨c, none⟩ st := by
  unfold finX
  rw [if_pos ⟨cutOk_refl st, rfl⟩, List.take_length]
/-- the parts of Table.__init__ -/
theorem init_1 {k : Nat} {d : D} {st : Store} {ds : List D} (h : SeqArg d st ds) : x1_Table_init [some (.ref k), some d, none] st = if (decide (1 ≤ ds.length) && decide (ds.length ≤ 600)) = true then .nx [some (.ref k), some d, none] st else .exc [some (.ref k), some d, none] ⟨"NoTable", none⟩ st := by
  have hi := h.isi
  have hlen := h.len
  unfold x1_Table_init x2_Table_init
  by_cases h1 : 1 ≤ ds.length
  · have i1 : (1 : Int) ≤ ds.length := by omega
    by_cases h2 : ds.length ≤ 600
    · have i2 : (ds.length : Int) ≤ 600 := by omega
      simp [hi, hlen, h1, h2, i1, i2, sRaise]
    · have i2 : ¬ (ds.length : Int) ≤ 600 := by omega
      simp [hi, hlen, h1, h2, i1, i2, sRaise]
  · have i1 : ¬ (1 : Int) ≤ ds.length := by omega
    simp [hi, hlen, h1, i1, sRaise]
theorem init_3 {k : Nat} {d : D} {st : Store} {ds : List D} (h : SeqArg d st ds) (th : ∀ x ∈ ds, thing x = true) (hl : ds.length ≤ 1000) : x3_Table_init [some (.ref k), some d, none] st =
    if ds.all (stateB ds.length) = true then .nx [some (.ref k), some d, none] st else .exc [some (.ref k), some d, none] ⟨"NoTable", none⟩ st := by
  obtain ⟨src, sq, lp⟩ := h.seq
  have hlen := fun more => (h.more (more := more)).len
  have hlc : lc_Table_init_1 [some (.ref k), some d, none] st = _ := evLc_mapS (own := [2]) (m := itSeq (evVar 1)) (g := gdName 2) (t := tvYes) (e := evCall 2 F_is_state (acons (evVar 2) (acons (evA fLen (acons (evVar 1) (anil))) (anil)))) (env := [some (.ref k), some d, none]) (st := st) (items := ds) (src := src)
    (fun _ => true) (fun x => D.bl (stateB ds.length x)) (fun x => [some (.ref k), some d, some x]) (by simp [itSeq, sq]) lp (by omega) (fun x hx => ⟨by simp [wipeD], fun more => by
      have w := is_state_eq x ds.length (st ++ more) (th x hx)
      exact ⟨rfl, fun _ => ⟨.val (.bl (stateB ds.length x)), by simp [hlen more, w], rfl⟩⟩⟩) (fun x hx _ => by simp [refsLt])
  rw [List.filter_eq_self.mpr (fun _ _ => rfl)] at hlc
  unfold x3_Table_init x4_Table_init
  generalize (ds.length : Int) = n at hlc ⊢
  cases q : ds.all (stateB n) <;> simp [hlc, List.all_map, Function.comp_def, q, sRaise]
abbrev tableD (ds : List D) : D := .obj "Table" [("states", .tup ds)]
theorem make_eq {d : D} {st : Store} {ds : List D} (hcl : closedB st.length st = true) (h : SeqArg d st ds) (th : ∀ x ∈ ds, thing x = true) (hl : ds.length ≤ 1000) : makeV "Table" F_Table_init [d] st = if tableB ds = true then .ok (.new (tableD ds)) st else .exc ⟨"NoTable", none⟩ st := by
  have h' := h.more (more := [some (D.obj "Table" [])])
  have i1 := init_1 (k := st.length) h'
  have i3 := init_3 (k := st.length) h' th hl
  have f : finX st ⟨"NoTable", none⟩ (st ++ [some (.obj "Table" [])]) = .exc ⟨"NoTable", none⟩ st := by
    unfold finX
    rw [if_pos ⟨cutOk_self _ _, rfl⟩]; simp
  have rf : ∀ k, refsLts k ds = true := fun k => by rw [refsLts_all]; exact fun x hx => refsLt_mono (Nat.zero_le _) _ (thing_refs x (th x hx))
  unfold makeV F_Table_init runP b_Table_init
  cases q1 : (decide (1 ≤ ds.length) && decide (ds.length ≤ 600)) with
  | false =>
    rw [q1] at i1
    have e : tableB ds = false := by
      unfold tableB
      rw [← Bool.and_assoc, q1]; rfl
    rw [e]
    simp [i1, finX_none, f]
  | true =>
    rw [q1] at i1
    have e : tableB ds = ds.all (stateB ds.length) := by
      unfold tableB
      rw [← Bool.and_assoc, q1]; rfl
    rw [e]
    cases q2 : ds.all (stateB ds.length) with
    | false =>
      rw [q2] at i3
      simp [i1, i3, finX_none, f]
    | true =>
      rw [q2] at i3
      have tu := h'.tuple
      have g : (st ++ [some (D.obj "Table" [])])[st.length]? = some (some (.obj "Table" [])) := by simp
      have e1 : (st ++ [some (D.obj "Table" [])]).set st.length (some (tableD ds)) = st ++ [some (tableD ds)] := by
        rw [List.set_append_right _ _ (Nat.le_refl _)]; simp
      have fv : fin (st ++ [some (D.obj "Table" [])]) (.val .non) (st ++ [some (tableD ds)]) = .ok (.val .non) (st ++ [some (tableD ds)]) :=
        fin_of (cutOk_closed (by simp) (by
          rw [List.take_of_length_le (by simp)]
          rw [List.length_append]
          exact closed_app.mpr ⟨closed_more hcl (by simp), by simp [closedB, cellLt, refsLt, refsLtF, rf]⟩)) (List.take_of_length_le (by simp)) (by simp [refsLt]) (fun _ => nofun)
      have fn : fin st (.val (.ref st.length)) (st ++ [some (tableD ds)]) = .ok (.new (tableD ds)) st := by
        unfold fin
        have r2 : refsLt st.length (tableD ds) = true := by simp [refsLt, refsLtF, rf]
        rw [if_pos (cutOk_self _ _)]
        simp [r2]
      have S5 : x5_Table_init [some (.ref st.length), some d, none] (st ++ [some (D.obj "Table" [])]) = .nx [some (.ref st.length), some d, none] (st ++ [some (tableD ds)]) := by
        unfold x5_Table_init
        simp [tu, sFldSet, g, putD]
      simp [i1, i3, S5, fv, fn]
end Lw
namespace Lw
open PySem PySem.Spec PyProof.Rows L2 VI
theorem strIn_one (c : Nat) (z : Str) : strIn ⟨#[c]⟩ z = decide (c ∈ z.cps.toList) := by
  unfold strIn
  exact PySem.StrLaws.found_one z c
theorem letters_bd : ∀ c ∈ letters.cps.toList, c < 16 ^ 8 := by decide +kernel
theorem name_repr {x : Str} (h : wordB (.str x) = true) : (reprText x).length ≤ 82 := by
  simp only [wordB, Bool.and_eq_true, decide_eq_true_eq, List.all_eq_true] at h
  have := PySem.StrLaws.reprText_len x (fun c hc => by
    have := h.2 c hc
    rw [strIn_one, decide_eq_true_eq] at this
    exact letters_bd c this)
  omega
theorem int_shown {i : Int} (h0 : -1 ≤ i) (h1 : i ≤ 600) : (PyData.int i).shown.length ≤ 5 := by
  have : ∀ k : Nat, k ≤ 601 → (PyData.int ((k : Int) - 1)).shown.length ≤ 5 := by decide +kernel
  have h := this (i + 1).toNat (by omega)
  rwa [show (((i + 1).toNat : Int) - 1) = i by omega] at h
theorem piled_le {B : Nat} : ∀ {ts : List Str}, (∀ t ∈ ts, t.length ≤ B) → piled ts ≤ ts.length * (B + 2)
  | [], _ => by simp [piled]
  | t :: ts, h => by
    have h1 := h t List.mem_cons_self
    have h2 := piled_le fun x hx => h x (List.mem_cons_of_mem _ hx)
    rw [piled_cons, List.length_cons, Nat.add_mul]
    omega
theorem tuple_shown {B : Nat} {ds : List PyData} (h : ∀ d ∈ ds, d.shown.length ≤ B) : (PyData.tuple ds).shown.length ≤ ds.length * (B + 2) + 2 := by
  have e : PyData.shownAll ds = ds.map PyData.shown := by
    induction ds with
    | nil => rfl
    | cons d ds ih => simp [PyData.shownAll, ih fun x hx => h x (List.mem_cons_of_mem _ hx)]
  have h1 := fmt_text (ds.map PyData.shown)
  have h2 := piled_le (B := B) (ts := ds.map PyData.shown) (fun t ht => by obtain ⟨d, hd, rfl⟩ := List.mem_map.mp ht; exact h d hd)
  rw [List.length_map] at h2
  simp only [PyData.shown, e]
  omega
theorem toPys_map' (ds : List D) : toPys ds = ds.map toPy := by
  induction ds with
  | nil => rfl
  | cons d ds ih => simp [toPys, ih]
theorem showAll_mem {ds : List PyData} : PyData.showableAll ds = true ↔ ∀ d ∈ ds, d.showable = true := by
  induction ds with
  | nil => simp [PyData.showableAll]
  | cons d ds ih => simp [PyData.showableAll, ih]
theorem hasDict_mem {ds : List PyData} : PyData.hasDictAll ds = false ↔ ∀ d ∈ ds, d.hasDict = false := by
  induction ds with
  | nil => simp [PyData.hasDictAll]
  | cons d ds ih => simp [PyData.hasDictAll, ih]
theorem depthAll_le' {B : Nat} {ds : List PyData} (h : ∀ d ∈ ds, d.depth ≤ B) : PyData.depthAll ds ≤ B := by
  induction ds with
  | nil => simp [PyData.depthAll]
  | cons d ds ih =>
    have h1 := h d List.mem_cons_self
    have h2 := ih fun x hx => h x (List.mem_cons_of_mem _ hx)
    simp only [PyData.depthAll]
    omega
/-- what may be told by repr -/
structure Rp (B dp : Nat) (d : D) : Prop where
  py : isPy d = true
  sh : (toPy d).showable = true
  hd : (toPy d).hasDict = false
  dp : (toPy d).depth ≤ dp
  ln : (toPy d).shown.length ≤ B
theorem rp_int {i : Int} (h0 : -1 ≤ i) (h1 : i ≤ 600) : Rp 5 0 (.int i) := by
  refine ⟨rfl, ?_, rfl, by simp [toPy, PyData.depth], int_shown h0 h1⟩
  simp only [toPy, PyData.showable, decide_eq_true_eq]
  have : i.natAbs.log2 ≤ i.natAbs := Nat.log2_le_self _
  omega
theorem rp_word {x : Str} (h : wordB (.str x) = true) : Rp 82 0 (.str x) := ⟨rfl, rfl, rfl, by simp [toPy, PyData.depth], name_repr h⟩
theorem Rp.mono {B C p q : Nat} {d : D} (h : Rp B p d) (h1 : B ≤ C) (h2 : p ≤ q) : Rp C q d := ⟨h.py, h.sh, h.hd, by have := h.dp; omega, by have := h.ln; omega⟩
theorem rp_tup {B p : Nat} {ds : List D} (h : ∀ d ∈ ds, Rp B p d) : Rp (ds.length * (B + 2) + 2) (p + 1) (.tup ds) := by
  refine ⟨by simp only [isPy]; exact isPys_all.mpr fun d hd => (h d hd).py, ?_, ?_, ?_, ?_⟩
  · simp only [toPy, PyData.showable, toPys_map']
    exact showAll_mem.mpr fun x hx => by obtain ⟨d, hd, rfl⟩ := List.mem_map.mp hx; exact (h d hd).sh
  · simp only [toPy, PyData.hasDict, toPys_map']
    exact hasDict_mem.mpr fun x hx => by obtain ⟨d, hd, rfl⟩ := List.mem_map.mp hx; exact (h d hd).hd
  · have := depthAll_le' (B := p) (ds := ds.map toPy) fun x hx => by obtain ⟨d, hd, rfl⟩ := List.mem_map.mp hx; exact (h d hd).dp
    simp only [toPy, PyData.depth, toPys_map']
    omega
  · have := tuple_shown (B := B) (ds := ds.map toPy) fun x hx => by obtain ⟨d, hd, rfl⟩ := List.mem_map.mp hx; exact (h d hd).ln
    simp only [toPy, toPys_map']
    rwa [List.length_map] at this

mutual
/-- short texts, short tuples and lists -/
def few : D → Bool
  | .non => true
  | .bl _ => true
  | .int _ => true
  | .str z => decide (z.length ≤ 100)
  | .tup ds => decide (ds.length ≤ 9) && fews ds
  | .lst ds => decide (ds.length ≤ 9) && fews ds
  | _ => false
def fews : List D → Bool
  | [] => true
  | d :: ds => few d && fews ds
end
theorem fews_mem {ds : List D} : fews ds = true ↔ ∀ d ∈ ds, few d = true := by
  induction ds with
  | nil => simp [fews]
  | cons d ds ih => simp [fews, ih]
mutual
theorem few_thing : ∀ d : D, few d = true → thing d = true
  | .non, _ => by simp [thing]
  | .bl _, _ => by simp [thing]
  | .int _, _ => by simp [thing]
  | .str z, h => by simp only [few, decide_eq_true_eq] at h; simp [thing]; omega
  | .tup ds, h => by
    simp only [few, Bool.and_eq_true, decide_eq_true_eq] at h
    simp only [thing, Bool.and_eq_true, decide_eq_true_eq]; exact ⟨by omega, fews_things ds h.2⟩
  | .lst ds, h => by
    simp only [few, Bool.and_eq_true, decide_eq_true_eq] at h
    simp only [thing, Bool.and_eq_true, decide_eq_true_eq]; exact ⟨by omega, fews_things ds h.2⟩
  | .dic _, h => by simp [few] at h
  | .ref _, h => by simp [few] at h
  | .ty _, h => by simp [few] at h
  | .cl _, h => by simp [few] at h
  | .obj _ _, h => by simp [few] at h
theorem fews_things : ∀ ds : List D, fews ds = true → things ds = true
  | [], _ => by simp [things]
  | d :: ds, h => by
    simp only [fews, Bool.and_eq_true] at h
    simp only [things, Bool.and_eq_true]; exact ⟨few_thing d h.1, fews_things ds h.2⟩
end
theorem rp_num {lo hi : Int} {d : D} (h : numB lo hi d = true) (h0 : -1 ≤ lo) (h1 : hi ≤ 600) : Rp 82 0 d := by
  cases d <;> simp [numB] at h
  exact (rp_int (by omega) (by omega)).mono (by omega) (by omega)
theorem rp_words {d : D} (h : wordB d = true) : Rp 82 0 d := by
  obtain ⟨x, rfl⟩ := word_str h
  exact rp_word h
theorem rp_deed {m : Int} {d : D} (hm : m ≤ 600) (h : deedB m d = true) : Rp 170 1 d := by
  have w1 : wordB (.str "shift") = true := by decide +kernel
  have w2 : wordB (.str "make") = true := by decide +kernel
  have w3 : wordB (.str "end") = true := by decide +kernel
  unfold deedB at h
  split at h
  · simp only [decide_eq_true_eq] at h
    subst h
    exact (rp_tup (B := 82) (p := 0) fun d hd => by rw [List.mem_singleton.mp hd]; exact rp_words w3).mono (by simp) (by omega)
  · rename_i a x
    simp only [Bool.or_eq_true, Bool.and_eq_true, decide_eq_true_eq] at h
    refine (rp_tup (B := 82) (p := 0) (ds := [a, x]) fun d hd => ?_).mono (by simp) (by omega)
    simp only [List.mem_cons, List.not_mem_nil, or_false] at hd
    rcases h with ⟨rfl, h⟩ | ⟨rfl, h⟩
    · rcases hd with rfl | rfl
      · exact rp_words w1
      · exact rp_num h (by omega) (by omega)
    · rcases hd with rfl | rfl
      · exact rp_words w2
      · exact rp_num h (by omega) (by omega)
  · cases h
theorem rp_state {m : Int} {d : D} (hm : m ≤ 600) (hf : few d = true) (h : stateB m d = true) : Rp 10454 4 d := by
  unfold stateB at h
  split at h
  · rename_i a b c
    simp only [few, fews, Bool.and_eq_true, decide_eq_true_eq] at hf
    obtain ⟨_, fa, fb, fc, _⟩ := hf
    simp only [Bool.and_eq_true] at h
    obtain ⟨h1, h2, h3⟩ := h
    have r1 : Rp 3482 3 a := by
      unfold deedsB at h1
      split at h1
      · rename_i ds
        simp only [few, Bool.and_eq_true, decide_eq_true_eq] at fa
        simp only [Bool.and_eq_true, List.all_eq_true] at h1
        refine (rp_tup (B := 346) (p := 2) fun d hd => ?_).mono (by omega) (by omega)
        have := h1.1 d hd
        unfold dpB at this
        split at this
        · rename_i w x
          simp only [Bool.and_eq_true] at this
          refine (rp_tup (B := 170) (p := 1) (ds := [w, x]) fun e he => ?_).mono (by simp) (by omega)
          simp only [List.mem_cons, List.not_mem_nil, or_false] at he
          rcases he with rfl | rfl
          · exact (rp_words this.1).mono (by omega) (by omega)
          · exact rp_deed hm this.2
        · cases this
      · cases h1
    have r2 : Rp 3482 3 b := by
      unfold goesB at h2
      split at h2
      · rename_i ds
        simp only [few, Bool.and_eq_true, decide_eq_true_eq] at fb
        simp only [Bool.and_eq_true, List.all_eq_true] at h2
        refine (rp_tup (B := 346) (p := 2) fun d hd => ?_).mono (by omega) (by omega)
        have := h2.1 d hd
        unfold gpB at this
        split at this
        · rename_i w x
          simp only [Bool.and_eq_true] at this
          refine (rp_tup (B := 170) (p := 1) (ds := [w, x]) fun e he => ?_).mono (by simp) (by omega)
          simp only [List.mem_cons, List.not_mem_nil, or_false] at he
          rcases he with rfl | rfl
          · obtain ⟨z, rfl⟩ := name_str this.1
            have hz : z ≠ "" := fun e => by subst e; exact absurd this.1 (by decide)
            exact (rp_words (by rw [word_name hz]; exact this.1)).mono (by omega) (by omega)
          · exact (rp_num this.2 (by omega) (by omega)).mono (by omega) (by omega)
        · cases this
      · cases h2
    have r3 : Rp 3482 3 c := by
      unfold notesB at h3
      split at h3
      · rename_i ds
        simp only [few, Bool.and_eq_true, decide_eq_true_eq] at fc
        simp only [Bool.and_eq_true, List.all_eq_true] at h3
        refine (rp_tup (B := 346) (p := 2) fun d hd => ?_).mono (by omega) (by omega)
        have := h3.1 d hd
        unfold noteB at this
        split at this
        · rename_i x y z
          simp only [Bool.or_eq_true, Bool.and_eq_true, decide_eq_true_eq] at this
          refine (rp_tup (B := 82) (p := 0) (ds := [x, y, z]) fun e he => ?_).mono (by simp) (by omega)
          simp only [List.mem_cons, List.not_mem_nil, or_false] at he
          rcases this with ⟨⟨rfl, t2⟩, rfl⟩ | ⟨⟨t1, t2⟩, t3⟩
          · rcases he with rfl | rfl | rfl
            · exact (rp_int (by omega) (by omega)).mono (by omega) (by omega)
            · exact rp_num t2 (by omega) (by omega)
            · exact rp_words (by decide +kernel)
          · rcases he with rfl | rfl | rfl
            · exact rp_num t1 (by omega) (by omega)
            · exact rp_num t2 (by omega) (by omega)
            · exact rp_words t3
        · cases this
      · cases h3
    refine (rp_tup (B := 3482) (p := 3) (ds := [a, b, c]) fun d hd => ?_).mono (by simp) (by omega)
    simp only [List.mem_cons, List.not_mem_nil, or_false] at hd
    rcases hd with rfl | rfl | rfl
    · exact r1
    · exact r2
    · exact r3
  · cases h
theorem table_repr {ds : List D} (hl : ds.length ≤ 9) (hf : ∀ d ∈ ds, few d = true) (h : tableB ds = true) (st : Store) : fRepr [.tup ds] st = .ok (.val (.str (toPy (.tup ds)).shown)) st := by
  simp only [tableB, Bool.and_eq_true, List.all_eq_true] at h
  have r := (rp_tup (B := 10454) (p := 4) (ds := ds) fun d hd => rp_state (by omega) (hf d hd) (h.2.2 d hd)).mono (C := 100000) (q := 60) (by omega) (by omega)
  exact if_pos (c := isPy (unref (.tup ds) st) = true ∧ (toPy (unref (.tup ds) st)).showable = true ∧ (toPy (unref (.tup ds) st)).hasDict = false ∧ (toPy (unref (.tup ds) st)).depth ≤ 60 ∧ (toPy (unref (.tup ds) st)).shown.length ≤ 100000) ⟨r.py, r.sh, r.hd, r.dp, r.ln⟩
end Lw
namespace Lw
open PySem PySem.Spec PyProof.Rows L2 VI
/-- the items of a list or a tuple -/
def seqD : D → Option (List D)
  | .lst ds => some ds
  | .tup ds => some ds
  | _ => none
/-- what may be handed to Table, as a value -/
def handB (d : D) : Bool := match d with
  | .lst ds => decide (ds.length ≤ 1000) && things ds
  | .tup ds => decide (ds.length ≤ 1000) && things ds
  | .dic [] => true
  | d => thing d
def okTab (d : D) : Bool := match seqD d with
  | some ds => tableB ds
  | none => false
theorem make_other {d : D} {st : Store} (h : handB d = true) (hs : seqD d = none) : makeV "Table" F_Table_init [d] st = .exc ⟨"NoTable", none⟩ st := by
  have i1 : ∀ k s, x1_Table_init [some (.ref k), some d, none] s = .exc [some (.ref k), some d, none] ⟨"NoTable", none⟩ s := fun k s => by
    unfold x1_Table_init x2_Table_init
    cases d with
    | dic kvs =>
      cases kvs with
      | nil =>
        have kk : kKeys [] = true := by rfl
        simp [fIsi, tysOf, isiTab, tyD, sRaise, kk]
      | cons _ _ => simp [handB, thing] at h
    | lst ds => simp [seqD] at hs
    | tup ds => simp [seqD] at hs
    | _ => first | (simp [handB, thing] at h; done) | (simp [fIsi, tysOf, isiTab, tyD, sRaise])
  have f : finX st ⟨"NoTable", none⟩ (st ++ [some (.obj "Table" [])]) = .exc ⟨"NoTable", none⟩ st := by
    unfold finX
    rw [if_pos ⟨cutOk_self _ _, rfl⟩]; simp
  unfold makeV F_Table_init runP b_Table_init
  simp [i1, finX_none, f]
theorem seq_arg {d : D} {ds : List D} (h : seqD d = some ds) (st : Store) : SeqArg d st ds := by
  cases d <;> simp [seqD] at h
  · subst h; exact .inr (.inl rfl)
  · subst h; exact .inl rfl
theorem hand_seq {d : D} {ds : List D} (h : handB d = true) (hs : seqD d = some ds) : ds.length ≤ 1000 ∧ ∀ x ∈ ds, thing x = true := by
  cases d <;> simp [seqD] at hs
  · subst hs; simp only [handB, Bool.and_eq_true, decide_eq_true_eq] at h; exact ⟨h.1, things_mem.mp h.2⟩
  · subst hs; simp only [handB, Bool.and_eq_true, decide_eq_true_eq] at h; exact ⟨h.1, things_mem.mp h.2⟩
theorem make_hand {d : D} {st : Store} (hcl : closedB st.length st = true) (h : handB d = true) : makeV "Table" F_Table_init [d] st = if okTab d = true then .ok (.new (tableD ((seqD d).getD []))) st else .exc ⟨"NoTable", none⟩ st := by
  cases hs : seqD d with
  | none =>
    rw [make_other h hs]
    simp [okTab, hs]
  | some ds =>
    obtain ⟨hl, th⟩ := hand_seq h hs
    rw [make_eq hcl (seq_arg hs st) th hl]
    simp [okTab, hs]
theorem alone_eq (st : Store) : F_f_law_alone [.dic [(.cl "NoTable", .non)]] st = .ok (.val (.bl true)) st := by
  have hin : inDs (.bl true) [.bl false, .bl false, .bl false, .bl false, .bl false, .bl false, .bl false, .bl false, .bl false] = false := by decide +kernel
  have hsh : shallowIn (.bl true) [.bl false, .bl false, .bl false, .bl false, .bl false, .bl false, .bl false, .bl false, .bl false] = true := by decide +kernel
  unfold F_f_law_alone runP b_f_law_alone x1_f_law_alone x2_f_law_alone x3_f_law_alone x4_f_law_alone
  simp [fIsE, lookE, errC, errT, catOk, fIn, lstOf, flatD, unref, isPy, isPys, hin, hsh]
theorem refused_eq {d : D} {st : Store} (hcl : closedB st.length st = true) (h : handB d = true) (hb : okTab d = false) : F_f_law_refused [d] st = .ok (.val (.bl true)) st := by
  have mk := make_hand hcl h
  rw [if_neg (by rw [hb]; simp)] at mk
  have al := alone_eq st
  unfold F_f_law_refused runP b_f_law_refused x1_f_law_refused x2_f_law_refused x3_f_law_refused x5_f_law_refused x6_f_law_refused
  simp [sTry, evMake, mk, hitE, hits_ReadError, errD, slotNone, al]
theorem few_hand {d : D} (h : few d = true) : handB d = true := by
  have t := few_thing d h
  cases d with
  | lst ds => simp only [thing, Bool.and_eq_true, decide_eq_true_eq] at t; simp only [handB, Bool.and_eq_true, decide_eq_true_eq]; exact ⟨by omega, t.2⟩
  | tup ds => simp only [thing, Bool.and_eq_true, decide_eq_true_eq] at t; simp only [handB, Bool.and_eq_true, decide_eq_true_eq]; exact ⟨by omega, t.2⟩
  | dic kvs => simp [few] at h
  | _ => first | (simp [few] at h; done) | exact t
theorem law_table_other {d : D} {st : Store} (h : thing d = true) (hs : seqD d = none) : F_f_law_is_table [d] st = .ok (.val (.bl false)) st := by
  unfold F_f_law_is_table runP b_f_law_is_table x1_f_law_is_table x2_f_law_is_table
  cases d with
  | lst ds => simp [seqD] at hs
  | tup ds => simp [seqD] at hs
  | _ => first | (simp [thing] at h; done) | (simp [fIsi, tysOf, isiTab, tyD])
theorem kept_eq {d : D} {st : Store} (hcl : closedB st.length st = true) (h : few d = true) : F_f_law_kept_or_refused [d] st = .ok (.val (.bl true)) st := by
  have hh := few_hand h
  have mk := make_hand hcl hh
  unfold F_f_law_kept_or_refused runP b_f_law_kept_or_refused x1_f_law_kept_or_refused x2_f_law_kept_or_refused x3_f_law_kept_or_refused
  cases hb : okTab d with
  | false =>
    have r := refused_eq hcl hh hb
    have t : F_f_law_is_table [d] st = .ok (.val (.bl false)) st := by
      cases hs : seqD d with
      | none => exact law_table_other (few_thing d h) hs
      | some ds =>
        obtain ⟨hl, th⟩ := hand_seq hh hs
        rw [law_is_table_eq (seq_arg hs st) th hl]
        simp only [okTab, hs] at hb
        rw [hb]
    simp [t, r]
  | true =>
    cases hs : seqD d with
    | none => simp [okTab, hs] at hb
    | some ds =>
      obtain ⟨hl, th⟩ := hand_seq hh hs
      have t := law_is_table_eq (seq_arg hs st) th hl
      rw [if_pos hb, hs] at mk
      simp only [okTab, hs] at hb
      rw [hb] at t
      have fd : ds.length ≤ 9 ∧ ∀ x ∈ ds, few x = true := by
        cases d <;> simp [seqD] at hs
        · subst hs; simp only [few, Bool.and_eq_true, decide_eq_true_eq] at h; exact ⟨h.1, fews_mem.mp h.2⟩
        · subst hs; simp only [few, Bool.and_eq_true, decide_eq_true_eq] at h; exact ⟨h.1, fews_mem.mp h.2⟩
      have rp := table_repr fd.1 fd.2 hb st
      have tu := (seq_arg hs st).tuple
      obtain ⟨z, hz⟩ : ∃ z, z = (toPy (.tup ds)).shown := ⟨_, rfl⟩
      rw [← hz] at rp
      simp [t, evMake, mk, evFld, objOf, List.lookup, rp, tu]
end Lw
namespace Lw
open PySem PySem.Spec PyProof.Rows L2 VI
@[simp] theorem fMulB_int {i j : Int} {st : Store} : fMulB (.int i) (.int j) st = fMul (.int i) (.int j) st := rfl
@[simp] theorem fGeA_int {i j : Int} {st : Store} : fGeA (.int i) (.int j) st = .ok (.val (.bl (decide (j ≤ i)))) st := rfl
theorem lg1 : (2147483647 : Nat).log2 < 9000 := by decide +kernel
theorem mixed_eq (c t : Int) (st : Store) : ∃ r : Int, 0 ≤ r ∧ F_f_law_mixed [.int c, .int t] st = .ok (.val (.int r)) st := by
  have s0 : 0 ≤ (c * 48271 + t * 104729 + 7919) % 2147483647 ∧ (c * 48271 + t * 104729 + 7919) % 2147483647 < 2147483647 := by omega
  obtain ⟨x, hx⟩ : ∃ x, x = (c * 48271 + t * 104729 + 7919) % 2147483647 := ⟨_, rfl⟩
  rw [← hx] at s0
  have S1 : x1_f_law_mixed [some (.int c), some (.int t), none, none, none] st = .nx [some (.int c), some (.int t), some (.int x), none, none] st := by
    unfold x1_f_law_mixed; simp [fMul, smallF, fMod, hx]
  have S2 : x2_f_law_mixed [some (.int c), some (.int t), some (.int x), none, none] st = .nx [some (.int c), some (.int t), some (.int x), some (.int 0), none] st := by
    unfold x2_f_law_mixed; simp
  obtain ⟨env2, st2, el, s, f, a4, rfl, rfl, h0, h1, h2⟩ := forGo_inv (iv := ⟨rangeD 0 4, none⟩) (g := gdName 4) (body := lp_f_law_mixed_1) rfl
    (fun i env s' => ∃ (s f : Int) (a4 : Option D), env = [some (.int c), some (.int t), some (.int s), some (.int f), a4] ∧ s' = st ∧ 0 ≤ s ∧ s < 2147483647 ∧ 0 ≤ f)
    (rangeD 0 4) 0 [some (.int c), some (.int t), some (.int x), some (.int 0), none] st ⟨x, 0, none, rfl, rfl, s0.1, s0.2, by omega⟩ (fun i d env s' hi hI => by
      obtain ⟨s, f, a4, rfl, rfl, h0, h1, h2⟩ := hI
      obtain ⟨k, rfl⟩ : ∃ k : Int, d = .int k := by
        rw [show (4 : Nat) = 4 from rfl, rangeD_map] at hi
        obtain ⟨j, _, e⟩ := List.mem_map.mp (List.mem_of_getElem? hi)
        exact ⟨_, e.symm⟩
      have b1 : -18446744073709551616 < s := by omega
      have b2 : s < 18446744073709551616 := by omega
      obtain ⟨y, hy⟩ : ∃ y, y = (s * s + 48271 * s + t + 1) % 2147483629 := ⟨_, rfl⟩
      have y0 : 0 ≤ y ∧ y < 2147483629 := by rw [hy]; exact ⟨Int.emod_nonneg _ (by omega), Int.emod_lt_of_pos _ (by omega)⟩
      have T4 : x4_f_law_mixed [some (.int c), some (.int t), some (.int s), some (.int f), some (.int k)] s' = .nx [some (.int c), some (.int t), some (.int y), some (.int f), some (.int k)] s' := by
        unfold x4_f_law_mixed; simp [fMul, smallF, fMod, hy, b1, b2]
      obtain ⟨z, hz⟩ : ∃ z, z = f * 2147483629 + (y * 69621 + c / 2147483647 + k) % 2147483629 := ⟨_, rfl⟩
      have z0 : 0 ≤ z := by
        have := Int.emod_nonneg (y * 69621 + c / 2147483647 + k) (show (2147483629 : Int) ≠ 0 by omega)
        omega
      have T5 : x5_f_law_mixed [some (.int c), some (.int t), some (.int y), some (.int f), some (.int k)] s' = .nx [some (.int c), some (.int t), some (.int y), some (.int z), some (.int k)] s' := by
        have l1 := lg1
        unfold x5_f_law_mixed; simp [fMul, smallF, fMod, hz, l1]
      refine ⟨[some (.int c), some (.int t), some (.int s), some (.int f), some (.int k)], _, _, by simp, .inl ?_, y, z, some (.int k), rfl, rfl, y0.1, by omega, z0⟩
      unfold lp_f_law_mixed_1
      rw [run_step T4]
      exact T5)
  refine ⟨f, h2, ?_⟩
  have S3 : x3_f_law_mixed [some (.int c), some (.int t), some (.int x), some (.int 0), none] st2 = .nx [some (.int c), some (.int t), some (.int s), some (.int f), a4] st2 := by
    have it : itR1 (acons (evC (.int 4)) anil) [some (.int c), some (.int t), some (.int x), some (.int 0), none] st2 = .ok ⟨rangeD 0 (4 : Int).toNat, none⟩ st2 := itR1_of (by simp) (by decide)
    unfold x3_f_law_mixed
    rw [sFor_s, it]
    exact el
  unfold F_f_law_mixed
  have run : b_f_law_mixed ([D.int c, D.int t].map some ++ List.replicate (5 - [D.int c, D.int t].length) none) st2 = .ret (.val (.int f)) st2 := by
    unfold b_f_law_mixed
    show (sSeq (x1_f_law_mixed) _) [some (.int c), some (.int t), none, none, none] st2 = _
    rw [run_step S1, run_step S2, run_step S3]
    unfold x6_f_law_mixed; simp
  rw [run_ret run]
  simp
/-- the number of a cell -/
theorem number_eq (ns : List Int) (k : Int) (h0 : 0 ≤ k) (hn : ns.length ≤ 63) (st : Store) : ∃ r : Int, 0 ≤ r ∧ F_f_law_number [.lst (ns.map D.int), .int k] st = .ok (.val (.int r)) st := by
  obtain ⟨c, hc⟩ : ∃ c : Int, F_f_law_cell [.lst (ns.map D.int), .int k] st = .ok (.val (.int c)) st := by
    unfold F_f_law_cell runP b_f_law_cell x1_f_law_cell x2_f_law_cell x3_f_law_cell
    by_cases h : k < (ns.length : Int)
    · have hk : k.toNat < ns.length := by omega
      have a : atI (ns.map D.int) k = some (.int ns[k.toNat]) := by
        have := atI_nat (show (ns.map D.int)[k.toNat]? = some (.int ns[k.toNat]) by rw [List.getElem?_map, List.getElem?_eq_getElem hk]; rfl)
        rwa [Int.toNat_of_nonneg h0] at this
      exact ⟨ns[k.toNat], by simp [h, a]⟩
    · exact ⟨0, by simp [h]⟩
  unfold F_f_law_number runP b_f_law_number x1_f_law_number x2_f_law_number x3_f_law_number x4_f_law_number
  by_cases h : (1000000000000000000 : Int) ≤ c
  · exact ⟨c - 1000000000000000000, by omega, by simp [hc, fPow, h]⟩
  · obtain ⟨r, r0, e⟩ := mixed_eq c k st
    exact ⟨r, r0, by simp [hc, fPow, h, e]⟩
end Lw
namespace Lw
open PySem PySem.Spec PyProof.Rows L2 VI
def bases : List Str := ["k", "if", "hold", "turns", "a"]
def oneName (b : Str) (at_ first k : Nat) : Str := cutS b none (some (at_ : Int)) ++ ⟨#[letters.cps.toList.getD ((first + k) % 26) 0]⟩ ++ cutS b (some (at_ : Int)) none
def fiveNames (b : Str) (at_ first : Nat) : List Str := (List.range 5).map (oneName b at_ first)
/-- what is wanted of the five names -/
def goodNames (ss : List Str) : Bool := decide (ss.length = 5) && ss.all (fun x => nameB (.str x)) && rises leT (isort leT (ss.drop 2)) && rises leT (isort leT (ss.take 2))
theorem names_good : bases.all (fun b => (List.range (b.length + 1)).all fun a => (List.range 26).all fun f => goodNames (fiveNames b a f)) = true := by decide +kernel
end Lw
namespace Lw
open PySem PySem.Spec PyProof.Rows L2 VI
theorem names_eq (n : Int) (h0 : 0 ≤ n) (st : Store) : ∃ ss : List Str, goodNames ss = true ∧ F_f_law_names [.int n] st = .ok (.new (.lst (ss.map D.str))) st := by
  obtain ⟨v, hv, hm⟩ := atI_in (xs := ([.str "k", .str "if", .str "hold", .str "turns", .str "a"] : List D)) (i := n % 5) (by omega) (by show n % 5 < 5; omega)
  obtain ⟨b, rfl, hb, lb⟩ : ∃ b : Str, v = .str b ∧ b ∈ bases ∧ b.length ≤ 5 := by
    simp only [List.mem_cons, List.not_mem_nil, or_false] at hm
    rcases hm with rfl | rfl | rfl | rfl | rfl
    · exact ⟨_, rfl, by simp [bases], by decide⟩
    · exact ⟨_, rfl, by simp [bases], by decide⟩
    · exact ⟨_, rfl, by simp [bases], by decide⟩
    · exact ⟨_, rfl, by simp [bases], by decide⟩
    · exact ⟨_, rfl, by simp [bases], by decide⟩
  obtain ⟨a, ha⟩ : ∃ a : Nat, (a : Int) = n / 5 % ((b.length : Int) + 1) := ⟨(n / 5 % ((b.length : Int) + 1)).toNat, Int.toNat_of_nonneg (Int.emod_nonneg _ (by omega))⟩
  have a1 : a < b.length + 1 := by
    have := Int.emod_lt_of_pos (n / 5) (show (0 : Int) < (b.length : Int) + 1 by omega)
    omega
  obtain ⟨f, hf⟩ : ∃ f : Nat, (f : Int) = n / 30 % 26 := ⟨(n / 30 % 26).toNat, Int.toNat_of_nonneg (by omega)⟩
  have f1 : f < 26 := by omega
  refine ⟨fiveNames b a f, ?_, ?_⟩
  · have := List.all_eq_true.mp names_good b hb
    have := List.all_eq_true.mp this a (List.mem_range.mpr a1)
    exact List.all_eq_true.mp this f (List.mem_range.mpr f1)
  · have l5 : (5 : Nat).log2 < 9000 := by decide +kernel
    have l30 : (30 : Nat).log2 < 9000 := by decide +kernel
    have hbl : b.length ≤ 100000 := by omega
    have pos : (0 : Int) < (b.length : Int) + 1 := by omega
    have S1 : x1_f_law_names [some (.int n), none, none, none, none, none] st = .nx [some (.int n), some (.str b), none, none, none, none] st := by
      unfold x1_f_law_names
      simp [fMod, hv]
    have S2 : x2_f_law_names [some (.int n), some (.str b), none, none, none, none] st = .nx [some (.int n), some (.str b), some (.int a), none, none, none] st := by
      unfold x2_f_law_names
      simp [fMod, hbl, pos, l5, ha]
    have S3 : x3_f_law_names [some (.int n), some (.str b), some (.int a), none, none, none] st = .nx [some (.int n), some (.str b), some (.int a), some (.int f), none, none] st := by
      unfold x3_f_law_names
      simp [fMod, l30, hf]
    have S4 : x4_f_law_names [some (.int n), some (.str b), some (.int a), some (.int f), none, none] st = .nx [some (.int n), some (.str b), some (.int a), some (.int f), some (.str letters), none] st := by
      unfold x4_f_law_names
      simp
    have c1 := cutS_len b none (some (a : Int))
    have c2 := cutS_len b (some (a : Int)) none
    have it : itR1 (acons (evC (.int 5)) anil) [some (.int n), some (.str b), some (.int a), some (.int f), some (.str letters), none] st = .ok ⟨(List.range 5).map fun i : Nat => D.int (i : Int), none⟩ st := by
      have := itR1_of (me := evC (.int 5)) (env := [some (.int n), some (.str b), some (.int a), some (.int f), some (.str letters), none]) (st := st) (st1 := st) (j := 5) (by simp) (by decide)
      rw [this]
      rw [show (5 : Int).toNat = 5 from rfl]
      exact congrArg (fun r => Res.ok (IterV.mk r none) st) (rangeD_map 5)
    have hlc : lc_f_law_names_1 [some (.int n), some (.str b), some (.int a), some (.int f), some (.str letters), none] st = _ := evLc_map1 (own := [5]) (g := gdName 5) (e := ev2 fAdd (ev2 fAdd (evSl (evVar 1) (bNone) (bSome (evVar 2))) (ev2 fIx (evVar 4) (ev2 fMod (ev2 fAdd (evVar 3) (evVar 5)) (evC (.int 26))))) (evSl (evVar 1) (bSome (evVar 2)) (bNone)))
      (items := List.range 5) (fun i : Nat => D.int (i : Int)) (fun k => D.str (oneName b a f k)) (fun k => [some (.int n), some (.str b), some (.int a), some (.int f), some (.str letters), some (.int (k : Int))]) it (by simp) (fun k hk => ⟨by simp [wipeD], fun more => by
        have hll : letters.cps.toList.length = 26 := by decide +kernel
        have hi : (f + k) % 26 < letters.cps.toList.length := by rw [hll]; exact Nat.mod_lt _ (by omega)
        obtain ⟨c, hc⟩ : ∃ c, c = letters.cps.toList.getD ((f + k) % 26) 0 := ⟨_, rfl⟩
        have g : letters.cps.toList[(f + k) % 26]? = some c := by rw [hc, List.getD_eq_getElem?_getD, List.getElem?_eq_getElem hi]; rfl
        have ac := atI_nat g
        rw [show (((f + k) % 26 : Nat) : Int) = ((f : Int) + (k : Int)) % 26 by omega] at ac
        have s1 : (⟨#[c]⟩ : Str).length = 1 := rfl
        have k1 : (cutS b none (some (a : Int))).length + 1 ≤ 100000 := by omega
        have k2 : (cutS b none (some (a : Int)) ++ (⟨#[c]⟩ : Str)).length + (cutS b (some (a : Int)) none).length ≤ 100000 := by rw [strLen_append]; omega
        have on : oneName b a f k = cutS b none (some (a : Int)) ++ ⟨#[c]⟩ ++ cutS b (some (a : Int)) none := by rw [oneName, ← hc]
        refine ⟨.val (.str (oneName b a f k)), ?_, rfl⟩
        rw [on]
        obtain ⟨L, hL⟩ : ∃ L : Str, L = letters := ⟨_, rfl⟩
        have lL : L.length ≤ 100000 := by rw [hL]; decide +kernel
        rw [← hL] at ac ⊢
        simp [fSl, lL, hbl, fMod, ac, fAdd, s1, k1, k2]⟩) (fun k _ => by simp [refsLt])
    have e5 : (List.range 5).map (fun k => D.str (oneName b a f k)) = (fiveNames b a f).map D.str := by rw [fiveNames, List.map_map]; rfl
    rw [e5] at hlc
    unfold F_f_law_names
    have run : b_f_law_names ([D.int n].map some ++ List.replicate (6 - [D.int n].length) none) st = .ret (.new (.lst ((fiveNames b a f).map D.str))) st := by
      unfold b_f_law_names
      show (sSeq (x1_f_law_names) _) [some (.int n), none, none, none, none, none] st = _
      rw [run_step S1, run_step S2, run_step S3, run_step S4]
      unfold x5_f_law_names
      simp [hlc]
    rw [run_ret run]
    exact fin_new0 (by simp only [refsLt]; rw [refsLts_all]; intro d hd; obtain ⟨x, _, rfl⟩ := List.mem_map.mp hd; simp [refsLt])
end Lw
namespace Lw
open PySem PySem.Spec PyProof.Rows L2 VI
theorem leD_none (w : Str) : leD (.str "") (.str w) = true := by
  show (!W.dataLt (PyData.str w) (PyData.str "")) = true
  have e : (("" : Str).cps.toList) = [] := by decide +kernel
  simp [W.dataLt, W.keyToks, PyProof.Rows.lexLt, itemLt, e]
theorem leD_self (d : D) : leD d d = true := (leD_total.total d d).elim id id
def badD (w : Str) : List D := [.tup [.tup [.str w, .tup [.str "shift", .int 9]]], .tup [.tup [.str w, .tup [.str "shift", .int (-1)]]], .tup [.tup [.str w, .tup [.str "shift", .bl true]]], .tup [.tup [.str w, .tup [.str "make", .int 300]]], .tup [.tup [.str w, .tup [.str "make", .int (-1)]]], .tup [.tup [.str w, .tup [.str "make", .str "0"]]], .tup [.tup [.str w, .tup [.str "go", .int 0]]], .tup [.tup [.str w, .tup [.str "end", .int 0]]], .tup [.tup [.str w, .lst [.str "end"]]], .tup [.tup [.str "", .tup [.str "shift", .int 0]]], .tup [.tup [.non, .tup [.str "end"]]], .tup [.tup [.str "A", .tup [.str "end"]]], .tup [.tup [.str w]], .tup [.tup [.str w, .tup [.str "end"]], .tup [.str "", .tup [.str "end"]]], .tup [.tup [.str w, .tup [.str "end"]], .tup [.str w, .tup [.str "end"]]], .lst [], .non, .tup [.tup [.str w, .tup []]], .str "ab"]
def badG (w : Str) : List D := [.tup [.tup [.str w, .int 9]], .tup [.tup [.str w, .int (-1)]], .tup [.tup [.str w, .bl true]], .tup [.tup [.str "", .int 0]], .tup [.tup [.str "A", .int 0]], .tup [.tup [.str w, .int 0], .tup [.str w, .int 0]], .non, .tup [.int 5]]
def badN (w : Str) : List D := [.tup [.tup [.int 300, .int 0, .str ""]], .tup [.tup [.int (-2), .int 0, .str ""]], .tup [.tup [.int 0, .int 9, .str ""]], .tup [.tup [.int 0, .int (-1), .str ""]], .tup [.tup [.int 0, .int 0, .str "A"]], .tup [.tup [.int 0, .int 0, .non]], .tup [.tup [.int 0, .int 0]], .tup [.tup [.int (-1), .int 2, .str ""]], .tup [.tup [.int (-1), .int 0, .str w]], .tup [.tup [.int 0, .int 1, .str ""], .tup [.int 0, .int 0, .str ""]], .tup [.tup [.int 0, .int 0, .str ""], .tup [.int 0, .int 0, .str ""]], .tup [.tup [.bl true, .int 0, .str ""]], .lst [], .non, .tup [.lst [.int 0, .int 0, .str ""]], .tup [.tup [.int 0, .bl true, .str ""]]]
def badO : List D := [.lst [.tup [], .tup [], .tup []], .tup [.tup [], .tup []], .tup [.tup [], .tup [], .tup [], .tup []], .non, .str "abc", .int 5]
theorem badD_ok {w : Str} {m : Int} (hw : nameB (.str w) = true) (h1 : 1 ≤ m) (h5 : m ≤ 5) : ∀ d ∈ badD w, deedsB m d = false := by
  have hz : w ≠ "" := fun e => by subst e; exact absurd hw (by decide)
  have ww : wordB (.str w) = true := by rw [word_name hz]; exact hw
  have wA : wordB (.str "A") = false := by decide +kernel
  have wx : wordB .non = false := rfl
  have wn : wordB (.str "") = true := by decide +kernel
  have n9 : ¬ (9 : Int) ≤ m - 1 := by omega
  have l1 := leD_none w
  have l2 := leD_self (.str w)
  intro d hd
  simp only [badD, List.mem_cons, List.not_mem_nil, or_false] at hd
  rcases hd with rfl | rfl | rfl | rfl | rfl | rfl | rfl | rfl | rfl | rfl | rfl | rfl | rfl | rfl | rfl | rfl | rfl | rfl | rfl <;>
    simp [deedsB, dpB, deedB, numB, shiftNone, isShift, rises, fst0, ww, wA, wn, n9, l1, l2, wx]
theorem badG_ok {w : Str} {m : Int} (hw : nameB (.str w) = true) (h1 : 1 ≤ m) (h5 : m ≤ 5) : ∀ d ∈ badG w, goesB m d = false := by
  have nA : nameB (.str "A") = false := by decide +kernel
  have nn : nameB (.str "") = false := by decide +kernel
  have n9 : ¬ (9 : Int) ≤ m - 1 := by omega
  have l2 := leD_self (.str w)
  intro d hd
  simp only [badG, List.mem_cons, List.not_mem_nil, or_false] at hd
  rcases hd with rfl | rfl | rfl | rfl | rfl | rfl | rfl | rfl <;>
    simp [goesB, gpB, numB, rises, fst0, hw, nA, nn, n9, l2]
theorem badN_ok {w : Str} (hw : nameB (.str w) = true) : ∀ d ∈ badN w, notesB d = false := by
  have hz : w ≠ "" := fun e => by subst e; exact absurd hw (by decide)
  have wA : wordB (.str "A") = false := by decide +kernel
  have wx : wordB .non = false := rfl
  have r1 : leD (.tup [.int 0, .int 0, .str ""]) (.tup [.int 0, .int 1, .str ""]) = true := by decide +kernel
  have r2 := leD_self (.tup [.int 0, .int 0, .str ""])
  intro d hd
  simp only [badN, List.mem_cons, List.not_mem_nil, or_false] at hd
  rcases hd with rfl | rfl | rfl | rfl | rfl | rfl | rfl | rfl | rfl | rfl | rfl | rfl | rfl | rfl | rfl | rfl <;>
    simp [notesB, noteB, numB, rises, hz, wA, r1, r2, wx]
def badAll (w : Str) : List D := (badD w).map (fun d => .tup [d, .tup [], .tup []]) ++ (badG w).map (fun d => .tup [.tup [], d, .tup []]) ++ (badN w).map (fun d => .tup [.tup [], .tup [], d]) ++ badO
theorem bad_ok {w : Str} {m : Int} (hw : nameB (.str w) = true) (h1 : 1 ≤ m) (h5 : m ≤ 5) : ∀ d ∈ badAll w, stateB m d = false := by
  intro d hd
  rcases List.mem_append.mp hd with hd | hd
  · rcases List.mem_append.mp hd with hd | hd
    · rcases List.mem_append.mp hd with hd | hd
      · obtain ⟨e, he, rfl⟩ := List.mem_map.mp hd
        simp [stateB, badD_ok hw h1 h5 e he]
      · obtain ⟨e, he, rfl⟩ := List.mem_map.mp hd
        simp [stateB, badG_ok hw h1 h5 e he]
    · obtain ⟨e, he, rfl⟩ := List.mem_map.mp hd
      simp [stateB, badN_ok hw e he]
  · simp only [badO, List.mem_cons, List.not_mem_nil, or_false] at hd
    rcases hd with rfl | rfl | rfl | rfl | rfl | rfl <;> simp [stateB]
theorem bad_thing {w : Str} (hw : nameB (.str w) = true) : ∀ d ∈ badAll w, thing d = true := by
  have hl : w.length ≤ 1000 := by
    simp only [nameB, Bool.and_eq_true, decide_eq_true_eq] at hw
    omega
  intro d hd
  have l1 : ("shift" : Str).length ≤ 1000 := by decide +kernel
  have l2 : ("make" : Str).length ≤ 1000 := by decide +kernel
  have l3 : ("end" : Str).length ≤ 1000 := by decide +kernel
  have l4 : ("go" : Str).length ≤ 1000 := by decide +kernel
  have l5 : ("0" : Str).length ≤ 1000 := by decide +kernel
  have l6 : ("" : Str).length ≤ 1000 := by decide +kernel
  have l7 : ("A" : Str).length ≤ 1000 := by decide +kernel
  have l8 : ("ab" : Str).length ≤ 1000 := by decide +kernel
  have l9 : ("abc" : Str).length ≤ 1000 := by decide +kernel
  have q : (badAll w).all thing = true := by simp [badAll, badD, badG, badN, badO, thing, things, hl, l1, l2, l3, l4, l5, l6, l7, l8, l9]
  exact List.all_eq_true.mp q d hd
end Lw
namespace Lw
open PySem PySem.Spec PyProof.Rows L2 VI
theorem fin_newS {st more : Store} {d : D} (hd : refsLt st.length d = true) : fin st (.new d) (st ++ more) = .ok (.new d) st := by
  unfold fin
  rw [if_pos (cutOk_self _ _)]
  simp [hd]
section
variable {N : D} {w : Str} {st : Store}
abbrev Bv (N : D) (w : Str) (a2 a3 a4 a5 : Option D) : DEnv := [some N, some (.str w), a2, a3, a4, a5, none, none, none]
theorem bs2 (s : Store) : x2_f_law_bad_parts (Bv N w none none none none) s = .nx (Bv N w (some (.lst ((badD w).take 4))) none none none) s := by
  unfold x2_f_law_bad_parts; simp [badD]
theorem bs3 (s : Store) : x3_f_law_bad_parts (Bv N w (some (.lst ((badD w).take 4))) none none none) s = .nx (Bv N w (some (.lst ((badD w).take 8))) none none none) s := by
  unfold x3_f_law_bad_parts; simp [badD, fAdd, lstOf, catOk]
theorem bs4 (s : Store) : x4_f_law_bad_parts (Bv N w (some (.lst ((badD w).take 8))) none none none) s = .nx (Bv N w (some (.lst ((badD w).take 13))) none none none) s := by
  unfold x4_f_law_bad_parts; simp [badD, fAdd, lstOf, catOk]
theorem bs5 (s : Store) : x5_f_law_bad_parts (Bv N w (some (.lst ((badD w).take 13))) none none none) s = .nx (Bv N w (some (.lst ((badD w).take 17))) none none none) s := by
  unfold x5_f_law_bad_parts; simp [badD, fAdd, lstOf, catOk]
theorem bs6 (s : Store) : x6_f_law_bad_parts (Bv N w (some (.lst ((badD w).take 17))) none none none) s = .nx (Bv N w (some (.lst (badD w))) none none none) s := by
  unfold x6_f_law_bad_parts; simp [badD, fAdd, lstOf, catOk]
theorem bs7 (s : Store) {a2 : Option D} : x7_f_law_bad_parts (Bv N w a2 none none none) s = .nx (Bv N w a2 (some (.lst (badG w))) none none) s := by
  unfold x7_f_law_bad_parts; simp [badG]
theorem bs8 {a2 a3 : Option D} : x8_f_law_bad_parts (Bv N w a2 a3 none none) st = .nx (Bv N w a2 a3 (some (.ref st.length)) none) (st ++ [some (.lst ((badN w).take 7))]) := by
  unfold x8_f_law_bad_parts; simp [badN]
theorem bs9 {a2 a3 : Option D} : x9_f_law_bad_parts (Bv N w a2 a3 (some (.ref st.length)) none) (st ++ [some (.lst ((badN w).take 7))]) = .nx (Bv N w a2 a3 (some (.ref (st.length + 1))) none) (st ++ [some (.lst ((badN w).take 7)), some (.lst ((badN w).take 11))]) := by
  unfold x9_f_law_bad_parts; simp [badN, fAdd, lstOf, catOk]
theorem bs10 {a2 a3 : Option D} : x10_f_law_bad_parts (Bv N w a2 a3 (some (.ref (st.length + 1))) none) (st ++ [some (.lst ((badN w).take 7)), some (.lst ((badN w).take 11))]) = .nx (Bv N w a2 a3 (some (.ref (st.length + 1))) none) (st ++ [some (.lst ((badN w).take 7)), some (.lst ((badN w).take 12))]) := by
  unfold x10_f_law_bad_parts
  have g : (st ++ [some (D.lst ((badN w).take 7)), some (.lst ((badN w).take 11))])[st.length + 1]? = some (some (.lst ((badN w).take 11))) := by
    rw [List.getElem?_append_right (by omega)]; simp
  have e : (st ++ [some (D.lst ((badN w).take 7)), some (.lst ((badN w).take 11))]).set (st.length + 1) (some (.lst ((badN w).take 12))) = st ++ [some (.lst ((badN w).take 7)), some (.lst ((badN w).take 12))] := by
    rw [List.set_append_right _ _ (by omega)]; simp
  have e12 : (badN w).take 12 = (badN w).take 11 ++ [.tup [.tup [.bl true, .int 0, .str ""]]] := rfl
  have l11 : ((badN w).take 11).length = 11 := rfl
  rw [e12] at e ⊢
  generalize (badN w).take 11 = A at *
  generalize (badN w).take 7 = B at *
  simp [evMt, tyD, fAppend, g, l11, e]
theorem bs11 {a2 a3 : Option D} : x11_f_law_bad_parts (Bv N w a2 a3 (some (.ref (st.length + 1))) none) (st ++ [some (.lst ((badN w).take 7)), some (.lst ((badN w).take 12))]) =
    .nx (Bv N w a2 a3 (some (.ref (st.length + 2))) none) (st ++ [some (.lst ((badN w).take 7)), some (.lst ((badN w).take 12)), some (.lst (badN w))]) := by
  unfold x11_f_law_bad_parts
  have g : (st ++ [some (D.lst ((badN w).take 7)), some (.lst ((badN w).take 12))])[st.length + 1]? = some (some (.lst ((badN w).take 12))) := by
    rw [List.getElem?_append_right (by omega)]; simp
  have e16 : badN w = (badN w).take 12 ++ [.lst [], .non, .tup [.lst [.int 0, .int 0, .str ""]], .tup [.tup [.int 0, .bl true, .str ""]]] := rfl
  have l12 : ((badN w).take 12).length = 12 := rfl
  rw [show (some (D.lst (badN w))) = some (D.lst ((badN w).take 12 ++ [.lst [], .non, .tup [.lst [.int 0, .int 0, .str ""]], .tup [.tup [.int 0, .bl true, .str ""]]])) from rfl]
  generalize (badN w).take 12 = A at *
  generalize (badN w).take 7 = B at *
  simp [fAdd, lstOf, g, catOk, l12]
theorem things_refs' {ds : List D} (h : ∀ d ∈ ds, thing d = true) (k : Nat) : refsLts k ds = true := by rw [refsLts_all]; exact fun x hx => refsLt_mono (Nat.zero_le _) _ (thing_refs x (h x hx))
theorem bs12 (hw : nameB (.str w) = true) {B C : List D} : x12_f_law_bad_parts (Bv N w (some (.lst (badD w))) (some (.lst (badG w))) (some (.ref (st.length + 2))) none) (st ++ [some (.lst B), some (.lst C), some (.lst (badN w))]) =
    .nx (Bv N w (some (.lst (badD w))) (some (.lst (badG w))) (some (.ref (st.length + 2))) (some (.lst ((badD w).map (fun d => .tup [d, .tup [], .tup []]) ++ (badG w).map (fun d => .tup [.tup [], d, .tup []]) ++ (badN w).map (fun d => .tup [.tup [], .tup [], d]))))) (st ++ [some (.lst B), some (.lst C), some (.lst (badN w))]) := by
  unfold x12_f_law_bad_parts
  have th := bad_thing hw
  have tD : ∀ d ∈ badD w, refsLt 0 (.tup [d, .tup [], .tup []]) = true := fun d hd => thing_refs _ (th _ (List.mem_append_left _ (List.mem_append_left _ (List.mem_append_left _ (List.mem_map.mpr ⟨d, hd, rfl⟩)))))
  have tG : ∀ d ∈ badG w, refsLt 0 (.tup [.tup [], d, .tup []]) = true := fun d hd => thing_refs _ (th _ (List.mem_append_left _ (List.mem_append_left _ (List.mem_append_right _ (List.mem_map.mpr ⟨d, hd, rfl⟩)))))
  have tN : ∀ d ∈ badN w, refsLt 0 (.tup [.tup [], .tup [], d]) = true := fun d hd => thing_refs _ (th _ (List.mem_append_left _ (List.mem_append_right _ (List.mem_map.mpr ⟨d, hd, rfl⟩))))
  obtain ⟨S, hS⟩ : ∃ S, S = st ++ [some (D.lst B), some (.lst C), some (.lst (badN w))] := ⟨_, rfl⟩
  have g : S[st.length + 2]? = some (some (.lst (badN w))) := by rw [hS, List.getElem?_append_right (by omega)]; simp
  rw [← hS]
  have lD : (badD w).length = 19 := rfl
  have lG : (badG w).length = 8 := rfl
  have lN : (badN w).length = 16 := rfl
  generalize badD w = BD at *
  generalize badG w = BG at *
  generalize badN w = BN at *
  have l1 : lc_f_law_bad_parts_1 (Bv N w (some (.lst BD)) (some (.lst BG)) (some (.ref (st.length + 2))) none) S = .ok (.new (.lst (BD.map fun d => .tup [d, .tup [], .tup []]))) S := evLc_map1 (own := [6]) (m := itSeq (evVar 2)) (g := gdName 6) (e := evTup (acons (evVar 6) (acons (evTup (anil)) (acons (evTup (anil)) (anil))))) (items := BD) id (fun d => .tup [d, .tup [], .tup []])
    (fun d => [some N, some (.str w), some (.lst BD), some (.lst BG), some (.ref (st.length + 2)), none, some d, none, none]) (by simp) (by omega) (fun d _ => ⟨by simp [wipeD], fun more => ⟨_, by simp; rfl, rfl⟩⟩) tD
  have l2 : lc_f_law_bad_parts_2 (Bv N w (some (.lst BD)) (some (.lst BG)) (some (.ref (st.length + 2))) none) S = .ok (.new (.lst (BG.map fun d => .tup [.tup [], d, .tup []]))) S := evLc_map1 (own := [7]) (m := itSeq (evVar 3)) (g := gdName 7) (e := evTup (acons (evTup (anil)) (acons (evVar 7) (acons (evTup (anil)) (anil))))) (items := BG) id (fun d => .tup [.tup [], d, .tup []])
    (fun d => [some N, some (.str w), some (.lst BD), some (.lst BG), some (.ref (st.length + 2)), none, none, some d, none]) (by simp) (by omega) (fun d _ => ⟨by simp [wipeD], fun more => ⟨_, by simp; rfl, rfl⟩⟩) tG
  have l3 : lc_f_law_bad_parts_3 (Bv N w (some (.lst BD)) (some (.lst BG)) (some (.ref (st.length + 2))) none) S = _ := evLc_mapS (own := [8]) (m := itSeq (evVar 4)) (g := gdName 8) (t := tvYes) (e := evTup (acons (evTup (anil)) (acons (evTup (anil)) (acons (evVar 8) (anil))))) (items := BN) (src := some (st.length + 2)) (fun _ => true) (fun d => .tup [.tup [], .tup [], d])
    (fun d => [some N, some (.str w), some (.lst BD), some (.lst BG), some (.ref (st.length + 2)), none, none, none, some d]) (by simp [itSeq, seqOf, lstOf, g]) (fun k h => by cases h; exact g) (by omega) (fun d _ => ⟨by simp [wipeD], fun more => ⟨rfl, fun _ => ⟨_, by simp; rfl, rfl⟩⟩⟩) (fun d hd _ => refsLt_mono (Nat.zero_le _) _ (tN d hd))
  rw [List.filter_eq_self.mpr (fun _ _ => rfl)] at l3
  simp [l1, l2, l3, fAdd, lstOf, catOk, lD, lG, lN]
theorem bad_parts_eq {ss : List Str} (h2 : ss[2]? = some w) (hw : nameB (.str w) = true) : F_f_law_bad_parts [.lst (ss.map D.str)] st = .ok (.new (.lst (badAll w))) st := by
  obtain ⟨N, hN⟩ : ∃ N, N = D.lst (ss.map D.str) := ⟨_, rfl⟩
  have S1 : x1_f_law_bad_parts [some N, none, none, none, none, none, none, none, none] st = .nx (Bv N w none none none none) st := by
    have a : atI (ss.map D.str) 2 = some (.str w) := atI_nat (show (ss.map D.str)[2]? = some (.str w) by rw [List.getElem?_map, h2]; rfl)
    unfold x1_f_law_bad_parts
    simp [hN, a]
  rw [← hN]
  unfold F_f_law_bad_parts
  have run : b_f_law_bad_parts ([N].map some ++ List.replicate (9 - [N].length) none) st = .ret (.new (.lst (badAll w))) (st ++ [some (.lst ((badN w).take 7)), some (.lst ((badN w).take 12)), some (.lst (badN w))]) := by
    unfold b_f_law_bad_parts
    show (sSeq (x1_f_law_bad_parts) _) [some N, none, none, none, none, none, none, none, none] st = _
    rw [run_step S1, run_step (bs2 st), run_step (bs3 st), run_step (bs4 st), run_step (bs5 st), run_step (bs6 st), run_step (bs7 st), run_step bs8, run_step bs9, run_step bs10, run_step bs11, run_step (bs12 hw)]
    have lX : ((badD w).map (fun d => D.tup [d, .tup [], .tup []]) ++ (badG w).map (fun d => D.tup [.tup [], d, .tup []]) ++ (badN w).map (fun d => D.tup [.tup [], .tup [], d])).length = 43 := rfl
    unfold x13_f_law_bad_parts badAll badO
    generalize ((badD w).map (fun d => D.tup [d, .tup [], .tup []]) ++ (badG w).map (fun d => D.tup [.tup [], d, .tup []]) ++ (badN w).map (fun d => D.tup [.tup [], .tup [], d])) = XS at *
    simp [fAdd, lstOf, catOk, lX]
  rw [run_ret run]
  exact fin_newS (by simp only [refsLt]; exact things_refs' (bad_thing hw) _)
end
end Lw
namespace Lw
open PySem PySem.Spec PyProof.Rows L2 VI
theorem lg_small {j : Int} (h0 : 0 < j) (h1 : j < 1073741824) : j.natAbs.log2 < 9000 := by
  have h : j.natAbs < 2 ^ 30 := by omega
  have := Nat.log2_lt (n := j.natAbs) (k := 30) (by omega) |>.mpr h
  omega
/-- the digits' cell -/
abbrev Dn (st : Store) (n : Nat) (z : Int) : Store := st.set n (some (.lst [.int z]))
theorem take_eq {n : Nat} {st : Store} {x size : Int} (hn : st[n]? = some (some (.lst [.int x]))) (hc : closedB st.length st = true) (h0 : 0 < size) (h1 : size < 1073741824) :
    ∃ r z, 0 ≤ r ∧ r < size ∧ F_f_law_take [.ref n, .int size] st = .ok (.val (.int r)) (Dn st n z) := by
  unfold F_f_law_take runP b_f_law_take x1_f_law_take x2_f_law_take x3_f_law_take
  obtain ⟨hlt, _⟩ := List.getElem?_eq_some_iff.mp hn
  have g : ∀ z, (Dn st n z)[n]? = some (some (.lst [.int z])) := fun z => List.getElem?_set_self hlt
  have f : ∀ z r, fin st (.val (.int r)) (Dn st n z) = .ok (.val (.int r)) (Dn st n z) := fun z r =>
    fin_of (cutOk_closed (by simp) (by rw [List.take_of_length_le (by simp)]; exact closed_set hc (by simp [refsLt, refsLts]))) (List.take_of_length_le (by simp)) (by simp [refsLt]) (fun _ => nofun)
  have lg := lg_small h0 h1
  refine ⟨x % size, x / size, Int.emod_nonneg _ (by omega), Int.emod_lt_of_pos _ h0, ?_⟩
  simp [fIx_ref hn, fIx_ref (g _), atI, fSetL, hn, fMod, h0, lg, ixN, f]
theorem take_D {n : Nat} {st : Store} {x size : Int} (hlt : n < st.length) (hc : closedB st.length st = true) (h0 : 0 < size) (h1 : size < 1073741824) :
    ∃ r z, 0 ≤ r ∧ r < size ∧ F_f_law_take [.ref n, .int size] (Dn st n x) = .ok (.val (.int r)) (Dn st n z) := by
  obtain ⟨r, z, r0, r1, e⟩ := take_eq (n := n) (st := Dn st n x) (x := x) (List.getElem?_set_self hlt) (by rw [List.length_set]; exact closed_set hc (by simp [refsLt, refsLts])) h0 h1
  exact ⟨r, z, r0, r1, by rw [e, Dn, Dn, List.set_set]⟩
/-! ### putting something in at a way -/
/-- what stands at a way -/
def atWay : D → List Nat → Option D
  | d, [] => some d
  | .tup ds, k :: way => (ds[k]?).bind fun d => atWay d way
  | _, _ => none
def wayD (way : List Nat) : D := .tup (way.map fun k : Nat => D.int (k : Int))
/-- the thing with another one at the way -/
def withWay : D → List Nat → D → D
  | _, [], o => o
  | .tup ds, k :: way, o => .tup (ds.take k ++ [withWay (ds.getD k .non) way o] ++ ds.drop (k + 1))
  | d, _, _ => d
end Lw
namespace Lw
open PySem PySem.Spec PyProof.Rows L2 VI
theorem cutD_take {α : Type} (xs : List α) (k : Nat) : VI.cutD xs none (some (k : Int)) = xs.take k := by
  unfold VI.cutD
  rw [HT.sIx_none, HT.sIx_nat]
  simp only [List.drop_zero, Nat.sub_zero]
  by_cases h : k ≤ xs.length
  · rw [Nat.min_eq_left h]
  · rw [Nat.min_eq_right (by omega), List.take_length, List.take_of_length_le (by omega)]
theorem cutD_drop {α : Type} (xs : List α) (k : Nat) : VI.cutD xs (some (k : Int)) none = xs.drop k := by
  unfold VI.cutD
  rw [HT.sIx_none, HT.sIx_nat]
  by_cases h : k ≤ xs.length
  · rw [Nat.min_eq_left h, List.take_of_length_le (by simp)]
  · rw [Nat.min_eq_right (by omega), List.drop_eq_nil_of_le (Nat.le_refl _), List.drop_eq_nil_of_le (by omega)]; simp
theorem way_thing {way : List Nat} (h : way.length ≤ 100) : thing (wayD way) = true := by
  unfold wayD
  simp only [thing, Bool.and_eq_true, decide_eq_true_eq, List.length_map]
  refine ⟨by omega, things_mem.mpr fun d hd => ?_⟩
  obtain ⟨k, _, rfl⟩ := List.mem_map.mp hd
  rfl
theorem with_thing : ∀ (way : List Nat) {d o e : D}, thing d = true → few d = true → thing o = true → atWay d way = some e → thing (withWay d way o) = true
  | [], _, _, _, _, _, ho, _ => by simpa [withWay] using ho
  | k :: way, d, o, e, td, fd, ho, ha => by
    cases d with
    | tup ds =>
      simp only [atWay] at ha
      obtain ⟨x, hx, hxw⟩ := Option.bind_eq_some_iff.mp ha
      simp only [few, Bool.and_eq_true, decide_eq_true_eq] at fd
      simp only [thing, Bool.and_eq_true, decide_eq_true_eq] at td
      have mx := List.mem_of_getElem? hx
      have gx : ds.getD k .non = x := by rw [List.getD_eq_getElem?_getD, hx]; rfl
      have ih := with_thing way (things_mem.mp td.2 x mx) (fews_mem.mp fd.2 x mx) ho hxw
      simp only [withWay, gx, thing, Bool.and_eq_true, decide_eq_true_eq]
      refine ⟨by simp; omega, things_mem.mpr fun y hy => ?_⟩
      rcases List.mem_append.mp hy with hy | hy
      · rcases List.mem_append.mp hy with hy | hy
        · exact things_mem.mp td.2 y (List.mem_of_mem_take hy)
        · rw [List.mem_singleton.mp hy]; exact ih
      · exact things_mem.mp td.2 y (List.mem_of_mem_drop hy)
    | _ => simp [atWay] at ha
theorem with_eq (st : Store) : ∀ (way : List Nat) (j : Nat) {d o e : D}, way.length < j → way.length ≤ 100 → few d = true → thing o = true → atWay d way = some e → F_f_law_with j [d, wayD way, o] st = .ok (.val (withWay d way o)) st
  | way, 0, _, _, _, h, _, _, _, _ => absurd h (Nat.not_lt_zero _)
  | [], j + 1, d, o, e, _, _, fd, ho, _ => by
    have f0 : fEq false (.tup []) (.tup []) st = .ok (.val (.bl true)) st := by simp [fEq, unref, isPy, isPys, shallow, toPy, toPys, PyData.depth, PyData.depthAll, eqD, PyData.eqv, PyData.eqvAll]
    have nr : ∀ k, o ≠ .ref k := fun k e => by subst e; simp [thing] at ho
    have ff : fin st (.val o) st = .ok (.val o) st := fin_val0 (refsLt_mono (Nat.zero_le _) _ (thing_refs _ ho)) nr
    unfold F_f_law_with runP b_f_law_with x1_f_law_with x2_f_law_with
    simp [wayD, f0, withWay, ff]
  | k :: way, j + 1, d, o, e, hj, hl, fd, ho, ha => by
    cases d with
    | tup ds =>
      have td := few_thing _ fd
      have tw := with_thing (k :: way) td fd ho ha
      simp only [atWay] at ha
      obtain ⟨x, hx, hxw⟩ := Option.bind_eq_some_iff.mp ha
      have fd' := fd
      simp only [few, Bool.and_eq_true, decide_eq_true_eq] at fd'
      have mx := List.mem_of_getElem? hx
      have gx : ds.getD k .non = x := by rw [List.getD_eq_getElem?_getD, hx]; rfl
      have ih := with_eq st way j (o := o) (by simp at hj; omega) (by simp at hl; omega) (fews_mem.mp fd'.2 x mx) ho hxw
      have fw := fEq_thing (neg := false) (st := st) (e := .tup []) (way_thing hl) (by simp [isPy, isPys]) rfl (by simp [toPy, toPys, PyData.depth, PyData.depthAll])
      have e0 : eqD (wayD (k :: way)) (.tup []) = false := by simp [wayD, eqD, toPy, toPys, PyData.eqv, PyData.eqvAll]
      rw [e0] at fw
      have ax := atI_nat hx
      have a0 : atI ((k :: way).map fun k : Nat => D.int (k : Int)) 0 = some (.int k) := atI_nat (j := 0) (xs := (k :: way).map fun k : Nat => D.int (k : Int)) (v := .int k) rfl
      have c1 : VI.cutD ((k :: way).map fun k : Nat => D.int (k : Int)) (some 1) none = way.map fun k : Nat => D.int (k : Int) := by
        have := cutD_drop ((k :: way).map fun k : Nat => D.int (k : Int)) 1
        simpa using this
      have t1 := cutD_take ds k
      have t2 := cutD_drop ds (k + 1)
      have ck : ((k + 1 : Nat) : Int) = (k : Int) + 1 := by omega
      rw [ck] at t2
      have k1 : catOk (ds.take k) [withWay x way o] = true := by simp [catOk]; omega
      have k2 : catOk (ds.take k ++ [withWay x way o]) (ds.drop (k + 1)) = true := by simp [catOk]; omega
      have nr : ∀ k', withWay (.tup ds) (k :: way) o ≠ .ref k' := fun k' e => by simp [withWay] at e
      have ff : fin st (.val (withWay (.tup ds) (k :: way) o)) st = .ok (.val (withWay (.tup ds) (k :: way) o)) st := fin_val0 (refsLt_mono (Nat.zero_le _) _ (thing_refs _ tw)) nr
      have eW : withWay (.tup ds) (k :: way) o = .tup (ds.take k ++ [withWay x way o] ++ ds.drop (k + 1)) := by simp only [withWay, gx]
      rw [eW] at ff ⊢
      have wd : wayD (k :: way) = .tup ((k :: way).map fun k : Nat => D.int (k : Int)) := rfl
      have wd2 : D.tup (way.map fun k : Nat => D.int (k : Int)) = wayD way := rfl
      rw [wd] at fw ⊢
      generalize (k :: way).map (fun k : Nat => D.int (k : Int)) = WL at *
      generalize withWay x way o = nw at *
      unfold F_f_law_with runP b_f_law_with x1_f_law_with x2_f_law_with x3_f_law_with x4_f_law_with
      simp [fw, a0, fSl, ax, c1, wd2, ih, t1, t2, fAdd, k1, k2]
      simpa using ff
    | _ => simp [atWay] at ha
end Lw
namespace Lw
open PySem PySem.Spec PyProof.Rows L2 VI
/-- at most k tuples one within another -/
def lev : Nat → D → Bool
  | 0, d => !isTup d
  | k + 1, .tup ds => ds.all (lev k)
  | _ + 1, _ => true
/-- the ways of a thing -/
def spotsD : Nat → D → List (List Nat)
  | k + 1, .tup ds => [] :: (List.range ds.length).flatMap fun i => (spotsD k (ds.getD i .non)).map (i :: ·)
  | _, _ => [[]]
def capS : Nat → Nat
  | 0 => 1
  | k + 1 => 1 + 9 * capS k
theorem capS_ok {k : Nat} (h : k ≤ 5) : capS k ≤ 66430 := by
  have : ∀ k ≤ 5, capS k ≤ 66430 := by decide
  exact this k h
theorem flat_len {f : Nat → List (List Nat)} {B : Nat} : ∀ n : Nat, (∀ i < n, (f i).length ≤ B) → ((List.range n).flatMap f).length ≤ n * B
  | 0, _ => by simp
  | n + 1, h => by
    have ih := flat_len n fun i hi => h i (by omega)
    have := h n (by omega)
    rw [List.range_succ, List.flatMap_append, List.length_append, Nat.succ_mul, show ([n] : List Nat).flatMap f = f n by simp]
    omega
theorem spots_len : ∀ (k : Nat) {d : D}, few d = true → (spotsD k d).length ≤ capS k
  | 0, d, _ => by simp [spotsD, capS]
  | k + 1, d, h => by
    cases d with
    | tup ds =>
      simp only [few, Bool.and_eq_true, decide_eq_true_eq] at h
      have := flat_len (f := fun i => (spotsD k (ds.getD i .non)).map (i :: ·)) (B := capS k) ds.length fun i hi => by
        rw [List.length_map]
        exact spots_len k (fews_mem.mp h.2 _ (getD_mem hi).1)
      have hb : ds.length * capS k ≤ 9 * capS k := Nat.mul_le_mul_right _ h.1
      simp only [spotsD, List.length_cons, capS]
      omega
    | _ => simp [spotsD, capS]
theorem spots_at : ∀ (k : Nat) {d : D} {way : List Nat}, way ∈ spotsD k d → way.length ≤ k ∧ ∃ e, atWay d way = some e
  | 0, d, way, h => by
    simp [spotsD] at h
    subst h; exact ⟨Nat.le_refl _, d, rfl⟩
  | k + 1, d, way, h => by
    cases d with
    | tup ds =>
      simp only [spotsD, List.mem_cons, List.mem_flatMap, List.mem_range, List.mem_map] at h
      rcases h with rfl | ⟨i, hi, w, hw, rfl⟩
      · exact ⟨by simp, _, rfl⟩
      · obtain ⟨h1, e, h2⟩ := spots_at k hw
        refine ⟨by simp; omega, e, ?_⟩
        simp only [atWay, (getD_mem hi).2, Option.bind_some]
        exact h2
    | _ => simp [spotsD] at h; subst h; exact ⟨by simp, _, rfl⟩
theorem way_refs (way : List Nat) (k : Nat) : refsLt k (wayD way) = true := by
  simp only [wayD, refsLt]
  rw [refsLts_all]
  intro d hd
  obtain ⟨j, _, rfl⟩ := List.mem_map.mp hd
  simp [refsLt]
theorem ways_refs (ws : List (List Nat)) (k : Nat) : refsLts k (ws.map wayD) = true := by
  rw [refsLts_all]
  intro d hd
  obtain ⟨w, _, rfl⟩ := List.mem_map.mp hd
  exact way_refs w k
theorem spots_eq : ∀ (k j : Nat) {d : D} (st : Store), k ≤ 5 → k < j → lev k d = true → few d = true → F_f_law_spots j [d] st = .ok (.val (.lst ((spotsD k d).map wayD))) st
  | k, 0, _, _, _, h, _, _ => absurd h (Nat.not_lt_zero _)
  | k, j + 1, d, st, h5, hj, hl, fd => by
    have flat : isTup d = false → spotsD k d = [[]] → F_f_law_spots (j + 1) [d] st = .ok (.val (.lst ((spotsD k d).map wayD))) st := fun ht hs => by
      rw [hs]
      have w0 : [[]].map wayD = [D.tup []] := rfl
      rw [w0]
      unfold F_f_law_spots runP b_f_law_spots x1_f_law_spots x2_f_law_spots x3_f_law_spots x5_f_law_spots
      cases d <;> first | (simp [isTup] at ht; done) | (simp [few] at fd; done) | (simp [isiTab, refsLt, refsLts, fin_val0])
    cases k with
    | zero => exact flat (by simpa [lev] using hl) (by simp [spotsD])
    | succ k =>
      cases d with
      | tup ds =>
        simp only [lev, List.all_eq_true] at hl
        have fd' := fd
        simp only [few, Bool.and_eq_true, decide_eq_true_eq] at fd'
        have ih := fun (y : D) (hy : y ∈ ds) (s : Store) => spots_eq k j (d := y) s (by omega) (by omega) (hl y hy) (fews_mem.mp fd'.2 y hy)
        obtain ⟨f, hf⟩ : ∃ f : Nat → List (List Nat), f = fun i => (spotsD k (ds.getD i .non)).map (i :: ·) := ⟨_, rfl⟩
        have hsp : spotsD (k + 1) (.tup ds) = [] :: (List.range ds.length).flatMap f := by rw [hf]; rfl
        have cap := capS_ok (k := k) (by omega)
        have fl : ∀ i < ds.length, (f i).length ≤ capS k := fun i hi => by
          rw [hf]; simp only [List.length_map]; exact spots_len k (fews_mem.mp fd'.2 _ (getD_mem hi).1)
        have cap1 := capS_ok (k := k + 1) h5
        simp only [capS] at cap1
        have S1 : x1_f_law_spots (F_f_law_spots j) [some (.tup ds), none, none, none, none] st = .nx [some (.tup ds), some (.lst (([] :: (List.range 0).flatMap f).map wayD)), none, none, none] st := by
          unfold x1_f_law_spots; simp [wayD]
        obtain ⟨env2, st2, el, a2, a3, a4, rfl, rfl⟩ := forGo_inv (iv := ⟨numD 0 ds, none⟩) (g := gdUn [gdName 2, gdName 3]) (body := lp_f_law_spots_1 (F_f_law_spots j)) rfl
          (fun i env s => ∃ a2 a3 a4 : Option D, env = [some (.tup ds), some (.lst (([] :: (List.range i).flatMap f).map wayD)), a2, a3, a4] ∧ s = st)
          (numD 0 ds) 0 [some (.tup ds), some (.lst (([] :: (List.range 0).flatMap f).map wayD)), none, none, none] st ⟨none, none, none, rfl, rfl⟩ (fun i d' env s hi hI => by
            obtain ⟨a2, a3, a4, rfl, rfl⟩ := hI
            obtain ⟨y, hy, rfl⟩ := numD_get ds 0 i d' hi
            have hil : i < ds.length := (List.getElem?_eq_some_iff.mp hy).1
            have gy : ds.getD i .non = y := by rw [List.getD_eq_getElem?_getD, hy]; rfl
            have r := ih y (List.mem_of_getElem? hy)
            have fi : f i = (spotsD k y).map (i :: ·) := by rw [hf]; simp only [gy]
            have li := fl i hil
            rw [fi, List.length_map] at li
            obtain ⟨A, hA⟩ : ∃ A, A = ([] :: (List.range i).flatMap f).map wayD := ⟨_, rfl⟩
            have lA : A.length ≤ 1 + 9 * capS k := by
              have := flat_len (f := f) (B := capS k) i fun q hq => fl q (by omega)
              have hb : i * capS k ≤ 9 * capS k := Nat.mul_le_mul_right _ (by omega)
              rw [hA, List.length_map, List.length_cons]; omega
            have hlc : lc_f_law_spots_1 (F_f_law_spots j) [some (.tup ds), some (.lst A), some (.int (i : Int)), some y, a4] s = .ok (.new (.lst ((spotsD k y).map fun w => wayD (i :: w)))) s :=
              evLc_map1 (own := [4]) (m := itSeq (evCall 1 (F_f_law_spots j) (acons (evVar 3) (anil)))) (g := gdName 4) (e := ev2 fAdd (evTup (acons (evVar 2) (anil))) (evVar 4)) (items := spotsD k y) wayD (fun w => wayD (i :: w)) (fun w => [some (.tup ds), some (.lst A), some (.int (i : Int)), some y, some (wayD w)])
                (by simp [r, itSeq, seqOf, lstOf]) (by omega) (fun w hw => ⟨by simp [wipeD], fun more => by
                  have lw := (spots_at k hw).1
                  refine ⟨.val (wayD (i :: w)), ?_, rfl⟩
                  have ck : catOk [D.int (i : Int)] (w.map fun k : Nat => D.int (k : Int)) = true := by simp [catOk]; omega
                  simp [fAdd, wayD, ck]⟩) (fun w _ => way_refs _ 0)
            have eR : ((spotsD k y).map fun w => wayD (i :: w)) = (f i).map wayD := by rw [fi, List.map_map]; rfl
            rw [eR] at hlc
            have ck : catOk A ((f i).map wayD) = true := by
              have := fl i hil
              simp [catOk]; omega
            refine ⟨[some (.tup ds), some (.lst A), some (.int (i : Int)), some y, a4], [some (.tup ds), some (.lst (A ++ (f i).map wayD)), some (.int (i : Int)), some y, a4], s, by rw [hA]; simp [gdSeq], .inl ?_, some (.int (i : Int)), some y, a4, ?_, rfl⟩
            · unfold lp_f_law_spots_1 x4_f_law_spots
              simp [hlc, fAdd, lstOf, ck]
            · have e1 : (List.range (0 + i + 1)).flatMap f = (List.range (0 + i)).flatMap f ++ f (0 + i) := by rw [List.range_succ, List.flatMap_append]; simp
              rw [e1, hA]
              simp)
        have S2 : x2_f_law_spots (F_f_law_spots j) [some (.tup ds), some (.lst (([] :: (List.range 0).flatMap f).map wayD)), none, none, none] st2 = .nx [some (.tup ds), some (.lst (([] :: (List.range ds.length).flatMap f).map wayD)), a2, a3, a4] st2 := by
          rw [numD_len] at el
          unfold x2_f_law_spots x3_f_law_spots
          have it : itEnumA (acons (evVar 0) (anil)) [some (.tup ds), some (.lst (([] :: (List.range 0).flatMap f).map wayD)), none, none, none] st2 = .ok ⟨numD 0 ds, none⟩ st2 := by simp [itEnumA]
          simp only [Nat.zero_add] at el
          generalize ([] :: (List.range 0).flatMap f).map wayD = A0 at el it ⊢
          generalize ([] :: (List.range ds.length).flatMap f).map wayD = B0 at el ⊢
          simp [isiTab, it, el]
        unfold F_f_law_spots
        have run : b_f_law_spots (F_f_law_spots j) ([D.tup ds].map some ++ List.replicate (5 - [D.tup ds].length) none) st2 = .ret (.val (.lst ((spotsD (k + 1) (.tup ds)).map wayD))) st2 := by
          unfold b_f_law_spots
          show (sSeq (x1_f_law_spots (F_f_law_spots j)) _) [some (.tup ds), none, none, none, none] st2 = _
          rw [run_step S1, run_step S2, hsp]
          unfold x5_f_law_spots; simp
        rw [run_ret run]
        exact fin_val0 (by simp only [refsLt]; exact ways_refs _ _) (fun _ => nofun)
      | _ => exact flat rfl (by simp [spotsD])
end Lw
namespace Lw
open PySem PySem.Spec PyProof.Rows L2 VI
abbrev bare : D := .tup [.tup [], .tup [], .tup []]
theorem bare_state (m : Int) : stateB m bare = true := by simp [stateB, deedsB, goesB, notesB, rises]
theorem rep_flat {α : Type} (x : α) : ∀ n : Nat, (List.replicate n [x]).flatten = List.replicate n x
  | 0 => rfl
  | n + 1 => by rw [List.replicate_succ, List.flatten_cons, rep_flat x n, List.replicate_succ]; rfl
theorem bares_hand {n : Nat} (h : n ≤ 1000) : handB (.lst (List.replicate n bare)) = true := by
  simp only [handB, Bool.and_eq_true, decide_eq_true_eq, List.length_replicate]
  exact ⟨h, things_mem.mpr fun d hd => by rw [(List.mem_replicate.mp hd).2]; rfl⟩
theorem bares_table {n : Nat} : tableB (List.replicate n bare) = (decide (1 ≤ n) && decide (n ≤ 600)) := by
  unfold tableB
  rw [List.length_replicate]
  have : (List.replicate n bare).all (stateB (n : Int)) = true := List.all_eq_true.mpr fun d hd => by rw [(List.mem_replicate.mp hd).2]; exact bare_state _
  rw [this]; simp
theorem mul_bares {n : Nat} (h : n ≤ 1000) (st : Store) : fMulB (.lst [bare]) (.int (n : Int)) st = .ok (.new (.lst (List.replicate n bare))) st := by
  unfold fMulB
  simp only [lstOf]
  rw [if_pos ⟨by omega, by omega, by simp⟩, Int.toNat_natCast, rep_flat]
theorem bares_refused {st : Store} (hc : closedB st.length st = true) : F_f_law_refused [.lst (List.replicate 601 bare)] st = .ok (.val (.bl true)) st :=
  refused_eq hc (bares_hand (by omega)) (by show tableB (List.replicate 601 bare) = false; rw [bares_table]; rfl)
theorem bares_made {st : Store} (hc : closedB st.length st = true) : makeV "Table" F_Table_init [.lst (List.replicate 600 bare)] st = .ok (.new (tableD (List.replicate 600 bare))) st := by
  rw [make_hand hc (bares_hand (by omega)), if_pos (by show tableB (List.replicate 600 bare) = true; rw [bares_table]; rfl)]
  rfl
end Lw
namespace Lw
open PySem PySem.Spec PyProof.Rows L2 VI
/-- the last line of the law -/
theorem law_last {st : Store} {env : DEnv} (hc : closedB st.length st = true) (h16 : env[16]? = some (some bare)) : x28_law env st = .ret (.val (.bl true)) st := by
  have r := bares_refused hc
  have m := bares_made hc
  have f1 := mul_bares (n := 601) (by omega) st
  have f2 := mul_bares (n := 600) (by omega) st
  have l : fLen [.tup (List.replicate 600 bare)] st = .ok (.val (.int 600)) st := by
    show Res.ok (Wv.val (.int ((List.replicate 600 bare).length : Nat))) st = _
    rw [List.length_replicate]; rfl
  have e : evVar 16 env st = .ok (.val bare) st := by simp [evVar, h16]
  generalize List.replicate 601 bare = R1 at *
  generalize List.replicate 600 bare = R0 at *
  have c1 : ((601 : Nat) : Int) = 601 := rfl
  have c0 : ((600 : Nat) : Int) = 600 := rfl
  rw [c1] at f1
  rw [c0] at f2
  unfold x28_law
  simp [h16, f1, f2, r, evMake, m, evFld, objOf, List.lookup, l]
end Lw
namespace Lw
open PySem PySem.Spec PyProof.Rows L2 VI
mutual
/-- what is drawn as a state, or within one -/
def slim : D → Bool
  | .int i => decide (-1 ≤ i) && decide (i ≤ 600)
  | .str z => wordB (.str z)
  | .tup ds => decide (ds.length ≤ 8) && slims ds
  | _ => false
def slims : List D → Bool
  | [] => true
  | d :: ds => slim d && slims ds
end
theorem slims_mem {ds : List D} : slims ds = true ↔ ∀ d ∈ ds, slim d = true := by
  induction ds with
  | nil => simp [slims]
  | cons d ds ih => simp [slims, ih]
theorem word_len {z : Str} (h : wordB (.str z) = true) : z.length ≤ 8 := by
  simp only [wordB, Bool.and_eq_true, decide_eq_true_eq] at h; omega
mutual
theorem slim_few : ∀ d : D, slim d = true → few d = true
  | .int _, _ => by simp [few]
  | .str z, h => by
    have := word_len (z := z) (by simpa [slim] using h)
    simp [few]; omega
  | .tup ds, h => by
    simp only [slim, Bool.and_eq_true, decide_eq_true_eq] at h
    simp only [few, Bool.and_eq_true, decide_eq_true_eq]; exact ⟨by omega, slims_fews ds h.2⟩
  | .non, h => by simp [slim] at h
  | .bl _, h => by simp [slim] at h
  | .lst _, h => by simp [slim] at h
  | .dic _, h => by simp [slim] at h
  | .ref _, h => by simp [slim] at h
  | .ty _, h => by simp [slim] at h
  | .cl _, h => by simp [slim] at h
  | .obj _ _, h => by simp [slim] at h
theorem slims_fews : ∀ ds : List D, slims ds = true → fews ds = true
  | [], _ => by simp [fews]
  | d :: ds, h => by
    simp only [slims, Bool.and_eq_true] at h
    simp only [fews, Bool.and_eq_true]; exact ⟨slim_few d h.1, slims_fews ds h.2⟩
end
theorem seq_ret2 {a b : SM} {env : DEnv} {s s' : Store} {w : Wv} (h : a env s = .ret w s') : sSeq a b env s = .ret w s' := by rw [sSeq_s, h]; rfl
theorem upper_len1 : ∀ cs : List Nat, (∀ c ∈ cs, c < 128) → (Txt.upper ⟨⟨cs⟩⟩).length = cs.length
  | [], _ => by decide +kernel
  | c :: cs, h => by
    have e : (⟨⟨c :: cs⟩⟩ : Str) = (⟨#[c]⟩ : Str) ++ ⟨⟨cs⟩⟩ := by
      apply PySem.Str.ext'
      rw [PySem.Str.cps_append]
      simp
    rw [e, PySem.W.KOpn.upper_app, PySem.strLen_append, PySem.W.KOpn.upper_one (h c (by simp)), upper_len1 cs fun x hx => h x (List.mem_cons_of_mem _ hx)]
    simp [Str.length]; omega
theorem letters_lo : ∀ c ∈ letters.cps.toList, c < 128 := by decide +kernel
theorem upper_len {z : Str} (h : wordB (.str z) = true) : (Txt.upper z).length ≤ 8 := by
  have hl := word_len h
  simp only [wordB, Bool.and_eq_true, decide_eq_true_eq, List.all_eq_true] at h
  have := upper_len1 z.cps.toList fun c hc => letters_lo c (by have := h.2 c hc; rw [strIn_one] at this; exact of_decide_eq_true this)
  have e : (⟨⟨z.cps.toList⟩⟩ : Str) = z := by cases z; simp
  rw [e] at this
  rw [this]; simpa [Str.length] using hl
theorem fin_Dn {n : Nat} {st : Store} {x y : Int} {o : D} (hc : closedB st.length st = true) (ho : few o = true) : fin (Dn st n x) (.val o) (Dn st n y) = .ok (.val o) (Dn st n y) := by
  refine fin_of (cutOk_closed (by simp) ?_) (List.take_of_length_le (by simp)) (refsLt_mono (Nat.zero_le _) _ (thing_refs _ (few_thing _ ho))) (fun k e => by subst e; simp [few] at ho)
  rw [List.take_of_length_le (by simp), List.length_set]
  exact closed_set hc (by simp [refsLt, refsLts])
theorem step_str {n : Nat} {st : Store} {x : Int} {z : Str} (hlt : n < st.length) (hc : closedB st.length st = true) (hz : wordB (.str z) = true) : ∃ o y, few o = true ∧ F_f_law_step [.ref n, .str z] (Dn st n x) = .ok (.val o) (Dn st n y) := by
  have hl := word_len hz
  have hu := upper_len hz
  obtain ⟨r1, x1, a1, b1, e1⟩ := take_D (x := x) (size := (z.length : Int) + 1) hlt hc (by omega) (by omega)
  obtain ⟨r2, x2, a2, b2, e2⟩ := take_D (x := x1) (size := 26) hlt hc (by omega) (by omega)
  obtain ⟨r3, x3, a3, b3, e3⟩ := take_D (x := x2) (size := 8) hlt hc (by omega) (by omega)
  have l26 : letters.cps.toList.length = 26 := by decide +kernel
  obtain ⟨c, hc1, _⟩ := atI_in (xs := letters.cps.toList) (i := r2) a2 (by rw [l26]; omega)
  have ll : letters.length = 26 := by decide +kernel
  have l1 : (⟨#[c]⟩ : Str).length = 1 := rfl
  have l9 : ("abcdefgh" : Str).length = 8 := by decide +kernel
  have k1 := cutS_len z none (some r1)
  have k2 := cutS_len z (some (r1 + 1)) none
  have k3 := cutS_len z (some r1) none
  have S2 : x2_f_law_step [some (.ref n), some (.str z), none, none, none] (Dn st n x) = .nx [some (.ref n), some (.str z), some (.int r1), none, none] (Dn st n x1) := by
    unfold x2_f_law_step; simp [show z.length ≤ 100000 by omega, e1]
  have S3 : x3_f_law_step [some (.ref n), some (.str z), some (.int r1), none, none] (Dn st n x1) = .nx [some (.ref n), some (.str z), some (.int r1), some (.str ⟨#[c]⟩), none] (Dn st n x2) := by
    unfold x3_f_law_step; simp [e2, hc1, ll]
  have m1 : (cutS z none (some r1) ++ ⟨#[c]⟩).length ≤ 9 := by rw [PySem.strLen_append, l1]; omega
  have S4 : x4_f_law_step [some (.ref n), some (.str z), some (.int r1), some (.str ⟨#[c]⟩), none] (Dn st n x2) = .nx [some (.ref n), some (.str z), some (.int r1), some (.str ⟨#[c]⟩), some (.lst [.str (cutS z none (some r1) ++ ⟨#[c]⟩ ++ cutS z (some (r1 + 1)) none), .str (cutS z none (some r1) ++ ⟨#[c]⟩ ++ cutS z (some r1) none), .str (cutS z none (some r1) ++ cutS z (some (r1 + 1)) none)])] (Dn st n x2) := by
    unfold x4_f_law_step
    simp [show z.length ≤ 100000 by omega, l1, show (cutS z none (some r1)).length + 1 ≤ 100000 by omega, show (cutS z none (some r1) ++ ⟨#[c]⟩).length + (cutS z (some (r1 + 1)) none).length ≤ 100000 by omega,
      show (cutS z none (some r1) ++ ⟨#[c]⟩).length + (cutS z (some r1) none).length ≤ 100000 by omega, show (cutS z none (some r1)).length + (cutS z (some (r1 + 1)) none).length ≤ 100000 by omega]
  obtain ⟨L, hL⟩ : ∃ L : List D, L = [.str (cutS z none (some r1) ++ ⟨#[c]⟩ ++ cutS z (some (r1 + 1)) none), .str (cutS z none (some r1) ++ ⟨#[c]⟩ ++ cutS z (some r1) none), .str (cutS z none (some r1) ++ cutS z (some (r1 + 1)) none)] := ⟨_, rfl⟩
  rw [← hL] at S4
  have hL3 : L.length = 3 := by rw [hL]; rfl
  have hLf : ∀ d ∈ L, few d = true := by
    intro d hd
    rw [hL] at hd
    simp only [List.mem_cons, List.not_mem_nil, or_false] at hd
    rcases hd with rfl | rfl | rfl <;> simp only [few, decide_eq_true_eq, PySem.strLen_append, l1] <;> omega
  obtain ⟨o, ho, hm⟩ := atI_in (xs := L ++ [D.str "", .str (z ++ "abcdefgh"), .str (Txt.upper z), .tup [.str z], .non]) (i := r3) a3 (by simp [hL3]; omega)
  have hf : few o = true := by
    rcases List.mem_append.mp hm with hm | hm
    · exact hLf o hm
    · simp only [List.mem_cons, List.not_mem_nil, or_false] at hm
      rcases hm with rfl | rfl | rfl | rfl | rfl
      · rfl
      · simp only [few, decide_eq_true_eq, PySem.strLen_append, l9]; omega
      · simp only [few, decide_eq_true_eq]; omega
      · simp [few, fews]; omega
      · rfl
  have S5 : x5_f_law_step [some (.ref n), some (.str z), some (.int r1), some (.str ⟨#[c]⟩), some (.lst L)] (Dn st n x2) = .ret (.val o) (Dn st n x3) := by
    unfold x5_f_law_step
    simp [show z.length ≤ 100000 by omega, l9, evMt0, fUpper, catOk, hL3, e3, ho, show z.length + 8 ≤ 100000 by omega]
  refine ⟨o, x3, hf, ?_⟩
  have S1 : x1_f_law_step [some (.ref n), some (.str z), none, none, none] (Dn st n x) = .ret (.val o) (Dn st n x3) := by
    unfold x1_f_law_step
    rw [sIf_s]
    simp only [tvB_s, evA_s, acons_s, anil_s, evVar_s, evC_s, bind_ok, List.getElem?_cons_succ, List.getElem?_cons_zero, val_d, fIsi_str, okTy1, if_true, sof_ok]
    rw [if_pos (by decide), run_step S2, run_step S3, run_step S4, S5]
  have run : b_f_law_step ([D.ref n, .str z].map some ++ List.replicate (5 - [D.ref n, .str z].length) none) (Dn st n x) = .ret (.val o) (Dn st n x3) := by
    unfold b_f_law_step
    show (sSeq x1_f_law_step _) [some (.ref n), some (.str z), none, none, none] (Dn st n x) = _
    exact seq_ret2 S1
  unfold F_f_law_step
  rw [run_ret run]
  exact fin_Dn hc hf
end Lw
namespace Lw
open PySem PySem.Spec PyProof.Rows L2 VI
theorem step_int {n : Nat} {st : Store} {x : Int} {i : Int} (hlt : n < st.length) (hc : closedB st.length st = true) (h0 : -1 ≤ i) (h1 : i ≤ 600) : ∃ o y, few o = true ∧ F_f_law_step [.ref n, .int i] (Dn st n x) = .ok (.val o) (Dn st n y) := by
  obtain ⟨r1, x1, a1, b1, e1⟩ := take_D (x := x) (size := 14) hlt hc (by omega) (by omega)
  have sh : (Str.ofString (toString i)).length ≤ 5 := int_shown h0 h1
  have lg : i.natAbs.log2 < 1920 := by
    have : i.natAbs.log2 ≤ i.natAbs := Nat.log2_le_self _
    omega
  obtain ⟨L, hL⟩ : ∃ L : List D, L = [.int (i + 1), .int (i - 1), .int (-1), .int 0, .int 1, .int 2, .int 8, .int 9, .int 299, .int 300, .str (toString i : String), .bl (i == 1), .non, .tup [.int i]] := ⟨_, rfl⟩
  have S1 : x1_f_law_step [some (.ref n), some (.int i), none, none, none] (Dn st n x) = .nx [some (.ref n), some (.int i), none, none, none] (Dn st n x) := by
    unfold x1_f_law_step; simp [isiTab]
  have S7 : x7_f_law_step [some (.ref n), some (.int i), none, none, none] (Dn st n x) = .nx [some (.ref n), some (.int i), none, none, some (.lst L)] (Dn st n x) := by
    unfold x7_f_law_step; simp [fStrI, lg, hL]
  have hl : L.length = 14 := by rw [hL]; rfl
  obtain ⟨o, ho, hm⟩ := atI_in (xs := L) (i := r1) a1 (by rw [hl]; omega)
  have hf : few o = true := by
    rw [hL] at hm
    simp only [List.mem_cons, List.not_mem_nil, or_false] at hm
    rcases hm with rfl | rfl | rfl | rfl | rfl | rfl | rfl | rfl | rfl | rfl | rfl | rfl | rfl | rfl <;> first | rfl | (simp only [few, decide_eq_true_eq]; omega)
  have S8 : x8_f_law_step [some (.ref n), some (.int i), none, none, some (.lst L)] (Dn st n x) = .ret (.val o) (Dn st n x1) := by
    unfold x8_f_law_step; simp [e1, ho]
  have S6 : x6_f_law_step [some (.ref n), some (.int i), none, none, none] (Dn st n x) = .ret (.val o) (Dn st n x1) := by
    unfold x6_f_law_step
    rw [sIf_s]
    simp only [tvB_s, evA_s, acons_s, anil_s, evVar_s, evC_s, bind_ok, List.getElem?_cons_succ, List.getElem?_cons_zero, val_d, fIsi_int, okTy2, if_true, sof_ok]
    rw [if_pos (by decide), run_step S7, S8]
  refine ⟨o, x1, hf, ?_⟩
  have run : b_f_law_step ([D.ref n, .int i].map some ++ List.replicate (5 - [D.ref n, .int i].length) none) (Dn st n x) = .ret (.val o) (Dn st n x1) := by
    unfold b_f_law_step
    show (sSeq x1_f_law_step _) [some (.ref n), some (.int i), none, none, none] (Dn st n x) = _
    rw [run_step S1]
    exact seq_ret2 S6
  unfold F_f_law_step
  rw [run_ret run]
  exact fin_Dn hc hf
theorem step_tup {n : Nat} {st : Store} {x : Int} {ds : List D} (hlt : n < st.length) (hc : closedB st.length st = true) (hl : ds.length ≤ 8) (hs : fews ds = true) : ∃ o y, few o = true ∧ F_f_law_step [.ref n, .tup ds] (Dn st n x) = .ok (.val o) (Dn st n y) := by
  have hsm := fews_mem.mp hs
  have fewT : ∀ es : List D, es.length ≤ 9 → (∀ e ∈ es, e ∈ ds) → few (.tup es) = true := fun es h1 h2 => by
    simp only [few, Bool.and_eq_true, decide_eq_true_eq]
    exact ⟨h1, fews_mem.mpr fun e he => hsm e (h2 e he)⟩
  obtain ⟨M, hM⟩ : ∃ M : Int, M = if ds.length > (1 : Int) then (ds.length : Int) else 1 := ⟨_, rfl⟩
  have hM1 : 1 ≤ M ∧ M ≤ 8 := by rw [hM]; split <;> omega
  obtain ⟨r1, x1, a1, b1, e1⟩ := take_D (x := x) (size := M) hlt hc (by omega) (by omega)
  obtain ⟨r2, x2, a2, b2, e2⟩ := take_D (x := x1) (size := 8) hlt hc (by omega) (by omega)
  obtain ⟨k, rfl⟩ : ∃ k : Nat, r1 = (k : Int) := ⟨r1.toNat, by omega⟩
  have c1 : ((k : Int) + 1) = ((k + 1 : Nat) : Int) := by omega
  have t1 : VI.cutD ds none (some (k : Int)) = ds.take k := cutD_take ds k
  have t2 : VI.cutD ds (some (k : Int)) none = ds.drop k := cutD_drop ds k
  have t3 : VI.cutD ds none (some ((k : Int) + 1)) = ds.take (k + 1) := by rw [c1]; exact cutD_take ds (k + 1)
  have t4 : VI.cutD ds (some ((k : Int) + 1)) none = ds.drop (k + 1) := by rw [c1]; exact cutD_drop ds (k + 1)
  have cat : ∀ a b : List D, a.length ≤ 8 → b.length ≤ 8 → catOk a b = true := fun a b h1 h2 => by simp [catOk]; omega
  obtain ⟨L, hL⟩ : ∃ L : List D, L = [.tup (ds.take k ++ ds.drop (k + 1)), .tup (ds.take (k + 1) ++ ds.drop k), .tup (ds.take k ++ (ds.drop k).reverse), .tup ds.reverse] := ⟨_, rfl⟩
  have S1 : x1_f_law_step [some (.ref n), some (.tup ds), none, none, none] (Dn st n x) = .nx [some (.ref n), some (.tup ds), none, none, none] (Dn st n x) := by
    unfold x1_f_law_step; simp [isiTab]
  have S6 : x6_f_law_step [some (.ref n), some (.tup ds), none, none, none] (Dn st n x) = .nx [some (.ref n), some (.tup ds), none, none, none] (Dn st n x) := by
    unfold x6_f_law_step; simp [isiTab]
  have S9 : x9_f_law_step [some (.ref n), some (.tup ds), none, none, none] (Dn st n x) = .nx [some (.ref n), some (.tup ds), some (.int k), none, none] (Dn st n x1) := by
    unfold x9_f_law_step
    rw [hM] at e1
    simp only [sSet_s, evCall_s, evA_s, acons_s, anil_s, evVar_s, evC_s, bind_ok, List.getElem?_cons_succ, List.getElem?_cons_zero, val_d, fLen_tup, fMaxMin, if_true, e1, noX_ok, sof_ok]
    simp [e1]
  have S10 : x10_f_law_step [some (.ref n), some (.tup ds), some (.int k), none, none] (Dn st n x1) = .nx [some (.ref n), some (.tup ds), some (.int k), none, some (.lst L)] (Dn st n x1) := by
    have q1 := cat (ds.take k) (ds.drop (k + 1)) (by simp; omega) (by simp; omega)
    have q2 := cat (ds.take (k + 1)) (ds.drop k) (by simp; omega) (by simp; omega)
    have q3 := cat (ds.take k) (ds.drop k).reverse (by simp; omega) (by simp; omega)
    unfold x10_f_law_step; simp [evRevA, t1, t2, t3, t4, q1, q2, q3, hL]
  have hl4 : L.length = 4 := by rw [hL]; rfl
  have hLf : ∀ d ∈ L, few d = true := by
    intro d hd
    rw [hL] at hd
    simp only [List.mem_cons, List.not_mem_nil, or_false] at hd
    rcases hd with rfl | rfl | rfl | rfl
    · exact fewT _ (by simp; omega) fun e he => by
        rcases List.mem_append.mp he with he | he
        · exact List.mem_of_mem_take he
        · exact List.mem_of_mem_drop he
    · exact fewT _ (by simp; omega) fun e he => by
        rcases List.mem_append.mp he with he | he
        · exact List.mem_of_mem_take he
        · exact List.mem_of_mem_drop he
    · exact fewT _ (by simp; omega) fun e he => by
        rcases List.mem_append.mp he with he | he
        · exact List.mem_of_mem_take he
        · exact List.mem_of_mem_drop (List.mem_reverse.mp he)
    · exact fewT _ (by simp; omega) fun e he => List.mem_reverse.mp he
  obtain ⟨o, ho, hm⟩ := atI_in (xs := L ++ [D.lst ds, .tup [.tup ds], .tup [], .non]) (i := r2) a2 (by simp [hl4]; omega)
  have hT : few (.tup ds) = true := fewT ds (by omega) fun e he => he
  have hf : few o = true := by
    rcases List.mem_append.mp hm with hm | hm
    · exact hLf o hm
    · simp only [List.mem_cons, List.not_mem_nil, or_false] at hm
      rcases hm with rfl | rfl | rfl | rfl
      · simp only [few, Bool.and_eq_true, decide_eq_true_eq]; exact ⟨by omega, hs⟩
      · simp only [few] at hT ⊢
        simp [fews, few, hT]
      · rfl
      · rfl
  have S11 : x11_f_law_step [some (.ref n), some (.tup ds), some (.int k), none, some (.lst L)] (Dn st n x1) = .ret (.val o) (Dn st n x2) := by
    unfold x11_f_law_step; simp [catOk, hl4, e2, ho]
  refine ⟨o, x2, hf, ?_⟩
  have run : b_f_law_step ([D.ref n, .tup ds].map some ++ List.replicate (5 - [D.ref n, .tup ds].length) none) (Dn st n x) = .ret (.val o) (Dn st n x2) := by
    unfold b_f_law_step
    show (sSeq x1_f_law_step _) [some (.ref n), some (.tup ds), none, none, none] (Dn st n x) = _
    rw [run_step S1, run_step S6, run_step S9, run_step S10]
    exact S11
  unfold F_f_law_step
  rw [run_ret run]
  exact fin_Dn hc hf
theorem step_eq {n : Nat} {st : Store} {x : Int} {d : D} (hlt : n < st.length) (hc : closedB st.length st = true) (hs : slim d = true) : ∃ o y, few o = true ∧ F_f_law_step [.ref n, d] (Dn st n x) = .ok (.val o) (Dn st n y) := by
  cases d with
  | int i =>
    simp only [slim, Bool.and_eq_true, decide_eq_true_eq] at hs
    exact step_int hlt hc hs.1 hs.2
  | str z => exact step_str hlt hc (by simpa [slim] using hs)
  | tup ds =>
    simp only [slim, Bool.and_eq_true, decide_eq_true_eq] at hs
    exact step_tup hlt hc hs.1 (slims_fews ds hs.2)
  | _ => simp [slim] at hs
end Lw
namespace Lw
open PySem PySem.Spec PyProof.Rows L2 VI
theorem with_few : ∀ (way : List Nat) {d o e : D}, few d = true → few o = true → atWay d way = some e → few (withWay d way o) = true
  | [], _, _, _, _, ho, _ => by simpa [withWay] using ho
  | k :: way, d, o, e, fd, ho, ha => by
    cases d with
    | tup ds =>
      simp only [atWay] at ha
      obtain ⟨x, hx, hxw⟩ := Option.bind_eq_some_iff.mp ha
      simp only [few, Bool.and_eq_true, decide_eq_true_eq] at fd
      have mx := List.mem_of_getElem? hx
      obtain ⟨hk, _⟩ := List.getElem?_eq_some_iff.mp hx
      have gx : ds.getD k .non = x := by rw [List.getD_eq_getElem?_getD, hx]; rfl
      have ih := with_few way (fews_mem.mp fd.2 x mx) ho hxw
      simp only [withWay, gx, few, Bool.and_eq_true, decide_eq_true_eq]
      refine ⟨by simp; omega, fews_mem.mpr fun y hy => ?_⟩
      rcases List.mem_append.mp hy with hy | hy
      · rcases List.mem_append.mp hy with hy | hy
        · exact fews_mem.mp fd.2 y (List.mem_of_mem_take hy)
        · rw [List.mem_singleton.mp hy]; exact ih
      · exact fews_mem.mp fd.2 y (List.mem_of_mem_drop hy)
    | _ => simp [atWay] at ha
theorem spots_pos (k : Nat) (d : D) : 1 ≤ (spotsD k d).length := by
  cases k with
  | zero => simp [spotsD]
  | succ k => cases d <;> simp [spotsD]
/-- a thing changed by one step at any place -/
theorem spoilt_eq {n k : Nat} {st : Store} {x : Int} {d : D} (hlt : n < st.length) (hc : closedB st.length st = true) (h5 : k ≤ 5) (hl : lev k d = true) (hs : slim d = true) :
    ∃ o y, few o = true ∧ F_f_law_spoilt [.ref n, d] (Dn st n x) = .ok (.val o) (Dn st n y) := by
  have fd := slim_few d hs
  have sp := spots_eq k 8 (d := d) (Dn st n x) h5 (by omega) hl fd
  have cl := spots_len k fd
  have cap := capS_ok h5
  have pos := spots_pos k d
  obtain ⟨r1, x1, a1, b1, e1⟩ := take_D (x := x) (size := ((spotsD k d).length : Int)) hlt hc (by omega) (by omega)
  obtain ⟨wd, hw1, hw2⟩ := atI_in (xs := (spotsD k d).map wayD) (i := r1) a1 (by simpa using b1)
  obtain ⟨w, hw, rfl⟩ := List.mem_map.mp hw2
  obtain ⟨lw, f, hf⟩ := spots_at k hw
  have S1 : x1_f_law_spoilt [some (.ref n), some d, none, none, none, none] (Dn st n x) = .nx [some (.ref n), some d, some (.lst ((spotsD k d).map wayD)), none, none, none] (Dn st n x) := by
    unfold x1_f_law_spoilt; simp [sp]
  obtain ⟨W, hW⟩ : ∃ W, W = (spotsD k d).map wayD := ⟨_, rfl⟩
  have lW : (W.length : Int) = ((spotsD k d).length : Int) := by rw [hW]; simp
  rw [← hW] at S1 hw1
  rw [← lW] at e1
  have S2 : x2_f_law_spoilt [some (.ref n), some d, some (.lst W), none, none, none] (Dn st n x) = .nx [some (.ref n), some d, some (.lst W), some (wayD w), none, none] (Dn st n x1) := by
    unfold x2_f_law_spoilt; simp [e1, hw1]
  have S3 : x3_f_law_spoilt [some (.ref n), some d, some (.lst W), some (wayD w), none, none] (Dn st n x1) = .nx [some (.ref n), some d, some (.lst W), some (wayD w), some d, none] (Dn st n x1) := by
    unfold x3_f_law_spoilt; simp
  obtain ⟨env2, st2, el, e, a5, se, he, rfl, rfl⟩ := forGo_inv (iv := ⟨w.map fun k : Nat => D.int (k : Int), none⟩) (g := gdName 5) (body := lp_f_law_spoilt_1) rfl
    (fun i env s => ∃ (e : D) (a5 : Option D), slim e = true ∧ atWay e (w.drop i) = some f ∧ env = [some (.ref n), some d, some (.lst W), some (wayD w), some e, a5] ∧ s = Dn st n x1)
    (w.map fun k : Nat => D.int (k : Int)) 0 [some (.ref n), some d, some (.lst W), some (wayD w), some d, none] (Dn st n x1) ⟨d, none, hs, by simpa using hf, rfl, rfl⟩ (fun i d' env s hi hI => by
      obtain ⟨e, a5, se, he, rfl, rfl⟩ := hI
      simp only [Nat.zero_add] at he ⊢
      rw [List.getElem?_map] at hi
      obtain ⟨j, hj, rfl⟩ := Option.map_eq_some_iff.mp hi
      obtain ⟨hil, hjv⟩ := List.getElem?_eq_some_iff.mp hj
      rw [List.drop_eq_getElem_cons hil, hjv] at he
      cases e with
      | tup ds =>
        simp only [atWay] at he
        obtain ⟨y, hy, hy2⟩ := Option.bind_eq_some_iff.mp he
        have ay := atI_nat hy
        simp only [slim, Bool.and_eq_true] at se
        refine ⟨[some (.ref n), some d, some (.lst W), some (wayD w), some (.tup ds), some (.int j)], [some (.ref n), some d, some (.lst W), some (wayD w), some y, some (.int j)], Dn st n x1, by simp, .inl ?_, y, some (.int j), slims_mem.mp se.2 y (List.mem_of_getElem? hy), hy2, rfl, rfl⟩
        unfold lp_f_law_spoilt_1 x5_f_law_spoilt
        simp [ay]
      | _ => simp [atWay] at he)
  have he' : e = f := by
    rw [show w.drop (0 + (w.map fun k : Nat => D.int (k : Int)).length) = [] from List.drop_eq_nil_of_le (by simp)] at he
    simpa [atWay] using he
  subst he'
  have S4 : x4_f_law_spoilt [some (.ref n), some d, some (.lst W), some (wayD w), some d, none] (Dn st n x1) = .nx [some (.ref n), some d, some (.lst W), some (wayD w), some e, a5] (Dn st n x1) := by
    unfold x4_f_law_spoilt
    have it : itSeq (evVar 3) [some (.ref n), some d, some (.lst W), some (wayD w), some d, none] (Dn st n x1) = .ok ⟨w.map fun k : Nat => D.int (k : Int), none⟩ (Dn st n x1) := by simp [wayD]
    rw [sFor_s, it]
    simp only [sof_ok]
    exact el
  obtain ⟨o, x2, fo, e2⟩ := step_eq (x := x1) hlt hc se
  have wi := with_eq (Dn st n x2) w 8 (o := o) (by omega) (by omega) fd (few_thing _ fo) hf
  have fw := with_few w fd fo hf
  have S6 : x6_f_law_spoilt [some (.ref n), some d, some (.lst W), some (wayD w), some e, a5] (Dn st n x1) = .ret (.val (withWay d w o)) (Dn st n x2) := by
    unfold x6_f_law_spoilt; simp [e2, wi]
  refine ⟨withWay d w o, x2, fw, ?_⟩
  have run : b_f_law_spoilt ([D.ref n, d].map some ++ List.replicate (6 - [D.ref n, d].length) none) (Dn st n x) = .ret (.val (withWay d w o)) (Dn st n x2) := by
    unfold b_f_law_spoilt
    show (sSeq x1_f_law_spoilt _) [some (.ref n), some d, none, none, none, none] (Dn st n x) = _
    rw [run_step S1, run_step S2, run_step S3, run_step S4]
    exact S6
  unfold F_f_law_spoilt
  rw [run_ret run]
  exact fin_Dn hc fw
end Lw
namespace Lw
open PySem PySem.Spec PyProof.Rows L2 VI
section
variable {α : Type} [DecidableEq α] {le : α → α → Bool}
theorem rises_pair : ∀ {l : List α}, l.Pairwise (fun a b => le b a = false) → rises le l = true
  | [], _ => rfl
  | [_], _ => rfl
  | a :: b :: r, h => by
    obtain ⟨h1, h2⟩ := List.pairwise_cons.mp h
    simp only [rises, h1 b (by simp), Bool.not_false, Bool.true_and]
    exact rises_pair h2
theorem rises_sub (T : PySem.W.TotalLe le) {l l' : List α} (h : rises le l = true) (s : l'.Sublist l) : rises le l' = true :=
  rises_pair (((rises_strict T h).sublist s).imp fun h => h.2)
end
theorem insO_str (x : Str) : ∀ l : List Str, insO leD (.str x) (l.map D.str) = (insO leT x l).map D.str
  | [] => rfl
  | y :: l => by
    have e : leD (.str x) (.str y) = leT x y := rfl
    simp only [List.map_cons, insO, e]
    split
    · rfl
    · simp only [List.map_cons]; rw [insO_str x l]
theorem isort_str : ∀ l : List Str, isort leD (l.map D.str) = (isort leT l).map D.str
  | [] => rfl
  | x :: l => by simp only [List.map_cons, isort]; rw [isort_str l, insO_str]
theorem sorted_strs (ss : List Str) (st : Store) : fSorted [.lst (ss.map D.str)] st = .ok (.new (.lst ((isort leT ss).map D.str))) st := by
  have ok : okSort (ss.map D.str) = true := by
    simp only [okSort, Bool.and_eq_true, Bool.or_eq_true, List.all_eq_true, alikes, antis]
    refine ⟨⟨.inl fun d hd => ?_, fun d hd e he => ?_⟩, fun d hd e he => ?_⟩
    · obtain ⟨x, _, rfl⟩ := List.mem_map.mp hd; rfl
    · obtain ⟨x, _, rfl⟩ := List.mem_map.mp hd
      obtain ⟨y, _, rfl⟩ := List.mem_map.mp he
      simp [toPy, W.alike]
    · obtain ⟨x, _, rfl⟩ := List.mem_map.mp hd
      obtain ⟨y, _, rfl⟩ := List.mem_map.mp he
      have e1 : leD (.str x) (.str y) = leT x y := rfl
      have e2 : leD (.str y) (.str x) = leT y x := rfl
      rw [e1, e2]
      cases q1 : leT x y with
      | false => simp
      | true =>
        cases q2 : leT y x with
        | false => simp
        | true => simp [leT_anti q1 q2]
  simp only [fSorted, lstOf_lst, ok, if_true, isort_str]
theorem nub_len {α : Type} [DecidableEq α] : ∀ l : List α, (nub l).length ≤ l.length
  | [] => Nat.le_refl _
  | a :: l => by
    have := nub_len l
    unfold nub
    split <;> simp <;> omega
/-- sorted(set(notes)) -/
theorem notes_set {ns : List D} {d : D} {st : Store} (hc : colOf d st = some ns) (h : ∀ d ∈ ns, noteB d = true) (hl : ns.length ≤ 200) :
    fSortSetT [d] st = .ok (.new (.lst (sortSet ns))) st ∧ notesB (.tup (sortSet ns)) = true ∧ (sortSet ns).length ≤ ns.length ∧ ∀ x ∈ sortSet ns, x ∈ ns := by
  have hm : ∀ x ∈ sortSet ns, x ∈ ns := fun x hx => mem_sortSet.mp hx
  refine ⟨?_, ?_, ?_, hm⟩
  · cases ns with
    | nil => simp [fSortSetT, hc, strsOf, sortT, nub, isort, sortSet]
    | cons n r =>
      obtain ⟨i, j, x, e⟩ := note_form (h n List.mem_cons_self)
      have s1 : strsOf (n :: r) = none := by rw [e]; rfl
      have s2 : intsD (n :: r) = none := by rw [e]; rfl
      have ok : okKeys (n :: r) = true := by
        simp only [okKeys, Bool.and_eq_true, decide_eq_true_eq, List.all_eq_true]
        exact ⟨⟨by omega, fun d hd => (note_key (h d hd)).1⟩, notes_alike h⟩
      simp [fSortSetT, fSortSet, hc, s1, s2, ok]
  · simp only [notesB, Bool.and_eq_true, List.all_eq_true]
    refine ⟨fun d hd => h d (hm d hd), ?_⟩
    refine rises_of (isort_sorted leD_total _) ((isort_perm (le := leD) (nub ns)).nodup_iff.mpr (nodup_nub ns)) fun a ha b hb => notes_anti h a (hm a ha) b (hm b hb)
  · unfold sortSet
    rw [(isort_perm (le := leD) (nub ns)).length_eq]
    exact nub_len ns
/-! ### what _law_state makes -/
section
variable {st : Store} {a b c x : Option D}
theorem c30 : (st ++ [a, b, c])[st.length]? = some a := by simp
theorem c31 : (st ++ [a, b, c])[st.length + 1]? = some b := by rw [List.getElem?_append_right (by omega)]; simp
theorem c32 : (st ++ [a, b, c])[st.length + 2]? = some c := by rw [List.getElem?_append_right (by omega)]; simp
theorem w30 : (st ++ [a, b, c]).set st.length x = st ++ [x, b, c] := by rw [List.set_append_right _ _ (Nat.le_refl _)]; simp
theorem w31 : (st ++ [a, b, c]).set (st.length + 1) x = st ++ [a, x, c] := by rw [List.set_append_right _ _ (by omega)]; simp
theorem w32 : (st ++ [a, b, c]).set (st.length + 2) x = st ++ [a, b, x] := by rw [List.set_append_right _ _ (by omega)]; simp
end
abbrev S3 (st : Store) (ds gs ns : List D) : Store := st ++ [some (.lst ds), some (.lst gs), some (.lst ns)]
/-- the slots of _law_state -/
abbrev E12 (n : Int) (N : D) (m : Int) (k : Nat) (a6 a7 a8 a9 a10 a11 : Option D) : DEnv := [some (.int n), some N, some (.int m), some (.ref k), some (.ref (k + 1)), some (.ref (k + 2)), a6, a7, a8, a9, a10, a11]
abbrev prS (p : Str × D) : D := .tup [.str p.1, p.2]
def deedOk (m : Int) (p : Str × D) : Prop := deedB m p.2 = true ∧ slim p.2 = true ∧ lev 1 p.2 = true ∧ (isShift p.2 = true → p.1 ≠ "")
theorem take_snoc {α : Type} {l : List α} {i : Nat} {y : α} (h : l[i]? = some y) : l.take (i + 1) = l.take i ++ [y] := by
  rw [List.take_succ, h]; rfl
theorem nonneg_div {n j : Int} (h : 0 ≤ n) (hj : 0 ≤ j) : 0 ≤ n / j := Int.ediv_nonneg h hj
theorem lgk {k : Nat} (h : k < 9000) : k.log2 < 9000 := by
  have := Nat.log2_le_self k; omega
theorem state_1 {ws : List Str} {N : D} {m : Int} {st : Store} (hm : 1 ≤ m) (hm4 : m ≤ 4) (hl : ws.length ≤ 8) {n0 : Int} (h0 : 0 ≤ n0) :
    ∃ (n : Int) (ps : List (Str × D)) (a6 a7 : Option D), 0 ≤ n ∧ (ps.map (·.1)).Sublist ws ∧ (∀ p ∈ ps, deedOk m p) ∧
      forGo ⟨ws.map D.str, none⟩ (gdName 6) lp_f_law_state_1 (ws.map D.str) (E12 n0 N m st.length none none none none none none) (S3 st [] [] []) = .nx (E12 n N m st.length a6 a7 none none none none) (S3 st (ps.map prS) [] []) := by
  obtain ⟨env2, st2, el, n, ps, a6, a7, n0', sb, hp, rfl, rfl⟩ := forGo_inv (iv := ⟨ws.map D.str, none⟩) (g := gdName 6) (body := lp_f_law_state_1) rfl
    (fun i env s => ∃ (n : Int) (ps : List (Str × D)) (a6 a7 : Option D), 0 ≤ n ∧ (ps.map (·.1)).Sublist (ws.take i) ∧ (∀ p ∈ ps, deedOk m p) ∧ env = E12 n N m st.length a6 a7 none none none none ∧ s = S3 st (ps.map prS) [] [])
    (ws.map D.str) 0 (E12 n0 N m st.length none none none none none none) (S3 st [] [] []) ⟨n0, [], none, none, h0, by simp, by simp, rfl, rfl⟩ (fun i d env s hi hI => by
      obtain ⟨n, ps, a6, a7, hn, sb, hp, rfl, rfl⟩ := hI
      rw [List.getElem?_map] at hi
      obtain ⟨w, hw, rfl⟩ := Option.map_eq_some_iff.mp hi
      simp only [Nat.zero_add] at sb ⊢
      have lps : ps.length ≤ 8 := by
        have := sb.length_le
        simp at this; omega
      have sb0 : (ps.map (·.1)).Sublist (ws.take (i + 1)) := by
        rw [take_snoc hw]; exact sb.trans (List.sublist_append_left _ _)
      have sb1 : ∀ x : D, ((ps ++ [(w, x)]).map (·.1)).Sublist (ws.take (i + 1)) := fun x => by
        rw [take_snoc hw, List.map_append]; exact List.Sublist.append sb (List.Sublist.refl _)
      have hp1 : ∀ x : D, deedOk m (w, x) → ∀ p ∈ ps ++ [(w, x)], deedOk m p := fun x hx p hq => by
        rcases List.mem_append.mp hq with hq | hq
        · exact hp p hq
        · rw [List.mem_singleton.mp hq]; exact hx
      obtain ⟨y, hy⟩ : ∃ y, y = n % 4 := ⟨_, rfl⟩
      have y0 : 0 ≤ y ∧ y < 4 := by omega
      have T5 : ∀ P : List D, x5_f_law_state (E12 n N m st.length (some (.str w)) a7 none none none none) (S3 st P [] []) = .nx (E12 n N m st.length (some (.str w)) (some (.int y)) none none none none) (S3 st P [] []) := fun P => by
        unfold x5_f_law_state; simp [hy]
      have T12 : ∀ P : List D, x12_f_law_state (E12 n N m st.length (some (.str w)) (some (.int y)) none none none none) (S3 st P [] []) = .nx (E12 (n / 1200) N m st.length (some (.str w)) (some (.int y)) none none none none) (S3 st P [] []) := fun P => by
        unfold x12_f_law_state; simp [lgk (k := 1200) (by omega)]
      have l4 : (4 : Nat).log2 < 9000 := lgk (by omega)
      have q6 : 0 ≤ n / 4 % m ∧ n / 4 % m < m := ⟨Int.emod_nonneg _ (by omega), Int.emod_lt_of_pos _ (by omega)⟩
      have q8 : 0 ≤ n / 4 % 300 ∧ n / 4 % 300 < 300 := by omega
      obtain ⟨P, hP⟩ : ∃ P, P = ps.map prS := ⟨_, rfl⟩
      have lP : P.length < 100000 := by rw [hP, List.length_map]; omega
      rw [← hP]
      have c0 : y = 0 ∨ y = 1 ∨ y = 2 ∨ y = 3 := by omega
      have go : ∀ (P' : List D), (sSeq x6_f_law_state (sSeq x8_f_law_state (sSeq x10_f_law_state x12_f_law_state))) (E12 n N m st.length (some (.str w)) (some (.int y)) none none none none) (S3 st P [] []) = .nx (E12 (n / 1200) N m st.length (some (.str w)) (some (.int y)) none none none none) (S3 st P' [] []) →
          lp_f_law_state_1 (E12 n N m st.length (some (.str w)) a7 none none none none) (S3 st P [] []) = .nx (E12 (n / 1200) N m st.length (some (.str w)) (some (.int y)) none none none none) (S3 st P' [] []) := fun P' h => by
        unfold lp_f_law_state_1
        rw [run_step (T5 P)]; exact h
      have dn : 0 ≤ n / 1200 := by omega
      have pn : ∀ x : D, P ++ [.tup [.str w, x]] = (ps ++ [(w, x)]).map prS := fun x => by rw [hP, List.map_append]; rfl
      rcases c0 with rfl | rfl | rfl | rfl
      · refine ⟨_, _, _, by simp, .inl (go P ?_), n / 1200, ps, some (.str w), some (.int 0), dn, sb0, hp, rfl, by rw [hP]⟩
        unfold x6_f_law_state x8_f_law_state x10_f_law_state
        simp [lgk (k := 1200) (by omega), x12_f_law_state]
      · by_cases hw0 : w = ""
        · refine ⟨_, _, _, by simp, .inl (go P ?_), n / 1200, ps, some (.str w), some (.int 1), dn, sb0, hp, rfl, by rw [hP]⟩
          unfold x6_f_law_state x8_f_law_state x10_f_law_state
          simp [lgk (k := 1200) (by omega), x12_f_law_state, hw0]
        · refine ⟨_, _, _, by simp, .inl (go (P ++ [.tup [.str w, .tup [.str "shift", .int (n / 4 % m)]]]) ?_), n / 1200, ps ++ [(w, .tup [.str "shift", .int (n / 4 % m)])], some (.str w), some (.int 1), dn, sb1 _, hp1 _ ?_, rfl, by rw [pn]⟩
          · unfold x6_f_law_state x7_f_law_state x8_f_law_state x10_f_law_state
            simp [lgk (k := 1200) (by omega), x12_f_law_state, hw0, c30, w30, lP, l4, show 0 < m by omega]
          · refine ⟨?_, ?_, ?_, fun _ => hw0⟩
            · simp [deedB, numB]; omega
            · simp [slim, slims]; exact ⟨by decide +kernel, by omega, by omega⟩
            · simp [lev, isTup]
      · refine ⟨_, _, _, by simp, .inl (go (P ++ [.tup [.str w, .tup [.str "make", .int (n / 4 % 300)]]]) ?_), n / 1200, ps ++ [(w, .tup [.str "make", .int (n / 4 % 300)])], some (.str w), some (.int 2), dn, sb1 _, hp1 _ ?_, rfl, by rw [pn]⟩
        · unfold x6_f_law_state x8_f_law_state x9_f_law_state x10_f_law_state
          simp [lgk (k := 1200) (by omega), x12_f_law_state, c30, w30, lP, l4]
        · refine ⟨?_, ?_, ?_, fun h => ?_⟩
          · simp [deedB, numB]; omega
          · simp [slim, slims]; exact ⟨by decide +kernel, by omega, by omega⟩
          · simp [lev, isTup]
          · simp [isShift] at h
      · refine ⟨_, _, _, by simp, .inl (go (P ++ [.tup [.str w, .tup [.str "end"]]]) ?_), n / 1200, ps ++ [(w, .tup [.str "end"])], some (.str w), some (.int 3), dn, sb1 _, hp1 _ ?_, rfl, by rw [pn]⟩
        · unfold x6_f_law_state x8_f_law_state x10_f_law_state x11_f_law_state
          simp [lgk (k := 1200) (by omega), x12_f_law_state, c30, w30, lP]
        · refine ⟨?_, ?_, ?_, fun h => ?_⟩
          · simp [deedB]
          · simp [slim, slims]; decide +kernel
          · simp [lev, isTup]
          · simp [isShift] at h)
  refine ⟨n, ps, a6, a7, n0', ?_, hp, el⟩
  have e : ws.take (0 + (ws.map D.str).length) = ws := by simp
  rwa [e] at sb
end Lw
namespace Lw
open PySem PySem.Spec PyProof.Rows L2 VI
abbrev goS (p : Str × Int) : D := .tup [.str p.1, .int p.2]
theorem state_2 {ws : List Str} {N : D} {m : Int} {st : Store} {P : List D} {b6 b7 : Option D} (hm : 1 ≤ m) (hm4 : m ≤ 4) (hl : ws.length ≤ 8) {n0 : Int} (h0 : 0 ≤ n0) :
    ∃ (n : Int) (gs : List (Str × Int)) (a8 : Option D), 0 ≤ n ∧ (gs.map (·.1)).Sublist ws ∧ (∀ p ∈ gs, 0 ≤ p.2 ∧ p.2 ≤ m - 1) ∧
      forGo ⟨ws.map D.str, none⟩ (gdName 8) lp_f_law_state_2 (ws.map D.str) (E12 n0 N m st.length b6 b7 none none none none) (S3 st P [] []) = .nx (E12 n N m st.length b6 b7 a8 none none none) (S3 st P (gs.map goS) []) := by
  obtain ⟨env2, st2, el, n, gs, a8, n0', sb, hp, rfl, rfl⟩ := forGo_inv (iv := ⟨ws.map D.str, none⟩) (g := gdName 8) (body := lp_f_law_state_2) rfl
    (fun i env s => ∃ (n : Int) (gs : List (Str × Int)) (a8 : Option D), 0 ≤ n ∧ (gs.map (·.1)).Sublist (ws.take i) ∧ (∀ p ∈ gs, 0 ≤ p.2 ∧ p.2 ≤ m - 1) ∧ env = E12 n N m st.length b6 b7 a8 none none none ∧ s = S3 st P (gs.map goS) [])
    (ws.map D.str) 0 (E12 n0 N m st.length b6 b7 none none none none) (S3 st P [] []) ⟨n0, [], none, h0, by simp, by simp, rfl, rfl⟩ (fun i d env s hi hI => by
      obtain ⟨n, gs, a8, hn, sb, hp, rfl, rfl⟩ := hI
      rw [List.getElem?_map] at hi
      obtain ⟨w, hw, rfl⟩ := Option.map_eq_some_iff.mp hi
      simp only [Nat.zero_add] at sb ⊢
      have lps : gs.length ≤ 8 := by
        have := sb.length_le
        simp at this; omega
      have sb0 : (gs.map (·.1)).Sublist (ws.take (i + 1)) := by
        rw [take_snoc hw]; exact sb.trans (List.sublist_append_left _ _)
      have sb1 : ∀ x : Int, ((gs ++ [(w, x)]).map (·.1)).Sublist (ws.take (i + 1)) := fun x => by
        rw [take_snoc hw, List.map_append]; exact List.Sublist.append sb (List.Sublist.refl _)
      have l2 : (2 : Nat).log2 < 9000 := lgk (by omega)
      have lm : (2 * m).natAbs.log2 < 9000 := lg_small (by omega) (by omega)
      have sm : smallF 2 = true := by decide
      have q6 : 0 ≤ n / 2 % m ∧ n / 2 % m < m := ⟨Int.emod_nonneg _ (by omega), Int.emod_lt_of_pos _ (by omega)⟩
      obtain ⟨R, hR⟩ : ∃ R, R = gs.map goS := ⟨_, rfl⟩
      have lR : R.length < 100000 := by rw [hR, List.length_map]; omega
      rw [← hR]
      have dn : 0 ≤ n / (2 * m) := nonneg_div hn (by omega)
      have pn : ∀ x : Int, R ++ [.tup [.str w, .int x]] = (gs ++ [(w, x)]).map goS := fun x => by rw [hR, List.map_append]; rfl
      by_cases q : n % 2 = 0
      · refine ⟨_, _, _, by simp; rfl, .inl ?_, n / (2 * m), gs ++ [(w, n / 2 % m)], some (.str w), dn, sb1 _, fun p hq => ?_, rfl, by rw [← pn]⟩
        · unfold lp_f_law_state_2 x14_f_law_state x15_f_law_state x16_f_law_state
          simp [q, c31, w31, lR, l2, lm, sm, show 0 < m by omega, show 0 < 2 * m by omega]
        · rcases List.mem_append.mp hq with hq | hq
          · exact hp p hq
          · rw [List.mem_singleton.mp hq]; exact ⟨q6.1, by have := q6.2; show n / 2 % m ≤ m - 1; omega⟩
      · refine ⟨_, _, _, by simp; rfl, .inl ?_, n / (2 * m), gs, some (.str w), dn, sb0, hp, rfl, by rw [← hR]⟩
        unfold lp_f_law_state_2 x14_f_law_state x16_f_law_state
        simp [q, lm, sm, show 0 < m by omega, show 0 < 2 * m by omega])
  refine ⟨n, gs, a8, n0', ?_, hp, el⟩
  have e : ws.take (0 + (ws.map D.str).length) = ws := by simp
  rwa [e] at sb
def noteOk (d : D) : Prop := noteB d = true ∧ slim d = true ∧ lev 1 d = true
theorem note_ok {r k : Int} {x : Str} (hx : wordB (.str x) = true) (h : (r = -1 ∧ 0 ≤ k ∧ k ≤ 1 ∧ x = "") ∨ (0 ≤ r ∧ r ≤ 299 ∧ 0 ≤ k ∧ k ≤ 8)) : noteOk (.tup [.int r, .int k, .str x]) := by
  refine ⟨?_, ?_, by simp [lev, isTup]⟩
  · rcases h with ⟨rfl, h1, h2, rfl⟩ | ⟨h1, h2, h3, h4⟩
    · simp [noteB, numB, h1, h2]
    · simp [noteB, numB, h1, h2, h3, h4, hx]
  · simp only [slim, slims, Bool.and_eq_true, decide_eq_true_eq]
    refine ⟨by simp, ?_⟩
    simp only [hx, and_true]
    omega
theorem state_3 {ss : List Str} {m : Int} {st : Store} {P R : List D} {b6 b7 b8 : Option D} (hg : ss.length = 5) (hw : ∀ x ∈ ss, wordB (.str x) = true) {n0 : Int} (h0 : 0 ≤ n0) (c : Nat) (hc : c ≤ 4) :
    ∃ (n : Int) (ns : List D) (a9 a10 a11 : Option D), ns.length ≤ 4 ∧ (∀ d ∈ ns, noteOk d) ∧
      forGo ⟨rangeD 0 c, none⟩ (gdName 9) lp_f_law_state_3 (rangeD 0 c) (E12 n0 (.lst (ss.map D.str)) m st.length b6 b7 b8 none none none) (S3 st P R []) = .nx (E12 n (.lst (ss.map D.str)) m st.length b6 b7 b8 a9 a10 a11) (S3 st P R ns) := by
  have cut : VI.cutD (ss.map D.str) (some 2) none = (ss.drop 2).map D.str := by
    have := cutD_drop (ss.map D.str) 2
    rw [List.map_drop]; exact this
  have ld : (ss.drop 2).length = 3 := by simp [hg]
  obtain ⟨env2, st2, el, n, ns, a9, a10, a11, n0', ll, hp, rfl, rfl⟩ := forGo_inv (iv := ⟨rangeD 0 c, none⟩) (g := gdName 9) (body := lp_f_law_state_3) rfl
    (fun i env s => ∃ (n : Int) (ns : List D) (a9 a10 a11 : Option D), 0 ≤ n ∧ ns.length ≤ i ∧ (∀ d ∈ ns, noteOk d) ∧ env = E12 n (.lst (ss.map D.str)) m st.length b6 b7 b8 a9 a10 a11 ∧ s = S3 st P R ns)
    (rangeD 0 c) 0 (E12 n0 (.lst (ss.map D.str)) m st.length b6 b7 b8 none none none) (S3 st P R []) ⟨n0, [], none, none, none, h0, by simp, by simp, rfl, rfl⟩ (fun i d env s hi hI => by
      obtain ⟨n, ns, a9, a10, a11, hn, ll, hp, rfl, rfl⟩ := hI
      have hic : i < c := by
        have := (List.getElem?_eq_some_iff.mp hi).1
        rwa [rangeD_map, List.length_map, List.length_range] at this
      simp only [Nat.zero_add] at ll ⊢
      obtain ⟨y, hy⟩ : ∃ y, y = n / 5 := ⟨_, rfl⟩
      have y0 : 0 ≤ y := by omega
      obtain ⟨v, hv, hm⟩ := atI_in (xs := [D.str ""] ++ (ss.drop 2).map D.str) (i := y / 2709 % 4) (by omega) (by simp [hg]; omega)
      obtain ⟨x, rfl, hx⟩ : ∃ x : Str, v = .str x ∧ wordB (.str x) = true := by
        rcases List.mem_append.mp hm with hm | hm
        · exact ⟨"", List.mem_singleton.mp hm, by decide⟩
        · obtain ⟨x, hx, rfl⟩ := List.mem_map.mp hm
          exact ⟨x, rfl, hw x (List.mem_of_mem_drop hx)⟩
      have k1 : (5 : Nat).log2 < 9000 := lgk (by omega)
      have k2 : (301 : Nat).log2 < 9000 := lgk (by omega)
      have k3 : (2709 : Nat).log2 < 9000 := lgk (by omega)
      have k4 : (10836 : Nat).log2 < 9000 := by have := Nat.log2_lt (n := 10836) (k := 30) (by omega) |>.mpr (by omega); omega
      have ck : catOk [D.str ""] ((ss.drop 2).map D.str) = true := by simp [catOk, hg]
      have lN : ns.length < 100000 := by omega
      obtain ⟨r, hr⟩ : ∃ r, r = y % 301 - 1 := ⟨_, rfl⟩
      have r0 : -1 ≤ r ∧ r ≤ 299 := by omega
      have T18 : x18_f_law_state (E12 n (.lst (ss.map D.str)) m st.length b6 b7 b8 d a10 a11) (S3 st P R ns) = .nx (E12 y (.lst (ss.map D.str)) m st.length b6 b7 b8 d a10 a11) (S3 st P R ns) := by
        unfold x18_f_law_state; simp [k1, hy]
      have T19 : x19_f_law_state (E12 y (.lst (ss.map D.str)) m st.length b6 b7 b8 d a10 a11) (S3 st P R ns) = .nx (E12 y (.lst (ss.map D.str)) m st.length b6 b7 b8 d (some (.int r)) a11) (S3 st P R ns) := by
        unfold x19_f_law_state; simp [hr]
      have T20 : x20_f_law_state (E12 y (.lst (ss.map D.str)) m st.length b6 b7 b8 d (some (.int r)) a11) (S3 st P R ns) = .nx (E12 y (.lst (ss.map D.str)) m st.length b6 b7 b8 d (some (.int r)) (some (.tup [.int r, .int (y / 301 % 9), .str x]))) (S3 st P R ns) := by
        unfold x20_f_law_state
        generalize (ss.drop 2).map D.str = DD at *
        generalize ss.map D.str = NN at *
        simp [k2, k3, cut, ck]
        simp at hv
        simp [hv]
      have T24 : ∀ (a11 : Option D) (ns : List D), x24_f_law_state (E12 y (.lst (ss.map D.str)) m st.length b6 b7 b8 d (some (.int r)) a11) (S3 st P R ns) = .nx (E12 (y / 10836) (.lst (ss.map D.str)) m st.length b6 b7 b8 d (some (.int r)) a11) (S3 st P R ns) := fun a11 ns => by
        unfold x24_f_law_state; simp [k4]
      have T23 : ∀ (o : D), x23_f_law_state (E12 y (.lst (ss.map D.str)) m st.length b6 b7 b8 d (some (.int r)) (some o)) (S3 st P R ns) = .nx (E12 y (.lst (ss.map D.str)) m st.length b6 b7 b8 d (some (.int r)) (some o)) (S3 st P R (ns ++ [o])) := fun o => by
        unfold x23_f_law_state; simp [c32, w32, lN]
      have dn : 0 ≤ y / 10836 := by omega
      obtain ⟨o, ho, T21⟩ : ∃ o, noteOk o ∧ x21_f_law_state (E12 y (.lst (ss.map D.str)) m st.length b6 b7 b8 d (some (.int r)) (some (.tup [.int r, .int (y / 301 % 9), .str x]))) (S3 st P R ns) = .nx (E12 y (.lst (ss.map D.str)) m st.length b6 b7 b8 d (some (.int r)) (some o)) (S3 st P R ns) := by
        by_cases q : r = -1
        · refine ⟨.tup [.int (-1), .int (y / 301 % 2), .str ""], note_ok (by decide) (.inl ⟨rfl, by omega, by omega, rfl⟩), ?_⟩
          unfold x21_f_law_state x22_f_law_state; simp [q, k2]
        · refine ⟨.tup [.int r, .int (y / 301 % 9), .str x], note_ok hx (.inr ⟨by omega, by omega, by omega, by omega⟩), ?_⟩
          unfold x21_f_law_state; simp [q]
      refine ⟨E12 n (.lst (ss.map D.str)) m st.length b6 b7 b8 d a10 a11, _, _, by simp, .inl ?_, y / 10836, ns ++ [o], some d, some (.int r), some o, dn, by simp; omega, fun e he => ?_, rfl, rfl⟩
      · unfold lp_f_law_state_3
        rw [run_step T18, run_step T19, run_step T20, run_step T21, run_step (T23 o)]
        exact T24 _ _
      · rcases List.mem_append.mp he with he | he
        · exact hp e he
        · rw [List.mem_singleton.mp he]; exact ho)
  refine ⟨n, ns, a9, a10, a11, ?_, hp, el⟩
  have : (rangeD 0 c).length = c := by rw [rangeD_map]; simp
  omega
end Lw
namespace Lw
open PySem PySem.Spec PyProof.Rows L2 VI
theorem name_word {x : Str} (h : nameB (.str x) = true) : wordB (.str x) = true ∧ x ≠ "" := by
  have ne : x ≠ "" := fun e => by subst e; revert h; decide
  exact ⟨(word_name ne).trans h, ne⟩
theorem rises_none {l : List Str} (h : rises leT l = true) (hn : ∀ x ∈ l, x ≠ "") : rises leT ("" :: l) = true := by
  cases l with
  | nil => rfl
  | cons a r =>
    simp only [rises, Bool.and_eq_true, Bool.not_eq_true']
    refine ⟨?_, h⟩
    cases q : leT a "" with
    | false => rfl
    | true => exact absurd (leT_anti q (leD_none a)) (hn a (by simp))
theorem deeds_ok {ps : List (Str × D)} {ws : List Str} {m : Int} (hs : (ps.map (·.1)).Sublist ws) (hw : ∀ x ∈ ws, wordB (.str x) = true) (hr : rises leT ws = true) (hl : ws.length ≤ 8) (hp : ∀ p ∈ ps, deedOk m p) :
    deedsB m (.tup (ps.map prS)) = true ∧ slim (.tup (ps.map prS)) = true ∧ lev 3 (.tup (ps.map prS)) = true := by
  have wm : ∀ p ∈ ps, wordB (.str p.1) = true := fun p hq => hw _ (hs.subset (List.mem_map.mpr ⟨p, hq, rfl⟩))
  have lp : ps.length ≤ 8 := by have := hs.length_le; simp at this; omega
  refine ⟨?_, ?_, ?_⟩
  · simp only [deedsB, Bool.and_eq_true, List.all_eq_true, Bool.not_eq_true', List.any_eq_false]
    refine ⟨fun d hd => ?_, fun d hd => ?_, ?_⟩
    · obtain ⟨p, hq, rfl⟩ := List.mem_map.mp hd
      simp [dpB, wm p hq, (hp p hq).1]
    · obtain ⟨p, hq, rfl⟩ := List.mem_map.mp hd
      have := (hp p hq).2.2.2
      simp only [shiftNone, Bool.and_eq_true, decide_eq_true_eq, D.str.injEq, not_and]
      exact this
    · have e : (ps.map prS).map fst0 = (ps.map (·.1)).map D.str := by simp [fst0, Function.comp_def]
      rw [e, rises_map (le := leT) D.str (fun _ _ => rfl)]
      exact rises_sub leT_total hr hs
  · simp only [slim, Bool.and_eq_true, decide_eq_true_eq, List.length_map]
    refine ⟨lp, slims_mem.mpr fun d hd => ?_⟩
    obtain ⟨p, hq, rfl⟩ := List.mem_map.mp hd
    simp [slim, slims, wm p hq, (hp p hq).2.1]
  · simp only [lev, List.all_eq_true]
    intro d hd
    obtain ⟨p, hq, rfl⟩ := List.mem_map.mp hd
    simp [lev, (hp p hq).2.2.1]
theorem goes_ok {ps : List (Str × Int)} {ws : List Str} {m : Int} (hm4 : m ≤ 4) (hs : (ps.map (·.1)).Sublist ws) (hw : ∀ x ∈ ws, nameB (.str x) = true) (hr : rises leT ws = true) (hl : ws.length ≤ 8) (hp : ∀ p ∈ ps, 0 ≤ p.2 ∧ p.2 ≤ m - 1) :
    goesB m (.tup (ps.map goS)) = true ∧ slim (.tup (ps.map goS)) = true ∧ lev 3 (.tup (ps.map goS)) = true := by
  have wm : ∀ p ∈ ps, nameB (.str p.1) = true := fun p hq => hw _ (hs.subset (List.mem_map.mpr ⟨p, hq, rfl⟩))
  have lp : ps.length ≤ 8 := by have := hs.length_le; simp at this; omega
  refine ⟨?_, ?_, ?_⟩
  · simp only [goesB, Bool.and_eq_true, List.all_eq_true]
    refine ⟨fun d hd => ?_, ?_⟩
    · obtain ⟨p, hq, rfl⟩ := List.mem_map.mp hd
      simp [gpB, numB, wm p hq, hp p hq]
    · have e : (ps.map goS).map fst0 = (ps.map (·.1)).map D.str := by simp [fst0, Function.comp_def]
      rw [e, rises_map (le := leT) D.str (fun _ _ => rfl)]
      exact rises_sub leT_total hr hs
  · simp only [slim, Bool.and_eq_true, decide_eq_true_eq, List.length_map]
    refine ⟨lp, slims_mem.mpr fun d hd => ?_⟩
    obtain ⟨p, hq, rfl⟩ := List.mem_map.mp hd
    have := hp p hq
    simp only [slim, slims, (name_word (wm p hq)).1, Bool.and_eq_true, decide_eq_true_eq]
    simp
    omega
  · simp only [lev, List.all_eq_true]
    intro d hd
    obtain ⟨p, hq, rfl⟩ := List.mem_map.mp hd
    simp [lev, isTup]
theorem state_eq {ss : List Str} {n m : Int} (st : Store) (hg : goodNames ss = true) (h0 : 0 ≤ n) (hm : 1 ≤ m) (hm4 : m ≤ 4) :
    ∃ d, stateB m d = true ∧ slim d = true ∧ lev 4 d = true ∧ F_f_law_state [.int n, .lst (ss.map D.str), .int m] st = .ok (.val d) st := by
  simp only [goodNames, Bool.and_eq_true, decide_eq_true_eq, List.all_eq_true] at hg
  obtain ⟨⟨⟨g5, gn⟩, gd⟩, gt⟩ := hg
  have gw : ∀ x ∈ ss, wordB (.str x) = true := fun x hx => (name_word (gn x hx)).1
  have cut2 : VI.cutD (ss.map D.str) (some 2) none = (ss.map D.str).drop 2 := cutD_drop (ss.map D.str) 2
  have cut1 : VI.cutD (ss.map D.str) none (some 2) = (ss.map D.str).take 2 := cutD_take (ss.map D.str) 2
  have i2 : ∀ x ∈ isort leT (ss.drop 2), x ∈ ss := fun x hx => List.mem_of_mem_drop ((isort_perm _).mem_iff.mp hx)
  have i1 : ∀ x ∈ isort leT (ss.take 2), x ∈ ss := fun x hx => List.mem_of_mem_take ((isort_perm _).mem_iff.mp hx)
  have l2 : (isort leT (ss.drop 2)).length = 3 := by rw [(isort_perm _).length_eq]; simp [g5]
  have l1 : (isort leT (ss.take 2)).length = 2 := by rw [(isort_perm _).length_eq]; simp [g5]
  obtain ⟨N, hN⟩ : ∃ N, N = D.lst (ss.map D.str) := ⟨_, rfl⟩
  obtain ⟨W, hW⟩ : ∃ W, W = isort leT (ss.drop 2) := ⟨_, rfl⟩
  obtain ⟨V, hV⟩ : ∃ V, V = isort leT (ss.take 2) := ⟨_, rfl⟩
  rw [← hW] at gd i2 l2
  rw [← hV] at gt i1 l1
  obtain ⟨n1, ps, a6, a7, n1', sb1, hp1, F1⟩ := state_1 (ws := "" :: W) (N := N) (m := m) (st := st) hm hm4 (by simp [l2]) h0
  obtain ⟨n2, gs, a8, n2', sb2, hp2, F2⟩ := state_2 (ws := V) (N := N) (m := m) (st := st) (P := ps.map prS) (b6 := a6) (b7 := a7) hm hm4 (by simp [l1]) n1'
  obtain ⟨c, hc⟩ : ∃ c : Nat, (c : Int) = n2 % 5 := ⟨(n2 % 5).toNat, by omega⟩
  obtain ⟨n3, ns, a9, a10, a11, ln, hp3, F3⟩ := state_3 (ss := ss) (m := m) (st := st) (P := ps.map prS) (R := gs.map goS) (b6 := a6) (b7 := a7) (b8 := a8) g5 gw n2' c (by omega)
  rw [← hN] at F3
  obtain ⟨d1, d2, d3⟩ := deeds_ok sb1 (fun x hx => by
    rcases List.mem_cons.mp hx with rfl | hx
    · decide
    · exact gw x (i2 x hx)) (rises_none gd fun x hx => (name_word (gn x (i2 x hx))).2) (by simp [l2]) hp1
  obtain ⟨e1, e2, e3⟩ := goes_ok hm4 sb2 (fun x hx => gn x (i1 x hx)) gt (by simp [l1]) hp2
  obtain ⟨t1, t2, t3, t4⟩ := notes_set (ns := ns) (d := .ref (st.length + 2)) (st := S3 st (ps.map prS) (gs.map goS) ns) (by simp [colOf, c32]) (fun d hd => (hp3 d hd).1) (by omega)
  have f2 : slim (.tup (sortSet ns)) = true := by
    simp only [slim, Bool.and_eq_true, decide_eq_true_eq]
    exact ⟨by omega, slims_mem.mpr fun d hd => (hp3 d (t4 d hd)).2.1⟩
  have f3 : lev 3 (.tup (sortSet ns)) = true := by
    simp only [lev, List.all_eq_true]
    intro d hd
    obtain ⟨q1, q2, q3⟩ := hp3 d (t4 d hd)
    obtain ⟨i, j, x, rfl⟩ := note_form q1
    simp [lev]
  have s1 : slim (.tup [.tup (ps.map prS), .tup (gs.map goS), .tup (sortSet ns)]) = true := by
    rw [slim]
    simp only [slims, d2, e2, f2, Bool.and_self, List.length_cons, List.length_nil, Bool.and_true]
    exact decide_eq_true (by omega)
  refine ⟨.tup [.tup (ps.map prS), .tup (gs.map goS), .tup (sortSet ns)], by simp [stateB, d1, e1, t2], s1, ?_, ?_⟩
  · rw [lev]
    simp only [List.all_cons, d3, e3, f3, List.all_nil, Bool.and_self]
  obtain ⟨A, hA⟩ : ∃ A, A = ps.map prS := ⟨_, rfl⟩
  obtain ⟨B, hB⟩ : ∃ B, B = gs.map goS := ⟨_, rfl⟩
  obtain ⟨C, hC⟩ : ∃ C, C = sortSet ns := ⟨_, rfl⟩
  rw [← hA] at F1 F2 F3 t1 s1
  rw [← hB] at F2 F3 t1 s1
  rw [← hC] at t1 s1
  rw [← hA, ← hB, ← hC]
  have S1 : x1_f_law_state [some (.int n), some N, some (.int m), none, none, none, none, none, none, none, none, none] st = .nx [some (.int n), some N, some (.int m), some (.ref st.length), none, none, none, none, none, none, none, none] (st ++ [some (.lst [])]) := by
    unfold x1_f_law_state; simp
  have S2 : x2_f_law_state [some (.int n), some N, some (.int m), some (.ref st.length), none, none, none, none, none, none, none, none] (st ++ [some (.lst [])]) = .nx [some (.int n), some N, some (.int m), some (.ref st.length), some (.ref (st.length + 1)), none, none, none, none, none, none, none] (st ++ [some (.lst []), some (.lst [])]) := by
    unfold x2_f_law_state; simp
  have S3' : x3_f_law_state [some (.int n), some N, some (.int m), some (.ref st.length), some (.ref (st.length + 1)), none, none, none, none, none, none, none] (st ++ [some (.lst []), some (.lst [])]) = .nx (E12 n N m st.length none none none none none none) (S3 st [] [] []) := by
    unfold x3_f_law_state; simp
  have so2 := sorted_strs (ss.drop 2)
  have so1 := sorted_strs (ss.take 2)
  rw [← hW, List.map_drop] at so2
  rw [← hV, List.map_take] at so1
  have S4 : x4_f_law_state (E12 n N m st.length none none none none none none) (S3 st [] [] []) = .nx (E12 n1 N m st.length a6 a7 none none none none) (S3 st A [] []) := by
    have it : itSeq (ev2 fAdd (evLst (acons (evC (.str "")) (anil))) (evA fSorted (acons (evSl (evVar 1) (bSome (evC (.int 2))) (bNone)) (anil)))) (E12 n N m st.length none none none none none none) (S3 st [] [] []) = .ok ⟨(("" : Str) :: W).map D.str, none⟩ (S3 st [] [] []) := by
      have ck : catOk [D.str ""] (W.map D.str) = true := by simp [catOk, l2]
      simp only [hN]
      simp [cut2, so2, ck]
    unfold x4_f_law_state
    rw [sFor_s, it]
    simp only [sof_ok]
    exact F1
  have S13 : x13_f_law_state (E12 n1 N m st.length a6 a7 none none none none) (S3 st A [] []) = .nx (E12 n2 N m st.length a6 a7 a8 none none none) (S3 st A B []) := by
    have it : itSeq (evA fSorted (acons (evSl (evVar 1) (bNone) (bSome (evC (.int 2)))) (anil))) (E12 n1 N m st.length a6 a7 none none none none) (S3 st A [] []) = .ok ⟨V.map D.str, none⟩ (S3 st A [] []) := by
      simp only [hN]
      simp [cut1, so1]
    unfold x13_f_law_state
    rw [sFor_s, it]
    simp only [sof_ok]
    exact F2
  have S17 : x17_f_law_state (E12 n2 N m st.length a6 a7 a8 none none none) (S3 st A B []) = .nx (E12 n3 N m st.length a6 a7 a8 a9 a10 a11) (S3 st A B ns) := by
    have it := itR1_of (me := ev2 fMod (evVar 0) (evC (.int 5))) (env := E12 n2 N m st.length a6 a7 a8 none none none) (st := S3 st A B []) (st1 := S3 st A B []) (j := n2 % 5) (by simp) (okR_small (by omega) (by omega))
    rw [show (n2 % 5).toNat = c by omega] at it
    unfold x17_f_law_state
    rw [sFor_s, it]
    simp only [sof_ok]
    exact F3
  have S25 : x25_f_law_state (E12 n3 N m st.length a6 a7 a8 a9 a10 a11) (S3 st A B ns) = .ret (.val (.tup [.tup A, .tup B, .tup C])) (S3 st A B ns) := by
    unfold x25_f_law_state
    simp [fTuple_ref c30, fTuple_ref c31, t1]
  have run : b_f_law_state ([D.int n, N, .int m].map some ++ List.replicate (12 - [D.int n, N, .int m].length) none) st = .ret (.val (.tup [.tup A, .tup B, .tup C])) (S3 st A B ns) := by
    unfold b_f_law_state
    show (sSeq x1_f_law_state _) [some (.int n), some N, some (.int m), none, none, none, none, none, none, none, none, none] st = _
    rw [run_step S1, run_step S2, run_step S3', run_step S4, run_step S13, run_step S17]
    exact S25
  unfold F_f_law_state
  rw [← hN, run_ret run]
  exact fin_val (refsLt_mono (Nat.zero_le _) _ (thing_refs _ (few_thing _ (slim_few _ s1)))) (fun _ => nofun)
end Lw
namespace Lw
open PySem PySem.Spec PyProof.Rows L2 VI
theorem depths_le {ds : List D} {B : Nat} (h : ∀ d ∈ ds, (toPy d).depth ≤ B) : PyData.depthAll (toPys ds) ≤ B := depthAll_le h
theorem lev_depth : ∀ (k : Nat) {d : D}, slim d = true → lev k d = true → (toPy d).depth ≤ k
  | 0, d, hs, h => by
    cases d <;> first | (simp [slim] at hs; done) | (simp [lev, isTup] at h; done) | (simp [toPy, PyData.depth])
  | k + 1, d, hs, h => by
    cases d with
    | tup ds =>
      simp only [lev, List.all_eq_true] at h
      simp only [slim, Bool.and_eq_true] at hs
      have := depthAll_le (ds := ds) (B := k) fun d hd => lev_depth k (slims_mem.mp hs.2 d hd) (h d hd)
      simp only [toPy, PyData.depth]; omega
    | _ => first | (simp [slim] at hs; done) | (simp [toPy, PyData.depth])
theorem eqD_same (d : D) : eqD d d = true := PySem.SeqAt.eqv_refl_plain _ (toPy_plain d)
/-- a state that is drawn -/
def drawn (m : Int) (d : D) : Prop := stateB m d = true ∧ slim d = true ∧ lev 4 d = true
section
variable {m : Int} {ds : List D}
theorem drawn_slim (hl : ds.length ≤ 8) (h : ∀ d ∈ ds, drawn m d) : slim (.tup ds) = true := by
  simp only [slim, Bool.and_eq_true, decide_eq_true_eq]
  exact ⟨hl, slims_mem.mpr fun d hd => (h d hd).2.1⟩
theorem drawn_lev (h : ∀ d ∈ ds, drawn m d) : lev 5 (.tup ds) = true := by
  simp only [lev, List.all_eq_true]
  exact fun d hd => (h d hd).2.2
theorem drawn_thing (h : ∀ d ∈ ds, drawn m d) : ∀ d ∈ ds, thing d = true := fun d hd => few_thing _ (slim_few _ (h d hd).2.1)
theorem drawn_table (h : ∀ d ∈ ds, drawn (ds.length : Int) d) (h1 : 1 ≤ ds.length) (h4 : ds.length ≤ 4) : tableB ds = true := by
  simp only [tableB, Bool.and_eq_true, decide_eq_true_eq, List.all_eq_true]
  exact ⟨h1, by omega, fun d hd => (h d hd).1⟩
theorem drawn_refs (h : ∀ d ∈ ds, drawn m d) (k : Nat) : refsLts k ds = true := by
  rw [refsLts_all]; exact fun d hd => refsLt_mono (Nat.zero_le _) _ (thing_refs _ (drawn_thing h d hd))
/-- compared with themselves, a cell or not -/
theorem drawn_eq {a b : D} {d : D} {st : Store} {neg : Bool} (ha : unref a st = d) (hb : unref b st = d) (hp : isPy d = true) (hd : (toPy d).depth ≤ 60) : fEq neg a b st = .ok (.val (.bl (if neg then false else true))) st := by
  unfold fEq
  have c : (isPy (unref a st) && isPy (unref b st) && shallow (unref a st) (unref b st)) = true := by
    rw [ha, hb, hp]
    simp [shallow]; omega
  rw [if_pos c, ha, hb, eqD_same]
  cases neg <;> rfl
theorem drawn_py (hl : ds.length ≤ 8) (h : ∀ d ∈ ds, drawn m d) : isPy (.tup ds) = true ∧ isPy (.lst ds) = true ∧ (toPy (.tup ds)).depth ≤ 60 ∧ (toPy (.lst ds)).depth ≤ 60 := by
  have p := thing_py _ (few_thing _ (slim_few _ (drawn_slim hl h)))
  have d := lev_depth 5 (drawn_slim hl h) (drawn_lev h)
  refine ⟨p, by simpa only [isPy] using p, by omega, ?_⟩
  simp only [toPy, PyData.depth] at d ⊢
  omega
end
/-- the slots of the law -/
abbrev EL (S N B : D) (a3 a4 a5 a6 a7 a8 a9 a10 a11 a12 a13 a14 a15 : Option D) : DEnv := [some S, some N, some B, a3, a4, a5, a6, a7, a8, a9, a10, a11, a12, a13, a14, a15, none]
theorem closed_one {st : Store} {d : D} (h : closedB st.length st = true) (hd : refsLt st.length d = true) : closedB (st ++ [some d]).length (st ++ [some d]) = true := by
  rw [closed_app]
  refine ⟨closed_more h (by simp), ?_⟩
  simp only [closedB, List.all_cons, List.all_nil, Bool.and_true]
  exact refsLt_mono (by simp) d hd
/-- the states are drawn -/
theorem law_states {S B : D} {a3 a7 a8 a9 a10 a11 a12 a13 a14 a15 : Option D} {ss : List Str} {st : Store} {n : Int} {c : Nat} (hg : goodNames ss = true) (h0 : 0 ≤ n) (h1 : 1 ≤ c) (h4 : c ≤ 4) :
    ∃ ds a7', ds.length = c ∧ (∀ d ∈ ds, drawn (c : Int) d) ∧
      forGo ⟨rangeD 0 c, none⟩ (gdName 7) lp_law_1 (rangeD 0 c) (EL S (.lst (ss.map D.str)) B a3 (some (.int n)) (some (.int c)) (some (.ref st.length)) a7 a8 a9 a10 a11 a12 a13 a14 a15) (st ++ [some (.lst [])]) = .nx (EL S (.lst (ss.map D.str)) B a3 (some (.int n)) (some (.int c)) (some (.ref st.length)) a7' a8 a9 a10 a11 a12 a13 a14 a15) (st ++ [some (.lst ds)]) := by
  obtain ⟨env2, st2, el, ds, a7', ll, hd, rfl, rfl⟩ := forGo_inv (iv := ⟨rangeD 0 c, none⟩) (g := gdName 7) (body := lp_law_1) rfl
    (fun i env s => ∃ (ds : List D) (a7' : Option D), ds.length = i ∧ (∀ d ∈ ds, drawn (c : Int) d) ∧ env = EL S (.lst (ss.map D.str)) B a3 (some (.int n)) (some (.int c)) (some (.ref st.length)) a7' a8 a9 a10 a11 a12 a13 a14 a15 ∧ s = st ++ [some (.lst ds)])
    (rangeD 0 c) 0 (EL S (.lst (ss.map D.str)) B a3 (some (.int n)) (some (.int c)) (some (.ref st.length)) a7 a8 a9 a10 a11 a12 a13 a14 a15) (st ++ [some (.lst [])]) ⟨[], a7, rfl, by simp, rfl, rfl⟩ (fun i d env s hi hI => by
      obtain ⟨ds, a7', ll, hd, rfl, rfl⟩ := hI
      simp only [Nat.zero_add] at ll ⊢
      have hic : i < c := by
        have := (List.getElem?_eq_some_iff.mp hi).1
        rwa [rangeD_map, List.length_map, List.length_range] at this
      obtain ⟨j, rfl⟩ : ∃ j : Int, d = .int j := by
        rw [rangeD_map] at hi
        obtain ⟨k, _, e⟩ := List.mem_map.mp (List.mem_of_getElem? hi)
        exact ⟨_, e.symm⟩
      obtain ⟨r, r0, er⟩ := mixed_eq (n / 4) j (st ++ [some (.lst ds)])
      obtain ⟨d, d1, d2, d3, ed⟩ := state_eq (n := r) (m := (c : Int)) (st ++ [some (.lst ds)]) hg r0 (by omega) (by omega)
      have l4 : (4 : Nat).log2 < 9000 := lgk (by omega)
      refine ⟨_, _, _, by simp; rfl, .inl ?_, ds ++ [d], some (.int j), by simp [ll], fun x hx => ?_, rfl, rfl⟩
      · unfold lp_law_1 x8_law
        generalize ss.map D.str = NN at *
        simp [l4, er, ed, show ds.length < 100000 by omega]
      · rcases List.mem_append.mp hx with hx | hx
        · exact hd x hx
        · rw [List.mem_singleton.mp hx]; exact ⟨d1, d2, d3⟩)
  refine ⟨ds, a7', ?_, hd, el⟩
  rw [ll, rangeD_map]; simp
/-- three times changed -/
theorem law_turns {S N B : D} {a3 a5 a7 a8 a9 a10 a11 a12 a13 a14 a15 : Option D} {st : Store} {n : Int} {m : Int} {L : Nat} {ds : List D} (hc : closedB st.length st = true) (hL : st[L]? = some (some (.lst ds))) (hl : ds.length ≤ 8) (hd : ∀ d ∈ ds, drawn m d) :
    ∃ a14' a15' st', closedB st'.length st' = true ∧ x23_law (EL S N B a3 (some (.int n)) a5 (some (.ref L)) a7 a8 a9 a10 a11 a12 a13 a14 a15) st = .nx (EL S N B a3 (some (.int n)) a5 (some (.ref L)) a7 a8 a9 a10 a11 a12 a13 a14' a15') st' := by
  obtain ⟨env2, st2, el, a14', a15', hc2, hL2, rfl⟩ := forGo_inv (iv := ⟨rangeD 0 3, none⟩) (g := gdName 14) (body := lp_law_2) rfl
    (fun i env s => ∃ (a14' a15' : Option D), closedB s.length s = true ∧ s[L]? = some (some (.lst ds)) ∧ env = EL S N B a3 (some (.int n)) a5 (some (.ref L)) a7 a8 a9 a10 a11 a12 a13 a14' a15')
    (rangeD 0 3) 0 (EL S N B a3 (some (.int n)) a5 (some (.ref L)) a7 a8 a9 a10 a11 a12 a13 a14 a15) st ⟨a14, a15, hc, hL, rfl⟩ (fun i d env s hi hI => by
      obtain ⟨a14', a15', hc, hL, rfl⟩ := hI
      obtain ⟨j, rfl⟩ : ∃ j : Int, d = .int j := by
        rw [rangeD_map] at hi
        obtain ⟨k, _, e⟩ := List.mem_map.mp (List.mem_of_getElem? hi)
        exact ⟨_, e.symm⟩
      obtain ⟨r, r0, er⟩ := mixed_eq n (60 + j) s
      have hc1 : closedB (s ++ [some (D.lst [.int r])]).length (s ++ [some (D.lst [.int r])]) = true := closed_one hc (by simp [refsLt, refsLts])
      obtain ⟨o, y, fo, eo⟩ := spoilt_eq (n := s.length) (st := s ++ [some (.lst [.int r])]) (x := r) (k := 5) (d := .tup ds) (by simp) hc1 (by omega) (drawn_lev hd) (drawn_slim hl hd)
      have e1 : Dn (s ++ [some (D.lst [.int r])]) s.length r = s ++ [some (D.lst [.int r])] := by simp
      have e2 : Dn (s ++ [some (D.lst [.int r])]) s.length y = s ++ [some (D.lst [.int y])] := by simp
      rw [e1, e2] at eo
      have hc2 : closedB (s ++ [some (D.lst [.int y])]).length (s ++ [some (D.lst [.int y])]) = true := closed_one hc (by simp [refsLt, refsLts])
      have hlt : L < s.length := (List.getElem?_eq_some_iff.mp hL).1
      have g : ∀ d : D, (s ++ [some d])[L]? = some (some (.lst ds)) := fun d => by rw [List.getElem?_append_left hlt]; exact hL
      have ft := fTuple_ref (g (.lst [.int r]))
      have kp := kept_eq hc2 fo
      refine ⟨_, EL S N B a3 (some (.int n)) a5 (some (.ref L)) a7 a8 a9 a10 a11 a12 a13 (some (.int j)) (some o), s ++ [some (D.lst [.int y])], by simp; rfl, .inl ?_, some (.int j), some o, hc2, g _, rfl⟩
      unfold lp_law_2 x24_law x25_law
      simp [er, evReg, ft, eo, kp])
  refine ⟨a14', a15', st2, hc2, ?_⟩
  have it := itR1_of (me := evC (.int 3)) (env := EL S N B a3 (some (.int n)) a5 (some (.ref L)) a7 a8 a9 a10 a11 a12 a13 a14 a15) (st := st) (st1 := st) (j := 3) (by simp) (by decide)
  unfold x23_law
  rw [sFor_s, it]
  simp only [sof_ok]
  exact el
end Lw
namespace Lw
open PySem PySem.Spec PyProof.Rows L2 VI
theorem bad_table {w : Str} {ds : List D} {at_ : Nat} {x : D} (hw : nameB (.str w) = true) (hl : ds.length ≤ 4) (hx : x ∈ badAll w) : tableB (ds.take at_ ++ [x] ++ ds.drop at_) = false := by
  have len : (ds.take at_ ++ [x] ++ ds.drop at_).length = ds.length + 1 := by simp; omega
  have b := bad_ok (m := ((ds.length + 1 : Nat) : Int)) hw (by omega) (by omega) x hx
  have : (ds.take at_ ++ [x] ++ ds.drop at_).all (stateB ((ds.length + 1 : Nat) : Int)) = false := by
    rw [List.all_append, List.all_append, List.all_cons, b]; simp
  unfold tableB
  rw [len, this]; simp
theorem law_turn {ns : List Int} {ss : List Str} {w : Str} {st : Store} {k : Int} {a4 a5 a6 a7 a8 a9 a10 a11 a12 a13 a14 a15 : Option D} (hg : goodNames ss = true) (h2 : ss[2]? = some w) (hw : nameB (.str w) = true) (hn : ns.length ≤ 63) (hk : 0 ≤ k) (hc : closedB st.length st = true) :
    ∃ b4 b5 b6 b7 b8 b9 b10 b11 b12 b13 b14 b15 st', closedB st'.length st' = true ∧
      lp_law_3 (EL (.lst (ns.map D.int)) (.lst (ss.map D.str)) (.lst (badAll w)) (some (.int k)) a4 a5 a6 a7 a8 a9 a10 a11 a12 a13 a14 a15) st = .nx (EL (.lst (ns.map D.int)) (.lst (ss.map D.str)) (.lst (badAll w)) (some (.int k)) b4 b5 b6 b7 b8 b9 b10 b11 b12 b13 b14 b15) st' := by
  obtain ⟨n, n0, en⟩ := number_eq ns k hk hn st
  obtain ⟨c, hcn⟩ : ∃ c : Nat, (c : Int) = 1 + n % 4 := ⟨(1 + n % 4).toNat, by omega⟩
  have c1 : 1 ≤ c ∧ c ≤ 4 := by omega
  have l4 : (4 : Nat).log2 < 9000 := lgk (by omega)
  have l7 : (7 : Nat).log2 < 9000 := lgk (by omega)
  have l11 : (11 : Nat).log2 < 9000 := lgk (by omega)
  have l13 : (13 : Nat).log2 < 9000 := lgk (by omega)
  obtain ⟨S, hS⟩ : ∃ S, S = D.lst (ns.map D.int) := ⟨_, rfl⟩
  obtain ⟨B, hB⟩ : ∃ B, B = D.lst (badAll w) := ⟨_, rfl⟩
  obtain ⟨ds0, a7', ll0, hd0, F7⟩ := law_states (S := S) (B := B) (a3 := some (.int k)) (a7 := a7) (a8 := a8) (a9 := a9) (a10 := a10) (a11 := a11) (a12 := a12) (a13 := a13) (a14 := a14) (a15 := a15) (st := st) hg n0 c1.1 c1.2
  obtain ⟨d0, q1, q2, q3, ed0⟩ := state_eq (n := n / 4) (m := (c : Int)) (st ++ [some (.lst ds0)]) hg (by omega) (by omega) (by omega)
  obtain ⟨N, hN⟩ : ∃ N, N = D.lst (ss.map D.str) := ⟨_, rfl⟩
  rw [← hN] at F7 ed0
  rw [← hS] at en
  obtain ⟨ds, hds⟩ : ∃ ds, ds = ds0.set 0 d0 := ⟨_, rfl⟩
  have ll : ds.length = c := by rw [hds, List.length_set, ll0]
  have hd : ∀ d ∈ ds, drawn (c : Int) d := fun d hm => by
    rw [hds] at hm
    rcases List.mem_or_eq_of_mem_set hm with hm | rfl
    · exact hd0 d hm
    · exact ⟨q1, q2, q3⟩
  have rf := drawn_refs hd
  have py := drawn_py (by omega) hd
  have th := drawn_thing hd
  have tb : tableB ds = true := drawn_table (by rw [ll]; exact hd) (by omega) (by omega)
  -- the stores
  have C1 : closedB (st ++ [some (D.lst ds)]).length (st ++ [some (D.lst ds)]) = true := closed_one hc (by simp only [refsLt]; exact rf _)
  have C2 : closedB (st ++ [some (D.lst ds), some (.lst ds)]).length (st ++ [some (D.lst ds), some (.lst ds)]) = true := by
    have := closed_one (d := D.lst ds) C1 (by simp only [refsLt]; exact rf _)
    simpa using this
  have C3 : closedB (st ++ [some (D.lst ds), some (.lst (ds ++ [.non]))]).length (st ++ [some (D.lst ds), some (.lst (ds ++ [.non]))]) = true := by
    have := closed_one (d := D.lst (ds ++ [.non])) C1 (by
      simp only [refsLt]
      rw [refsLts_all]
      intro x hx
      rcases List.mem_append.mp hx with hx | hx
      · exact refsLts_all.mp (rf _) x hx
      · rw [List.mem_singleton.mp hx]; rfl)
    simpa using this
  obtain ⟨st3, hst3⟩ : ∃ st3, st3 = st ++ [some (D.lst ds), some (.lst (ds ++ [.non]))] := ⟨_, rfl⟩
  have g2 : (st ++ [some (D.lst ds), some (.lst ds)])[st.length]? = some (some (.lst ds)) := by simp
  have g2' : (st ++ [some (D.lst ds), some (.lst ds)])[st.length + 1]? = some (some (.lst ds)) := by rw [List.getElem?_append_right (by omega)]; simp
  have g3 : st3[st.length]? = some (some (.lst ds)) := by rw [hst3]; simp
  have w2 : (st ++ [some (D.lst ds), some (.lst ds)]).set (st.length + 1) (some (.lst (ds ++ [.non]))) = st3 := by rw [hst3, List.set_append_right _ _ (by omega)]; simp
  rw [← hst3] at C3
  have mk1 := make_eq C2 (.inr (.inr ⟨st.length + 1, rfl, g2'⟩)) th (by omega)
  have mk2 := make_eq (d := .tup ds) C3 (.inr (.inl rfl)) th (by omega)
  rw [if_pos tb] at mk1 mk2
  -- the numbers
  obtain ⟨a, ha⟩ : ∃ a : Nat, (a : Int) = n / 7 % ((c : Int) + 1) := ⟨(n / 7 % ((c : Int) + 1)).toNat, Int.toNat_of_nonneg (Int.emod_nonneg _ (by omega))⟩
  have lb : (badAll w).length = 49 := rfl
  obtain ⟨x, hx, hxm⟩ := atI_in (xs := badAll w) (i := n / 11 % 49) (by omega) (by rw [lb]; omega)
  obtain ⟨o, ho, hom⟩ := atI_in (xs := [D.non, .int 5, .lst [], .tup [], .str "a", .dic []]) (i := n / 13 % 6) (by omega) (by show n / 13 % 6 < 6; omega)
  have hoh : handB o = true ∧ okTab o = false := by
    simp only [List.mem_cons, List.not_mem_nil, or_false] at hom
    rcases hom with rfl | rfl | rfl | rfl | rfl | rfl <;> decide
  have xt := bad_thing hw x hxm
  have sh : handB (.lst (ds.take a ++ [x] ++ ds.drop a)) = true := by
    simp only [handB, Bool.and_eq_true, decide_eq_true_eq]
    refine ⟨by simp; omega, things_mem.mpr fun y hy => ?_⟩
    rcases List.mem_append.mp hy with hy | hy
    · rcases List.mem_append.mp hy with hy | hy
      · exact th y (List.mem_of_mem_take hy)
      · rw [List.mem_singleton.mp hy]; exact xt
    · exact th y (List.mem_of_mem_drop hy)
  have rs := refused_eq C3 sh (by show tableB _ = false; exact bad_table hw (by omega) hxm)
  have ro := refused_eq C3 hoh.1 hoh.2
  have t1 := cutD_take ds a
  have t2 := cutD_drop ds a
  have k1 : catOk (ds.take a) [x] = true := by simp [catOk]; omega
  have k2 : catOk (ds.take a ++ [x]) (ds.drop a) = true := by simp [catOk]; omega
  have ft := fTuple_ref g3
  obtain ⟨b14, b15, st', hc', F23⟩ := law_turns (S := S) (N := N) (B := B) (a3 := some (.int k)) (n := n) (a5 := some (.int c)) (a7 := a7') (a8 := some (.ref (st.length + 1))) (a9 := some (tableD ds)) (a10 := some (.int a)) (a11 := some x) (a12 := some (.lst (ds.take a ++ [x] ++ ds.drop a))) (a13 := some o) (a14 := a14) (a15 := a15) C3 g3 (by omega) hd
  refine ⟨some (.int n), some (.int c), some (.ref st.length), a7', some (.ref (st.length + 1)), some (tableD ds), some (.int a), some x, some (.lst (ds.take a ++ [x] ++ ds.drop a)), some o, b14, b15, st', hc', ?_⟩
  have S4 : x4_law (EL S N B (some (.int k)) a4 a5 a6 a7 a8 a9 a10 a11 a12 a13 a14 a15) st = .nx (EL S N B (some (.int k)) (some (.int n)) a5 a6 a7 a8 a9 a10 a11 a12 a13 a14 a15) st := by
    unfold x4_law; simp [en]
  have S5 : x5_law (EL S N B (some (.int k)) (some (.int n)) a5 a6 a7 a8 a9 a10 a11 a12 a13 a14 a15) st = .nx (EL S N B (some (.int k)) (some (.int n)) (some (.int c)) a6 a7 a8 a9 a10 a11 a12 a13 a14 a15) st := by
    unfold x5_law; simp [hcn]
  have S6 : x6_law (EL S N B (some (.int k)) (some (.int n)) (some (.int c)) a6 a7 a8 a9 a10 a11 a12 a13 a14 a15) st = .nx (EL S N B (some (.int k)) (some (.int n)) (some (.int c)) (some (.ref st.length)) a7 a8 a9 a10 a11 a12 a13 a14 a15) (st ++ [some (.lst [])]) := by
    unfold x6_law; simp
  have S7 : x7_law (EL S N B (some (.int k)) (some (.int n)) (some (.int c)) (some (.ref st.length)) a7 a8 a9 a10 a11 a12 a13 a14 a15) (st ++ [some (.lst [])]) = .nx (EL S N B (some (.int k)) (some (.int n)) (some (.int c)) (some (.ref st.length)) a7' a8 a9 a10 a11 a12 a13 a14 a15) (st ++ [some (.lst ds0)]) := by
    have it := itR1_of (me := evVar 5) (env := EL S N B (some (.int k)) (some (.int n)) (some (.int c)) (some (.ref st.length)) a7 a8 a9 a10 a11 a12 a13 a14 a15) (st := st ++ [some (.lst [])]) (st1 := st ++ [some (.lst [])]) (j := (c : Int)) (by simp) (okR_small (by omega) (by omega))
    rw [Int.toNat_natCast] at it
    unfold x7_law
    rw [sFor_s, it]
    simp only [sof_ok]
    exact F7
  have S9 : x9_law (EL S N B (some (.int k)) (some (.int n)) (some (.int c)) (some (.ref st.length)) a7' a8 a9 a10 a11 a12 a13 a14 a15) (st ++ [some (.lst ds0)]) = .nx (EL S N B (some (.int k)) (some (.int n)) (some (.int c)) (some (.ref st.length)) a7' a8 a9 a10 a11 a12 a13 a14 a15) (st ++ [some (.lst ds)]) := by
    have ix : ixN ds0.length 0 = some 0 := ixN_in (by omega) (by omega)
    unfold x9_law
    simp [l4, ed0, ix, hds]
  have S10 : x10_law (EL S N B (some (.int k)) (some (.int n)) (some (.int c)) (some (.ref st.length)) a7' a8 a9 a10 a11 a12 a13 a14 a15) (st ++ [some (.lst ds)]) = .nx (EL S N B (some (.int k)) (some (.int n)) (some (.int c)) (some (.ref st.length)) a7' (some (.ref (st.length + 1))) a9 a10 a11 a12 a13 a14 a15) (st ++ [some (.lst ds), some (.lst ds)]) := by
    unfold x10_law; simp [fList]
  have S11 : x11_law (EL S N B (some (.int k)) (some (.int n)) (some (.int c)) (some (.ref st.length)) a7' (some (.ref (st.length + 1))) a9 a10 a11 a12 a13 a14 a15) (st ++ [some (.lst ds), some (.lst ds)]) = .nx (EL S N B (some (.int k)) (some (.int n)) (some (.int c)) (some (.ref st.length)) a7' (some (.ref (st.length + 1))) (some (tableD ds)) a10 a11 a12 a13 a14 a15) (st ++ [some (.lst ds), some (.lst ds)]) := by
    unfold x11_law; simp [evMake, mk1]
  have S12 : x12_law (EL S N B (some (.int k)) (some (.int n)) (some (.int c)) (some (.ref st.length)) a7' (some (.ref (st.length + 1))) (some (tableD ds)) a10 a11 a12 a13 a14 a15) (st ++ [some (.lst ds), some (.lst ds)]) = .nx (EL S N B (some (.int k)) (some (.int n)) (some (.int c)) (some (.ref st.length)) a7' (some (.ref (st.length + 1))) (some (tableD ds)) a10 a11 a12 a13 a14 a15) st3 := by
    unfold x12_law; simp [g2', w2, show ds.length < 100000 by omega]
  have S13 : x13_law (EL S N B (some (.int k)) (some (.int n)) (some (.int c)) (some (.ref st.length)) a7' (some (.ref (st.length + 1))) (some (tableD ds)) a10 a11 a12 a13 a14 a15) st3 = .nx (EL S N B (some (.int k)) (some (.int n)) (some (.int c)) (some (.ref st.length)) a7' (some (.ref (st.length + 1))) (some (tableD ds)) a10 a11 a12 a13 a14 a15) st3 := by
    have e := drawn_eq (a := .lst ds) (b := .ref st.length) (d := .lst ds) (st := st3) (neg := true) rfl (by simp [unref, g3]) py.2.1 py.2.2.2
    unfold x13_law; simp [evFld, objOf, List.lookup, isiTab, e]
  have S15 : x15_law (EL S N B (some (.int k)) (some (.int n)) (some (.int c)) (some (.ref st.length)) a7' (some (.ref (st.length + 1))) (some (tableD ds)) a10 a11 a12 a13 a14 a15) st3 = .nx (EL S N B (some (.int k)) (some (.int n)) (some (.int c)) (some (.ref st.length)) a7' (some (.ref (st.length + 1))) (some (tableD ds)) a10 a11 a12 a13 a14 a15) st3 := by
    have e := drawn_eq (a := .tup ds) (b := .tup ds) (d := .tup ds) (st := st3) (neg := true) rfl rfl py.1 py.2.2.1
    unfold x15_law; simp [evFld, evMake, mk2, objOf, List.lookup, ft, e]
  have S17 : x17_law (EL S N B (some (.int k)) (some (.int n)) (some (.int c)) (some (.ref st.length)) a7' (some (.ref (st.length + 1))) (some (tableD ds)) a10 a11 a12 a13 a14 a15) st3 = .nx (EL S N B (some (.int k)) (some (.int n)) (some (.int c)) (some (.ref st.length)) a7' (some (.ref (st.length + 1))) (some (tableD ds)) (some (.int a)) a11 a12 a13 a14 a15) st3 := by
    unfold x17_law; simp [l7, ha, show (0 : Int) < (c : Int) + 1 by omega]
  have S18 : x18_law (EL S N B (some (.int k)) (some (.int n)) (some (.int c)) (some (.ref st.length)) a7' (some (.ref (st.length + 1))) (some (tableD ds)) (some (.int a)) a11 a12 a13 a14 a15) st3 = .nx (EL S N B (some (.int k)) (some (.int n)) (some (.int c)) (some (.ref st.length)) a7' (some (.ref (st.length + 1))) (some (tableD ds)) (some (.int a)) (some x) a12 a13 a14 a15) st3 := by
    unfold x18_law
    rw [hB]
    generalize badAll w = BB at lb hx ⊢
    simp [l11, lb, hx]
  have S19 : x19_law (EL S N B (some (.int k)) (some (.int n)) (some (.int c)) (some (.ref st.length)) a7' (some (.ref (st.length + 1))) (some (tableD ds)) (some (.int a)) (some x) a12 a13 a14 a15) st3 = .nx (EL S N B (some (.int k)) (some (.int n)) (some (.int c)) (some (.ref st.length)) a7' (some (.ref (st.length + 1))) (some (tableD ds)) (some (.int a)) (some x) (some (.lst (ds.take a ++ [x] ++ ds.drop a))) a13 a14 a15) st3 := by
    unfold x19_law; simp [fSl, g3, t1, t2, fAdd, k1, k2]
  have S20 : x20_law (EL S N B (some (.int k)) (some (.int n)) (some (.int c)) (some (.ref st.length)) a7' (some (.ref (st.length + 1))) (some (tableD ds)) (some (.int a)) (some x) (some (.lst (ds.take a ++ [x] ++ ds.drop a))) a13 a14 a15) st3 = .nx (EL S N B (some (.int k)) (some (.int n)) (some (.int c)) (some (.ref st.length)) a7' (some (.ref (st.length + 1))) (some (tableD ds)) (some (.int a)) (some x) (some (.lst (ds.take a ++ [x] ++ ds.drop a))) (some o) a14 a15) st3 := by
    unfold x20_law; simp [l13, ho]
  have S21 : x21_law (EL S N B (some (.int k)) (some (.int n)) (some (.int c)) (some (.ref st.length)) a7' (some (.ref (st.length + 1))) (some (tableD ds)) (some (.int a)) (some x) (some (.lst (ds.take a ++ [x] ++ ds.drop a))) (some o) a14 a15) st3 = .nx (EL S N B (some (.int k)) (some (.int n)) (some (.int c)) (some (.ref st.length)) a7' (some (.ref (st.length + 1))) (some (tableD ds)) (some (.int a)) (some x) (some (.lst (ds.take a ++ [x] ++ ds.drop a))) (some o) a14 a15) st3 := by
    generalize ds.take a ++ [x] ++ ds.drop a = SP at *
    unfold x21_law; simp [rs, ro]
  rw [← hS, ← hN, ← hB]
  unfold lp_law_3
  rw [run_step S4, run_step S5, run_step S6, run_step S7, run_step S9, run_step S10, run_step S11, run_step S12, run_step S13, run_step S15, run_step S17, run_step S18, run_step S19, run_step S20, run_step S21]
  exact F23
theorem rangeD_get {lo : Int} {c i : Nat} {d : D} (h : (rangeD lo c)[i]? = some d) : d = .int (lo + (i : Int)) ∧ i < c := by
  unfold rangeD at h
  rw [List.getElem?_map] at h
  obtain ⟨j, hj, rfl⟩ := Option.map_eq_some_iff.mp h
  obtain ⟨h1, h2⟩ := List.getElem?_eq_some_iff.mp hj
  rw [List.getElem_range] at h2
  subst h2
  exact ⟨rfl, by simpa using h1⟩
theorem itR2_of {me mf : EM} {env : DEnv} {st : Store} {i j : Int} (h : me env st = .ok (.val (.int i)) st) (h2 : mf env st = .ok (.val (.int j)) st) (o1 : okR i = true) (o2 : okR j = true) : itR2 (acons me (acons mf anil)) env st = .ok ⟨rangeD i (j - i).toNat, none⟩ st := by simp [h, h2, o1, o2]
/-- the law's loop -/
theorem law_loop {S N B : D} (c : Nat) (turn : ∀ (k : Int) (st : Store) (a4 a5 a6 a7 a8 a9 a10 a11 a12 a13 a14 a15 : Option D), 0 ≤ k → closedB st.length st = true → ∃ b4 b5 b6 b7 b8 b9 b10 b11 b12 b13 b14 b15 st', closedB st'.length st' = true ∧
      lp_law_3 (EL S N B (some (.int k)) a4 a5 a6 a7 a8 a9 a10 a11 a12 a13 a14 a15) st = .nx (EL S N B (some (.int k)) b4 b5 b6 b7 b8 b9 b10 b11 b12 b13 b14 b15) st') :
    ∃ a3 a4 a5 a6 a7 a8 a9 a10 a11 a12 a13 a14 a15 st2, closedB st2.length st2 = true ∧ forGo ⟨rangeD 1 c, none⟩ (gdName 3) lp_law_3 (rangeD 1 c) (EL S N B none none none none none none none none none none none none none) [] = .nx (EL S N B a3 a4 a5 a6 a7 a8 a9 a10 a11 a12 a13 a14 a15) st2 := by
  obtain ⟨env2, st2, el, hc, a3, a4, a5, a6, a7, a8, a9, a10, a11, a12, a13, a14, a15, rfl⟩ := forGo_inv (iv := ⟨rangeD 1 c, none⟩) (g := gdName 3) (body := lp_law_3) rfl
    (fun i env s => closedB s.length s = true ∧ ∃ (a3 a4 a5 a6 a7 a8 a9 a10 a11 a12 a13 a14 a15 : Option D), env = EL S N B a3 a4 a5 a6 a7 a8 a9 a10 a11 a12 a13 a14 a15)
    (rangeD 1 c) 0 (EL S N B none none none none none none none none none none none none none) [] ⟨rfl, none, none, none, none, none, none, none, none, none, none, none, none, none, rfl⟩ (fun i d env s hi hI => by
      obtain ⟨hc, a3, a4, a5, a6, a7, a8, a9, a10, a11, a12, a13, a14, a15, rfl⟩ := hI
      obtain ⟨rfl, _⟩ := rangeD_get hi
      obtain ⟨b4, b5, b6, b7, b8, b9, b10, b11, b12, b13, b14, b15, st', hc', e⟩ := turn (1 + (i : Int)) s a4 a5 a6 a7 a8 a9 a10 a11 a12 a13 a14 a15 (by omega) hc
      exact ⟨_, _, st', rfl, .inl e, hc', _, _, _, _, _, _, _, _, _, _, _, _, _, rfl⟩)
  exact ⟨a3, a4, a5, a6, a7, a8, a9, a10, a11, a12, a13, a14, a15, st2, hc, el⟩
theorem law_true : ∀ ns : List Int, ns.length ≤ 63 → F_law [.lst (ns.map D.int)] [] = .ok (.val (.bl true)) [] := by
  intro ns hn
  obtain ⟨n, n0, en⟩ := number_eq ns 0 (by omega) hn []
  obtain ⟨ss, hg, ens⟩ := names_eq n n0 []
  have hg' := hg
  simp only [goodNames, Bool.and_eq_true, decide_eq_true_eq, List.all_eq_true] at hg'
  obtain ⟨w, h2⟩ : ∃ w, ss[2]? = some w := ⟨ss[2]'(by omega), List.getElem?_eq_getElem _⟩
  have hw : nameB (.str w) = true := hg'.1.1.2 w (List.mem_of_getElem? h2)
  have eb := bad_parts_eq (st := []) h2 hw
  have turn := fun (k : Int) (st : Store) (a4 a5 a6 a7 a8 a9 a10 a11 a12 a13 a14 a15 : Option D) (hk : 0 ≤ k) (hc : closedB st.length st = true) =>
    law_turn (ns := ns) (k := k) (st := st) (a4 := a4) (a5 := a5) (a6 := a6) (a7 := a7) (a8 := a8) (a9 := a9) (a10 := a10) (a11 := a11) (a12 := a12) (a13 := a13) (a14 := a14) (a15 := a15) hg h2 hw hn hk hc
  have fl : fLen [.lst (ns.map D.int)] [] = .ok (.val (.int (ns.length : Int))) [] := by
    show Res.ok (Wv.val (.int ((ns.map D.int).length : Nat))) [] = _
    rw [List.length_map]
  have o2 : okR (ns.length : Int) = true := okR_small (by omega) (by omega)
  generalize ss.map D.str = NN at *
  generalize badAll w = BB at *
  generalize (ns.length : Int) = q at *
  generalize D.lst (ns.map D.int) = S at *
  obtain ⟨a3, a4, a5, a6, a7, a8, a9, a10, a11, a12, a13, a14, a15, st2, hc, el⟩ := law_loop (q - 1).toNat turn
  have S1 : x1_law [some S, none, none, none, none, none, none, none, none, none, none, none, none, none, none, none, none] [] = .nx [some S, some (.lst NN), none, none, none, none, none, none, none, none, none, none, none, none, none, none, none] [] := by
    unfold x1_law
    simp [en, ens]
  have S2 : x2_law [some S, some (.lst NN), none, none, none, none, none, none, none, none, none, none, none, none, none, none, none] [] = .nx (EL S (.lst NN) (.lst BB) none none none none none none none none none none none none none) [] := by
    unfold x2_law
    simp [eb]
  have S3 : x3_law (EL S (.lst NN) (.lst BB) none none none none none none none none none none none none none) [] = .nx (EL S (.lst NN) (.lst BB) a3 a4 a5 a6 a7 a8 a9 a10 a11 a12 a13 a14 a15) st2 := by
    have it := itR2_of (me := evC (.int 1)) (mf := evA fLen (acons (evVar 0) anil)) (env := EL S (.lst NN) (.lst BB) none none none none none none none none none none none none none) (st := []) rfl (by simp [fl]) (by decide) o2
    unfold x3_law
    rw [sFor_s, it]
    simp only [sof_ok]
    exact el
  have S27 : x27_law (EL S (.lst NN) (.lst BB) a3 a4 a5 a6 a7 a8 a9 a10 a11 a12 a13 a14 a15) st2 = .nx [some S, some (.lst NN), some (.lst BB), a3, a4, a5, a6, a7, a8, a9, a10, a11, a12, a13, a14, a15, some bare] st2 := by
    unfold x27_law; simp
  have run : b_law ([S].map some ++ List.replicate (17 - [S].length) none) [] = .ret (.val (.bl true)) st2 := by
    unfold b_law
    show (sSeq x1_law _) [some S, none, none, none, none, none, none, none, none, none, none, none, none, none, none, none, none] [] = _
    rw [run_step S1, run_step S2, run_step S3, run_step S27]
    exact law_last hc rfl
  unfold F_law
  rw [run_ret run]
  exact fin_bl (st := []) (more := st2)
end Lw
namespace Lw
open PySem PySem.Spec PyProof.Rows L2 VI
theorem all_mk {l : PySem.W.OpenLaw} {w : World} {K : PySem.W.Frag} {h : Heap} {mg : Str → Option Value} {fa A_ReadError A_NoGrammar A_NoText A_NoRow A_NoPart A_NoTree A_NoChart A_NoTable A_NoMachine A_NoDeed A_TooMany A_Table : Addr} (X : K.In h) (G : h.Ns mainGlobals mg) (hfa : mg "law" = some (.ref fa))
    {f0 : Addr} {od0 an0 : Option Addr} {sl0 : Array (Option Value)} {oc0 kV0 dc0 pm0 cd0 ct0 : Value}
    {f1 : Addr} {od1 an1 : Option Addr} {sl1 : Array (Option Value)} {oc1 kV1 dc1 pm1 cd1 ct1 : Value}
    {f2 : Addr} {od2 an2 : Option Addr} {sl2 : Array (Option Value)} {oc2 kV2 dc2 pm2 cd2 ct2 : Value}
    {f3 : Addr} {od3 an3 : Option Addr} {sl3 : Array (Option Value)} {oc3 kV3 dc3 pm3 cd3 ct3 : Value}
    {f4 : Addr} {od4 an4 : Option Addr} {sl4 : Array (Option Value)} {oc4 kV4 dc4 pm4 cd4 ct4 : Value}
    {f5 : Addr} {od5 an5 : Option Addr} {sl5 : Array (Option Value)} {oc5 kV5 dc5 pm5 cd5 ct5 : Value}
    {f6 : Addr} {od6 an6 : Option Addr} {sl6 : Array (Option Value)} {oc6 kV6 dc6 pm6 cd6 ct6 : Value}
    {f7 : Addr} {od7 an7 : Option Addr} {sl7 : Array (Option Value)} {oc7 kV7 dc7 pm7 cd7 ct7 : Value}
    {f8 : Addr} {od8 an8 : Option Addr} {sl8 : Array (Option Value)} {oc8 kV8 dc8 pm8 cd8 ct8 : Value}
    {f9 : Addr} {od9 an9 : Option Addr} {sl9 : Array (Option Value)} {oc9 kV9 dc9 pm9 cd9 ct9 : Value}
    {f10 : Addr} {od10 an10 : Option Addr} {sl10 : Array (Option Value)} {oc10 kV10 dc10 pm10 cd10 ct10 : Value}
    {f11 : Addr} {od11 an11 : Option Addr} {sl11 : Array (Option Value)} {oc11 kV11 dc11 pm11 cd11 ct11 : Value}
    {f12 : Addr} {od12 an12 : Option Addr} {sl12 : Array (Option Value)} {oc12 kV12 dc12 pm12 cd12 ct12 : Value}
    {f13 : Addr} {od13 an13 : Option Addr} {sl13 : Array (Option Value)} {oc13 kV13 dc13 pm13 cd13 ct13 : Value}
    {f14 : Addr} {od14 an14 : Option Addr} {sl14 : Array (Option Value)} {oc14 kV14 dc14 pm14 cd14 ct14 : Value}
    {f15 : Addr} {od15 an15 : Option Addr} {sl15 : Array (Option Value)} {oc15 kV15 dc15 pm15 cd15 ct15 : Value}
    {f16 : Addr} {od16 an16 : Option Addr} {sl16 : Array (Option Value)} {oc16 kV16 dc16 pm16 cd16 ct16 : Value}
    {f17 : Addr} {od17 an17 : Option Addr} {sl17 : Array (Option Value)} {oc17 kV17 dc17 pm17 cd17 ct17 : Value}
    {f18 : Addr} {od18 an18 : Option Addr} {sl18 : Array (Option Value)} {oc18 kV18 dc18 pm18 cd18 ct18 : Value}
    {f19 : Addr} {od19 an19 : Option Addr} {sl19 : Array (Option Value)} {oc19 kV19 dc19 pm19 cd19 ct19 : Value}
    {f20 : Addr} {od20 an20 : Option Addr} {sl20 : Array (Option Value)} {oc20 kV20 dc20 pm20 cd20 ct20 : Value}
    {f21 : Addr} {od21 an21 : Option Addr} {sl21 : Array (Option Value)} {oc21 kV21 dc21 pm21 cd21 ct21 : Value}
    {f22 : Addr} {od22 an22 : Option Addr} {sl22 : Array (Option Value)} {oc22 kV22 dc22 pm22 cd22 ct22 : Value}
    {f23 : Addr} {od23 an23 : Option Addr} {sl23 : Array (Option Value)} {oc23 kV23 dc23 pm23 cd23 ct23 : Value}
    {f24 : Addr} {od24 an24 : Option Addr} {sl24 : Array (Option Value)} {oc24 kV24 dc24 pm24 cd24 ct24 : Value}
    {f25 : Addr} {od25 an25 : Option Addr} {sl25 : Array (Option Value)} {oc25 kV25 dc25 pm25 cd25 ct25 : Value}
    {f26 : Addr} {od26 an26 : Option Addr} {sl26 : Array (Option Value)} {oc26 kV26 dc26 pm26 cd26 ct26 : Value}
    {f27 : Addr} {od27 an27 : Option Addr} {sl27 : Array (Option Value)} {oc27 kV27 dc27 pm27 cd27 ct27 : Value}
    {f28 : Addr} {od28 an28 : Option Addr} {sl28 : Array (Option Value)} {oc28 kV28 dc28 pm28 cd28 ct28 : Value}
    {f29 : Addr} {od29 an29 : Option Addr} {sl29 : Array (Option Value)} {oc29 kV29 dc29 pm29 cd29 ct29 : Value}
    {f30 : Addr} {od30 an30 : Option Addr} {sl30 : Array (Option Value)} {oc30 kV30 dc30 pm30 cd30 ct30 : Value}
    {f31 : Addr} {od31 an31 : Option Addr} {sl31 : Array (Option Value)} {oc31 kV31 dc31 pm31 cd31 ct31 : Value}
    {f32 : Addr} {od32 an32 : Option Addr} {sl32 : Array (Option Value)} {oc32 kV32 dc32 pm32 cd32 ct32 : Value}
    (g_ReadError : PySem.W.nsIn K mainGlobals "ReadError" = some (some (.ref A_ReadError)))
    (g_NoGrammar : PySem.W.nsIn K mainGlobals "NoGrammar" = some (some (.ref A_NoGrammar)))
    (g_NoText : PySem.W.nsIn K mainGlobals "NoText" = some (some (.ref A_NoText)))
    (g_NoRow : PySem.W.nsIn K mainGlobals "NoRow" = some (some (.ref A_NoRow)))
    (g_NoPart : PySem.W.nsIn K mainGlobals "NoPart" = some (some (.ref A_NoPart)))
    (g_NoTree : PySem.W.nsIn K mainGlobals "NoTree" = some (some (.ref A_NoTree)))
    (g_NoChart : PySem.W.nsIn K mainGlobals "NoChart" = some (some (.ref A_NoChart)))
    (g_NoTable : PySem.W.nsIn K mainGlobals "NoTable" = some (some (.ref A_NoTable)))
    (g_NoMachine : PySem.W.nsIn K mainGlobals "NoMachine" = some (some (.ref A_NoMachine)))
    (g_NoDeed : PySem.W.nsIn K mainGlobals "NoDeed" = some (some (.ref A_NoDeed)))
    (g_TooMany : PySem.W.nsIn K mainGlobals "TooMany" = some (some (.ref A_TooMany)))
    (g_Table : PySem.W.nsIn K mainGlobals "Table" = some (some (.ref A_Table)))
    (a0 : PySem.W.nsIn K mainGlobals "is_name" = some (some (.ref f0)))
    (l0 : K.lookup f0 = some ⟨oc0, od0, .func (PySem.W.fnOf "is_name" "is_name" (defArgs s_is_name) (defBody s_is_name) (defScope s_is_name) .none kV0 dc0 pm0 an0 cd0 ct0), sl0⟩)
    (c0 : PySem.W.codeIn K cd0 "is_name" = true)
    (k0 : PySem.W.keepIn K (.ref f0) = true)
    (a1 : PySem.W.nsIn K mainGlobals "is_count" = some (some (.ref f1)))
    (l1 : K.lookup f1 = some ⟨oc1, od1, .func (PySem.W.fnOf "is_count" "is_count" (defArgs s_is_count) (defBody s_is_count) (defScope s_is_count) .none kV1 dc1 pm1 an1 cd1 ct1), sl1⟩)
    (c1 : PySem.W.codeIn K cd1 "is_count" = true)
    (k1 : PySem.W.keepIn K (.ref f1) = true)
    (a2 : PySem.W.nsIn K mainGlobals "are_pairs" = some (some (.ref f2)))
    (l2 : K.lookup f2 = some ⟨oc2, od2, .func (PySem.W.fnOf "are_pairs" "are_pairs" (defArgs s_are_pairs) (defBody s_are_pairs) (defScope s_are_pairs) .none kV2 dc2 pm2 an2 cd2 ct2), sl2⟩)
    (c2 : PySem.W.codeIn K cd2 "are_pairs" = true)
    (k2 : PySem.W.keepIn K (.ref f2) = true)
    (a3 : PySem.W.nsIn K mainGlobals "_law_cell" = some (some (.ref f3)))
    (l3 : K.lookup f3 = some ⟨oc3, od3, .func (PySem.W.fnOf "_law_cell" "_law_cell" (defArgs s_f_law_cell) (defBody s_f_law_cell) (defScope s_f_law_cell) .none kV3 dc3 pm3 an3 cd3 ct3), sl3⟩)
    (c3 : PySem.W.codeIn K cd3 "_law_cell" = true)
    (k3 : PySem.W.keepIn K (.ref f3) = true)
    (a4 : PySem.W.nsIn K mainGlobals "_law_mixed" = some (some (.ref f4)))
    (l4 : K.lookup f4 = some ⟨oc4, od4, .func (PySem.W.fnOf "_law_mixed" "_law_mixed" (defArgs s_f_law_mixed) (defBody s_f_law_mixed) (defScope s_f_law_mixed) .none kV4 dc4 pm4 an4 cd4 ct4), sl4⟩)
    (c4 : PySem.W.codeIn K cd4 "_law_mixed" = true)
    (k4 : PySem.W.keepIn K (.ref f4) = true)
    (a5 : PySem.W.nsIn K mainGlobals "_law_names" = some (some (.ref f5)))
    (l5 : K.lookup f5 = some ⟨oc5, od5, .func (PySem.W.fnOf "_law_names" "_law_names" (defArgs s_f_law_names) (defBody s_f_law_names) (defScope s_f_law_names) .none kV5 dc5 pm5 an5 cd5 ct5), sl5⟩)
    (c5 : PySem.W.codeIn K cd5 "_law_names" = true)
    (k5 : PySem.W.keepIn K (.ref f5) = true)
    (a6 : PySem.W.nsIn K mainGlobals "_law_alone" = some (some (.ref f6)))
    (l6 : K.lookup f6 = some ⟨oc6, od6, .func (PySem.W.fnOf "_law_alone" "_law_alone" (defArgs s_f_law_alone) (defBody s_f_law_alone) (defScope s_f_law_alone) .none kV6 dc6 pm6 an6 cd6 ct6), sl6⟩)
    (c6 : PySem.W.codeIn K cd6 "_law_alone" = true)
    (k6 : PySem.W.keepIn K (.ref f6) = true)
    (a7 : PySem.W.nsIn K mainGlobals "_law_state" = some (some (.ref f7)))
    (l7 : K.lookup f7 = some ⟨oc7, od7, .func (PySem.W.fnOf "_law_state" "_law_state" (defArgs s_f_law_state) (defBody s_f_law_state) (defScope s_f_law_state) .none kV7 dc7 pm7 an7 cd7 ct7), sl7⟩)
    (c7 : PySem.W.codeIn K cd7 "_law_state" = true)
    (k7 : PySem.W.keepIn K (.ref f7) = true)
    (a8 : PySem.W.nsIn K mainGlobals "_law_bad_parts" = some (some (.ref f8)))
    (l8 : K.lookup f8 = some ⟨oc8, od8, .func (PySem.W.fnOf "_law_bad_parts" "_law_bad_parts" (defArgs s_f_law_bad_parts) (defBody s_f_law_bad_parts) (defScope s_f_law_bad_parts) .none kV8 dc8 pm8 an8 cd8 ct8), sl8⟩)
    (c8 : PySem.W.codeIn K cd8 "_law_bad_parts" = true)
    (k8 : PySem.W.keepIn K (.ref f8) = true)
    (a9 : PySem.W.nsIn K mainGlobals "_law_take" = some (some (.ref f9)))
    (l9 : K.lookup f9 = some ⟨oc9, od9, .func (PySem.W.fnOf "_law_take" "_law_take" (defArgs s_f_law_take) (defBody s_f_law_take) (defScope s_f_law_take) .none kV9 dc9 pm9 an9 cd9 ct9), sl9⟩)
    (c9 : PySem.W.codeIn K cd9 "_law_take" = true)
    (k9 : PySem.W.keepIn K (.ref f9) = true)
    (a10 : PySem.W.nsIn K mainGlobals "_law_is_number" = some (some (.ref f10)))
    (l10 : K.lookup f10 = some ⟨oc10, od10, .func (PySem.W.fnOf "_law_is_number" "_law_is_number" (defArgs s_f_law_is_number) (defBody s_f_law_is_number) (defScope s_f_law_is_number) .none kV10 dc10 pm10 an10 cd10 ct10), sl10⟩)
    (c10 : PySem.W.codeIn K cd10 "_law_is_number" = true)
    (k10 : PySem.W.keepIn K (.ref f10) = true)
    (a11 : PySem.W.nsIn K mainGlobals "_law_is_word" = some (some (.ref f11)))
    (l11 : K.lookup f11 = some ⟨oc11, od11, .func (PySem.W.fnOf "_law_is_word" "_law_is_word" (defArgs s_f_law_is_word) (defBody s_f_law_is_word) (defScope s_f_law_is_word) .none kV11 dc11 pm11 an11 cd11 ct11), sl11⟩)
    (c11 : PySem.W.codeIn K cd11 "_law_is_word" = true)
    (k11 : PySem.W.keepIn K (.ref f11) = true)
    (a12 : PySem.W.nsIn K mainGlobals "_law_rises" = some (some (.ref f12)))
    (l12 : K.lookup f12 = some ⟨oc12, od12, .func (PySem.W.fnOf "_law_rises" "_law_rises" (defArgs s_f_law_rises) (defBody s_f_law_rises) (defScope s_f_law_rises) .none kV12 dc12 pm12 an12 cd12 ct12), sl12⟩)
    (c12 : PySem.W.codeIn K cd12 "_law_rises" = true)
    (k12 : PySem.W.keepIn K (.ref f12) = true)
    (a13 : PySem.W.nsIn K mainGlobals "is_word" = some (some (.ref f13)))
    (l13 : K.lookup f13 = some ⟨oc13, od13, .func (PySem.W.fnOf "is_word" "is_word" (defArgs s_is_word) (defBody s_is_word) (defScope s_is_word) .none kV13 dc13 pm13 an13 cd13 ct13), sl13⟩)
    (c13 : PySem.W.codeIn K cd13 "is_word" = true)
    (k13 : PySem.W.keepIn K (.ref f13) = true)
    (a14 : PySem.W.nsIn K mainGlobals "is_deed" = some (some (.ref f14)))
    (l14 : K.lookup f14 = some ⟨oc14, od14, .func (PySem.W.fnOf "is_deed" "is_deed" (defArgs s_is_deed) (defBody s_is_deed) (defScope s_is_deed) .none kV14 dc14 pm14 an14 cd14 ct14), sl14⟩)
    (c14 : PySem.W.codeIn K cd14 "is_deed" = true)
    (k14 : PySem.W.keepIn K (.ref f14) = true)
    (a15 : PySem.W.nsIn K mainGlobals "are_goes" = some (some (.ref f15)))
    (l15 : K.lookup f15 = some ⟨oc15, od15, .func (PySem.W.fnOf "are_goes" "are_goes" (defArgs s_are_goes) (defBody s_are_goes) (defScope s_are_goes) .none kV15 dc15 pm15 an15 cd15 ct15), sl15⟩)
    (c15 : PySem.W.codeIn K cd15 "are_goes" = true)
    (k15 : PySem.W.keepIn K (.ref f15) = true)
    (a16 : PySem.W.nsIn K mainGlobals "_law_number" = some (some (.ref f16)))
    (l16 : K.lookup f16 = some ⟨oc16, od16, .func (PySem.W.fnOf "_law_number" "_law_number" (defArgs s_f_law_number) (defBody s_f_law_number) (defScope s_f_law_number) .none kV16 dc16 pm16 an16 cd16 ct16), sl16⟩)
    (c16 : PySem.W.codeIn K cd16 "_law_number" = true)
    (k16 : PySem.W.keepIn K (.ref f16) = true)
    (a17 : PySem.W.nsIn K mainGlobals "_law_step" = some (some (.ref f17)))
    (l17 : K.lookup f17 = some ⟨oc17, od17, .func (PySem.W.fnOf "_law_step" "_law_step" (defArgs s_f_law_step) (defBody s_f_law_step) (defScope s_f_law_step) .none kV17 dc17 pm17 an17 cd17 ct17), sl17⟩)
    (c17 : PySem.W.codeIn K cd17 "_law_step" = true)
    (k17 : PySem.W.keepIn K (.ref f17) = true)
    (a18 : PySem.W.nsIn K mainGlobals "_law_is_deed" = some (some (.ref f18)))
    (l18 : K.lookup f18 = some ⟨oc18, od18, .func (PySem.W.fnOf "_law_is_deed" "_law_is_deed" (defArgs s_f_law_is_deed) (defBody s_f_law_is_deed) (defScope s_f_law_is_deed) .none kV18 dc18 pm18 an18 cd18 ct18), sl18⟩)
    (c18 : PySem.W.codeIn K cd18 "_law_is_deed" = true)
    (k18 : PySem.W.keepIn K (.ref f18) = true)
    (a19 : PySem.W.nsIn K mainGlobals "_law_is_note" = some (some (.ref f19)))
    (l19 : K.lookup f19 = some ⟨oc19, od19, .func (PySem.W.fnOf "_law_is_note" "_law_is_note" (defArgs s_f_law_is_note) (defBody s_f_law_is_note) (defScope s_f_law_is_note) .none kV19 dc19 pm19 an19 cd19 ct19), sl19⟩)
    (c19 : PySem.W.codeIn K cd19 "_law_is_note" = true)
    (k19 : PySem.W.keepIn K (.ref f19) = true)
    (a20 : PySem.W.nsIn K mainGlobals "are_deeds" = some (some (.ref f20)))
    (l20 : K.lookup f20 = some ⟨oc20, od20, .func (PySem.W.fnOf "are_deeds" "are_deeds" (defArgs s_are_deeds) (defBody s_are_deeds) (defScope s_are_deeds) .none kV20 dc20 pm20 an20 cd20 ct20), sl20⟩)
    (c20 : PySem.W.codeIn K cd20 "are_deeds" = true)
    (k20 : PySem.W.keepIn K (.ref f20) = true)
    (a21 : PySem.W.nsIn K mainGlobals "is_note" = some (some (.ref f21)))
    (l21 : K.lookup f21 = some ⟨oc21, od21, .func (PySem.W.fnOf "is_note" "is_note" (defArgs s_is_note) (defBody s_is_note) (defScope s_is_note) .none kV21 dc21 pm21 an21 cd21 ct21), sl21⟩)
    (c21 : PySem.W.codeIn K cd21 "is_note" = true)
    (k21 : PySem.W.keepIn K (.ref f21) = true)
    (a22 : PySem.W.nsIn K mainGlobals "_law_is_state" = some (some (.ref f22)))
    (l22 : K.lookup f22 = some ⟨oc22, od22, .func (PySem.W.fnOf "_law_is_state" "_law_is_state" (defArgs s_f_law_is_state) (defBody s_f_law_is_state) (defScope s_f_law_is_state) .none kV22 dc22 pm22 an22 cd22 ct22), sl22⟩)
    (c22 : PySem.W.codeIn K cd22 "_law_is_state" = true)
    (k22 : PySem.W.keepIn K (.ref f22) = true)
    (a23 : PySem.W.nsIn K mainGlobals "are_notes" = some (some (.ref f23)))
    (l23 : K.lookup f23 = some ⟨oc23, od23, .func (PySem.W.fnOf "are_notes" "are_notes" (defArgs s_are_notes) (defBody s_are_notes) (defScope s_are_notes) .none kV23 dc23 pm23 an23 cd23 ct23), sl23⟩)
    (c23 : PySem.W.codeIn K cd23 "are_notes" = true)
    (k23 : PySem.W.keepIn K (.ref f23) = true)
    (a24 : PySem.W.nsIn K mainGlobals "_law_is_table" = some (some (.ref f24)))
    (l24 : K.lookup f24 = some ⟨oc24, od24, .func (PySem.W.fnOf "_law_is_table" "_law_is_table" (defArgs s_f_law_is_table) (defBody s_f_law_is_table) (defScope s_f_law_is_table) .none kV24 dc24 pm24 an24 cd24 ct24), sl24⟩)
    (c24 : PySem.W.codeIn K cd24 "_law_is_table" = true)
    (k24 : PySem.W.keepIn K (.ref f24) = true)
    (a25 : PySem.W.nsIn K mainGlobals "is_state" = some (some (.ref f25)))
    (l25 : K.lookup f25 = some ⟨oc25, od25, .func (PySem.W.fnOf "is_state" "is_state" (defArgs s_is_state) (defBody s_is_state) (defScope s_is_state) .none kV25 dc25 pm25 an25 cd25 ct25), sl25⟩)
    (c25 : PySem.W.codeIn K cd25 "is_state" = true)
    (k25 : PySem.W.keepIn K (.ref f25) = true)
    (a26 : PySem.W.findIn K (.ref A_Table) "__init__" = some (some (.ref f26)))
    (i26 : PySem.W.isFn K (.ref f26) = true)
    (l26 : K.lookup f26 = some ⟨oc26, od26, .func (PySem.W.fnOf "__init__" "Table.__init__" (defArgs s_Table_init) (defBody s_Table_init) (defScope s_Table_init) .none kV26 dc26 pm26 an26 cd26 ct26), sl26⟩)
    (c26 : PySem.W.codeIn K cd26 "Table.__init__" = true)
    (k26 : PySem.W.keepIn K (.ref f26) = true)
    (a27 : PySem.W.nsIn K mainGlobals "_law_refused" = some (some (.ref f27)))
    (l27 : K.lookup f27 = some ⟨oc27, od27, .func (PySem.W.fnOf "_law_refused" "_law_refused" (defArgs s_f_law_refused) (defBody s_f_law_refused) (defScope s_f_law_refused) .none kV27 dc27 pm27 an27 cd27 ct27), sl27⟩)
    (c27 : PySem.W.codeIn K cd27 "_law_refused" = true)
    (k27 : PySem.W.keepIn K (.ref f27) = true)
    (a28 : PySem.W.nsIn K mainGlobals "_law_spots" = some (some (.ref f28)))
    (l28 : K.lookup f28 = some ⟨oc28, od28, .func (PySem.W.fnOf "_law_spots" "_law_spots" (defArgs s_f_law_spots) (defBody s_f_law_spots) (defScope s_f_law_spots) .none kV28 dc28 pm28 an28 cd28 ct28), sl28⟩)
    (c28 : PySem.W.codeIn K cd28 "_law_spots" = true)
    (k28 : PySem.W.keepIn K (.ref f28) = true)
    (a29 : PySem.W.nsIn K mainGlobals "_law_with" = some (some (.ref f29)))
    (l29 : K.lookup f29 = some ⟨oc29, od29, .func (PySem.W.fnOf "_law_with" "_law_with" (defArgs s_f_law_with) (defBody s_f_law_with) (defScope s_f_law_with) .none kV29 dc29 pm29 an29 cd29 ct29), sl29⟩)
    (c29 : PySem.W.codeIn K cd29 "_law_with" = true)
    (k29 : PySem.W.keepIn K (.ref f29) = true)
    (a30 : PySem.W.nsIn K mainGlobals "_law_spoilt" = some (some (.ref f30)))
    (l30 : K.lookup f30 = some ⟨oc30, od30, .func (PySem.W.fnOf "_law_spoilt" "_law_spoilt" (defArgs s_f_law_spoilt) (defBody s_f_law_spoilt) (defScope s_f_law_spoilt) .none kV30 dc30 pm30 an30 cd30 ct30), sl30⟩)
    (c30 : PySem.W.codeIn K cd30 "_law_spoilt" = true)
    (k30 : PySem.W.keepIn K (.ref f30) = true)
    (a31 : PySem.W.nsIn K mainGlobals "_law_kept_or_refused" = some (some (.ref f31)))
    (l31 : K.lookup f31 = some ⟨oc31, od31, .func (PySem.W.fnOf "_law_kept_or_refused" "_law_kept_or_refused" (defArgs s_f_law_kept_or_refused) (defBody s_f_law_kept_or_refused) (defScope s_f_law_kept_or_refused) .none kV31 dc31 pm31 an31 cd31 ct31), sl31⟩)
    (c31 : PySem.W.codeIn K cd31 "_law_kept_or_refused" = true)
    (k31 : PySem.W.keepIn K (.ref f31) = true)
    (a32 : PySem.W.nsIn K mainGlobals "law" = some (some (.ref f32)))
    (l32 : K.lookup f32 = some ⟨oc32, od32, .func (PySem.W.fnOf "law" "law" (defArgs s_law) (defBody s_law) (defScope s_law) .none kV32 dc32 pm32 an32 cd32 ct32), sl32⟩)
    (c32 : PySem.W.codeIn K cd32 "law" = true)
    (k32 : PySem.W.keepIn K (.ref f32) = true)
    (z0 : PySem.W.nsIn K mainGlobals "ValueError" = some none)
    (z1 : PySem.W.nsIn K mainGlobals "all" = some none)
    (z2 : PySem.W.nsIn K mainGlobals "any" = some none)
    (z3 : PySem.W.nsIn K mainGlobals "bool" = some none)
    (z4 : PySem.W.nsIn K mainGlobals "enumerate" = some none)
    (z5 : PySem.W.nsIn K mainGlobals "int" = some none)
    (z6 : PySem.W.nsIn K mainGlobals "isinstance" = some none)
    (z7 : PySem.W.nsIn K mainGlobals "len" = some none)
    (z8 : PySem.W.nsIn K mainGlobals "list" = some none)
    (z9 : PySem.W.nsIn K mainGlobals "max" = some none)
    (z10 : PySem.W.nsIn K mainGlobals "range" = some none)
    (z11 : PySem.W.nsIn K mainGlobals "repr" = some none)
    (z12 : PySem.W.nsIn K mainGlobals "set" = some none)
    (z13 : PySem.W.nsIn K mainGlobals "sorted" = some none)
    (z14 : PySem.W.nsIn K mainGlobals "str" = some none)
    (z15 : PySem.W.nsIn K mainGlobals "tuple" = some none)
    {t0 : Tok}
    (y0 : PySem.W.nsIn K mainGlobals "LETTERS" = some (some (.str "abcdefghijklmnopqrstuvwxyz" t0)))
    {t1 : Tok}
    (y1 : PySem.W.nsIn K mainGlobals "MOST_DOT" = some (some (.int 8 t1)))
    {t2 : Tok}
    (y2 : PySem.W.nsIn K mainGlobals "MOST_LETTERS" = some (some (.int 8 t2)))
    {t3 : Tok}
    (y3 : PySem.W.nsIn K mainGlobals "MOST_RULES" = some (some (.int 300 t3)))
    {t4 : Tok}
    (y4 : PySem.W.nsIn K mainGlobals "MOST_STATES" = some (some (.int 600 t4)))
    (ex_NoTable : PySem.W.excIn K A_NoTable [.type "ValueError", .type "Exception", .type "BaseException", .type "object"] "ValueError.__new__" = true)
    (ek_NoTable : PySem.W.keepIn K (.ref A_NoTable) = true)
    (eb_NoTable : PySem.W.subIn K (.ref A_NoTable) (.type "BaseException") = some true)
    (et_NoTable : PySem.W.typeIn K (.ref A_NoTable) = some (.type "type"))
    (eg_NoTable : PySem.W.findIn K (.ref A_NoTable) "__getattribute__" = some (some (.builtin "BaseException.__getattribute__")))
    (eh_NoTable : PySem.W.findIn K (.ref A_NoTable) "__getattr__" = some none)
    (ed_NoTable : PySem.W.hasDictIn K A_NoTable = true)
    (ea_NoTable : PySem.W.findIn K (.ref A_NoTable) "__class__" = some (some (.builtin "object.__class__")))
    (em_NoTable : PySem.W.mroIn K A_NoTable (.type "object") = some true)
    (q_NoTable_NoGrammar : PySem.W.kitOne K (.ref A_NoTable) (.ref A_NoGrammar) = some false)
    (q_NoTable_NoText : PySem.W.kitOne K (.ref A_NoTable) (.ref A_NoText) = some false)
    (q_NoTable_NoRow : PySem.W.kitOne K (.ref A_NoTable) (.ref A_NoRow) = some false)
    (q_NoTable_NoPart : PySem.W.kitOne K (.ref A_NoTable) (.ref A_NoPart) = some false)
    (q_NoTable_NoTree : PySem.W.kitOne K (.ref A_NoTable) (.ref A_NoTree) = some false)
    (q_NoTable_NoChart : PySem.W.kitOne K (.ref A_NoTable) (.ref A_NoChart) = some false)
    (q_NoTable_NoTable : PySem.W.kitOne K (.ref A_NoTable) (.ref A_NoTable) = some true)
    (q_NoTable_NoMachine : PySem.W.kitOne K (.ref A_NoTable) (.ref A_NoMachine) = some false)
    (q_NoTable_NoDeed : PySem.W.kitOne K (.ref A_NoTable) (.ref A_NoDeed) = some false)
    (q_NoTable_TooMany : PySem.W.kitOne K (.ref A_NoTable) (.ref A_TooMany) = some false)
    (v_NoTable : PySem.W.kitOne K (.ref A_NoTable) (.type "ValueError") = some true)
    (s_NoTable_ReadError : PySem.W.subIn K (.ref A_NoTable) (.ref A_ReadError) = some true)
    (on : PySem.W.specialIn K (.builtin "object.__class__") "__get__" = some (some (.builtin "getset_descriptor.__get__")))
    (ot : PySem.W.takesIn K (.builtin "object.__class__") = some true)
    (hb_ReadError : PySem.W.subIn K (.ref A_ReadError) (.type "BaseException") = some true)
    (hd_ReadError : PySem.W.hasDictIn K A_ReadError = true)
    (ht_ReadError : PySem.W.typeIn K (.ref A_ReadError) = some (.type "type"))
    (pg_Table : PySem.W.plainGet K A_Table Str.empty = true)
    (od_Table : PySem.W.hasDictIn K A_Table = true)
    (po_Table : PySem.W.plainOver K A_Table = true)
    (sa_Table : PySem.W.findIn K (.ref A_Table) "__setattr__" = some (some (.builtin "object.__setattr__")))
    (mk_Table : PySem.W.makesIn K A_Table = true)
    (kc_Table : PySem.W.keepIn K (.ref A_Table) = true)
    (nf_Table_states : PySem.W.findIn K (.ref A_Table) "states" = some none)
    (hlaw : ∀ ns : List Int, ns.length ≤ 63 → F_law [.lst (ns.map D.int)] [] = .ok (.val (.bl true)) []) :
    ∃ fd : FuncData, (∀ (s : Shared) (v : Value), BindsTo s fd ⟨[v], []⟩ [("_law_script", v)]) ∧ ∀ base : Heap, K.In base → base.Ns mainGlobals mg → FnG l.prog w K mg base CX0 10 fa fd ["_law_script"] (spLaw K) := by
  have xc_NoTable : ExcC K A_NoTable := ⟨eg_NoTable, eh_NoTable, eb_NoTable, ed_NoTable, ea_NoTable, on, ot, em_NoTable⟩
  have T : Tx K w mg ⟨A_ReadError, A_NoGrammar, A_NoText, A_NoRow, A_NoPart, A_NoTree, A_NoChart, A_NoTable, A_NoMachine, A_NoDeed, A_TooMany, A_Table⟩ := {
    n_ValueError := PySem.W.mg_none_of X G z0
    n_all := PySem.W.mg_none_of X G z1
    n_any := PySem.W.mg_none_of X G z2
    n_bool := PySem.W.mg_none_of X G z3
    n_enumerate := PySem.W.mg_none_of X G z4
    n_int := PySem.W.mg_none_of X G z5
    n_isinstance := PySem.W.mg_none_of X G z6
    n_len := PySem.W.mg_none_of X G z7
    n_list := PySem.W.mg_none_of X G z8
    n_max := PySem.W.mg_none_of X G z9
    n_range := PySem.W.mg_none_of X G z10
    n_repr := PySem.W.mg_none_of X G z11
    n_set := PySem.W.mg_none_of X G z12
    n_sorted := PySem.W.mg_none_of X G z13
    n_str := PySem.W.mg_none_of X G z14
    n_tuple := PySem.W.mg_none_of X G z15
    c_LETTERS := ⟨_, PySem.W.mg_of X G y0⟩
    c_MOST_DOT := ⟨_, PySem.W.mg_of X G y1⟩
    c_MOST_LETTERS := ⟨_, PySem.W.mg_of X G y2⟩
    c_MOST_RULES := ⟨_, PySem.W.mg_of X G y3⟩
    c_MOST_STATES := ⟨_, PySem.W.mg_of X G y4⟩
    g_ReadError := PySem.W.mg_of X G g_ReadError
    g_NoGrammar := PySem.W.mg_of X G g_NoGrammar
    g_NoText := PySem.W.mg_of X G g_NoText
    g_NoRow := PySem.W.mg_of X G g_NoRow
    g_NoPart := PySem.W.mg_of X G g_NoPart
    g_NoTree := PySem.W.mg_of X G g_NoTree
    g_NoChart := PySem.W.mg_of X G g_NoChart
    g_NoTable := PySem.W.mg_of X G g_NoTable
    g_NoMachine := PySem.W.mg_of X G g_NoMachine
    g_NoDeed := PySem.W.mg_of X G g_NoDeed
    g_TooMany := PySem.W.mg_of X G g_TooMany
    g_Table := PySem.W.mg_of X G g_Table
    e_NoTable := ⟨ex_NoTable, ek_NoTable, eb_NoTable, et_NoTable⟩
    cl_Table := ⟨pg_Table, od_Table, po_Table, sa_Table⟩
    fl_states := fun c hc C hC => by
      simp only [List.contains_eq_mem, List.mem_cons, List.not_mem_nil, or_false, decide_eq_true_eq] at hc
      rcases hc with rfl
      · rw [cm_Table] at hC; cases hC; exact ⟨⟨pg_Table, od_Table, po_Table, sa_Table⟩, nf_Table_states⟩
    errC := fun t ht C C' h1 h2 => by
      simp only [errC, List.mem_cons, List.not_mem_nil, or_false] at ht
      rcases ht with rfl | rfl | rfl | rfl | rfl | rfl | rfl | rfl | rfl | rfl
      · rw [cm_NoTable] at h1; cases h1; rw [cm_NoGrammar] at h2; cases h2; exact ⟨xc_NoTable, q_NoTable_NoGrammar⟩
      · rw [cm_NoTable] at h1; cases h1; rw [cm_NoText] at h2; cases h2; exact ⟨xc_NoTable, q_NoTable_NoText⟩
      · rw [cm_NoTable] at h1; cases h1; rw [cm_NoRow] at h2; cases h2; exact ⟨xc_NoTable, q_NoTable_NoRow⟩
      · rw [cm_NoTable] at h1; cases h1; rw [cm_NoPart] at h2; cases h2; exact ⟨xc_NoTable, q_NoTable_NoPart⟩
      · rw [cm_NoTable] at h1; cases h1; rw [cm_NoTree] at h2; cases h2; exact ⟨xc_NoTable, q_NoTable_NoTree⟩
      · rw [cm_NoTable] at h1; cases h1; rw [cm_NoChart] at h2; cases h2; exact ⟨xc_NoTable, q_NoTable_NoChart⟩
      · rw [cm_NoTable] at h1; cases h1; rw [cm_NoTable] at h2; cases h2; exact ⟨xc_NoTable, q_NoTable_NoTable⟩
      · rw [cm_NoTable] at h1; cases h1; rw [cm_NoMachine] at h2; cases h2; exact ⟨xc_NoTable, q_NoTable_NoMachine⟩
      · rw [cm_NoTable] at h1; cases h1; rw [cm_NoDeed] at h2; cases h2; exact ⟨xc_NoTable, q_NoTable_NoDeed⟩
      · rw [cm_NoTable] at h1; cases h1; rw [cm_TooMany] at h2; cases h2; exact ⟨xc_NoTable, q_NoTable_TooMany⟩
    errT := fun t ht C h1 => by
      simp only [errT, List.mem_cons, List.not_mem_nil, or_false] at ht
      rcases ht with rfl
      · rw [cm_NoTable] at h1; cases h1; exact ⟨xc_NoTable, v_NoTable⟩
    hits_ReadError := fun t ht C h1 => by
      simp only [hits_ReadError, List.mem_cons, List.not_mem_nil, or_false] at ht
      rcases ht with rfl
      · rw [cm_NoTable] at h1; cases h1; exact PySem.W.exm_ref hb_ReadError hd_ReadError ht_ReadError s_NoTable_ReadError }
  have F0 := fun_mk (st := s_is_name) l0 c0 k0
  have D0 : At K mg "is_name" "is_name" s_is_name ["thing"] := ⟨_, _, F0, F0.binds (ps := ["thing"]) fun _ _ _ _ _ _ us hl => match us, hl with | [_], _ => rfl, PySem.W.mg_of X G a0⟩
  have F1 := fun_mk (st := s_is_count) l1 c1 k1
  have D1 : At K mg "is_count" "is_count" s_is_count ["thing", "least", "most"] := ⟨_, _, F1, F1.binds (ps := ["thing", "least", "most"]) fun _ _ _ _ _ _ us hl => match us, hl with | [_, _, _], _ => rfl, PySem.W.mg_of X G a1⟩
  have F2 := fun_mk (st := s_are_pairs) l2 c2 k2
  have D2 : At K mg "are_pairs" "are_pairs" s_are_pairs ["thing"] := ⟨_, _, F2, F2.binds (ps := ["thing"]) fun _ _ _ _ _ _ us hl => match us, hl with | [_], _ => rfl, PySem.W.mg_of X G a2⟩
  have F3 := fun_mk (st := s_f_law_cell) l3 c3 k3
  have D3 : At K mg "_law_cell" "_law_cell" s_f_law_cell ["_law_script", "_law_k"] := ⟨_, _, F3, F3.binds (ps := ["_law_script", "_law_k"]) fun _ _ _ _ _ _ us hl => match us, hl with | [_, _], _ => rfl, PySem.W.mg_of X G a3⟩
  have F4 := fun_mk (st := s_f_law_mixed) l4 c4 k4
  have D4 : At K mg "_law_mixed" "_law_mixed" s_f_law_mixed ["_law_cell_here", "_law_turn"] := ⟨_, _, F4, F4.binds (ps := ["_law_cell_here", "_law_turn"]) fun _ _ _ _ _ _ us hl => match us, hl with | [_, _], _ => rfl, PySem.W.mg_of X G a4⟩
  have F5 := fun_mk (st := s_f_law_names) l5 c5 k5
  have D5 : At K mg "_law_names" "_law_names" s_f_law_names ["_law_number_here"] := ⟨_, _, F5, F5.binds (ps := ["_law_number_here"]) fun _ _ _ _ _ _ us hl => match us, hl with | [_], _ => rfl, PySem.W.mg_of X G a5⟩
  have F6 := fun_mk (st := s_f_law_alone) l6 c6 k6
  have D6 : At K mg "_law_alone" "_law_alone" s_f_law_alone ["_law_error"] := ⟨_, _, F6, F6.binds (ps := ["_law_error"]) fun _ _ _ _ _ _ us hl => match us, hl with | [_], _ => rfl, PySem.W.mg_of X G a6⟩
  have F7 := fun_mk (st := s_f_law_state) l7 c7 k7
  have D7 : At K mg "_law_state" "_law_state" s_f_law_state ["_law_number_here", "_law_names_here", "_law_many"] := ⟨_, _, F7, F7.binds (ps := ["_law_number_here", "_law_names_here", "_law_many"]) fun _ _ _ _ _ _ us hl => match us, hl with | [_, _, _], _ => rfl, PySem.W.mg_of X G a7⟩
  have F8 := fun_mk (st := s_f_law_bad_parts) l8 c8 k8
  have D8 : At K mg "_law_bad_parts" "_law_bad_parts" s_f_law_bad_parts ["_law_names_here"] := ⟨_, _, F8, F8.binds (ps := ["_law_names_here"]) fun _ _ _ _ _ _ us hl => match us, hl with | [_], _ => rfl, PySem.W.mg_of X G a8⟩
  have F9 := fun_mk (st := s_f_law_take) l9 c9 k9
  have D9 : At K mg "_law_take" "_law_take" s_f_law_take ["_law_digits", "_law_size"] := ⟨_, _, F9, F9.binds (ps := ["_law_digits", "_law_size"]) fun _ _ _ _ _ _ us hl => match us, hl with | [_, _], _ => rfl, PySem.W.mg_of X G a9⟩
  have F10 := fun_mk (st := s_f_law_is_number) l10 c10 k10
  have D10 : At K mg "_law_is_number" "_law_is_number" s_f_law_is_number ["_law_thing", "_law_least", "_law_most"] := ⟨_, _, F10, F10.binds (ps := ["_law_thing", "_law_least", "_law_most"]) fun _ _ _ _ _ _ us hl => match us, hl with | [_, _, _], _ => rfl, PySem.W.mg_of X G a10⟩
  have F11 := fun_mk (st := s_f_law_is_word) l11 c11 k11
  have D11 : At K mg "_law_is_word" "_law_is_word" s_f_law_is_word ["_law_thing"] := ⟨_, _, F11, F11.binds (ps := ["_law_thing"]) fun _ _ _ _ _ _ us hl => match us, hl with | [_], _ => rfl, PySem.W.mg_of X G a11⟩
  have F12 := fun_mk (st := s_f_law_rises) l12 c12 k12
  have D12 : At K mg "_law_rises" "_law_rises" s_f_law_rises ["_law_some"] := ⟨_, _, F12, F12.binds (ps := ["_law_some"]) fun _ _ _ _ _ _ us hl => match us, hl with | [_], _ => rfl, PySem.W.mg_of X G a12⟩
  have F13 := fun_mk (st := s_is_word) l13 c13 k13
  have D13 : At K mg "is_word" "is_word" s_is_word ["thing"] := ⟨_, _, F13, F13.binds (ps := ["thing"]) fun _ _ _ _ _ _ us hl => match us, hl with | [_], _ => rfl, PySem.W.mg_of X G a13⟩
  have F14 := fun_mk (st := s_is_deed) l14 c14 k14
  have D14 : At K mg "is_deed" "is_deed" s_is_deed ["thing", "many"] := ⟨_, _, F14, F14.binds (ps := ["thing", "many"]) fun _ _ _ _ _ _ us hl => match us, hl with | [_, _], _ => rfl, PySem.W.mg_of X G a14⟩
  have F15 := fun_mk (st := s_are_goes) l15 c15 k15
  have D15 : At K mg "are_goes" "are_goes" s_are_goes ["thing", "many"] := ⟨_, _, F15, F15.binds (ps := ["thing", "many"]) fun _ _ _ _ _ _ us hl => match us, hl with | [_, _], _ => rfl, PySem.W.mg_of X G a15⟩
  have F16 := fun_mk (st := s_f_law_number) l16 c16 k16
  have D16 : At K mg "_law_number" "_law_number" s_f_law_number ["_law_script", "_law_k"] := ⟨_, _, F16, F16.binds (ps := ["_law_script", "_law_k"]) fun _ _ _ _ _ _ us hl => match us, hl with | [_, _], _ => rfl, PySem.W.mg_of X G a16⟩
  have F17 := fun_mk (st := s_f_law_step) l17 c17 k17
  have D17 : At K mg "_law_step" "_law_step" s_f_law_step ["_law_digits", "_law_one"] := ⟨_, _, F17, F17.binds (ps := ["_law_digits", "_law_one"]) fun _ _ _ _ _ _ us hl => match us, hl with | [_, _], _ => rfl, PySem.W.mg_of X G a17⟩
  have F18 := fun_mk (st := s_f_law_is_deed) l18 c18 k18
  have D18 : At K mg "_law_is_deed" "_law_is_deed" s_f_law_is_deed ["_law_word", "_law_deed", "_law_many"] := ⟨_, _, F18, F18.binds (ps := ["_law_word", "_law_deed", "_law_many"]) fun _ _ _ _ _ _ us hl => match us, hl with | [_, _, _], _ => rfl, PySem.W.mg_of X G a18⟩
  have F19 := fun_mk (st := s_f_law_is_note) l19 c19 k19
  have D19 : At K mg "_law_is_note" "_law_is_note" s_f_law_is_note ["_law_note"] := ⟨_, _, F19, F19.binds (ps := ["_law_note"]) fun _ _ _ _ _ _ us hl => match us, hl with | [_], _ => rfl, PySem.W.mg_of X G a19⟩
  have F20 := fun_mk (st := s_are_deeds) l20 c20 k20
  have D20 : At K mg "are_deeds" "are_deeds" s_are_deeds ["thing", "many"] := ⟨_, _, F20, F20.binds (ps := ["thing", "many"]) fun _ _ _ _ _ _ us hl => match us, hl with | [_, _], _ => rfl, PySem.W.mg_of X G a20⟩
  have F21 := fun_mk (st := s_is_note) l21 c21 k21
  have D21 : At K mg "is_note" "is_note" s_is_note ["thing"] := ⟨_, _, F21, F21.binds (ps := ["thing"]) fun _ _ _ _ _ _ us hl => match us, hl with | [_], _ => rfl, PySem.W.mg_of X G a21⟩
  have F22 := fun_mk (st := s_f_law_is_state) l22 c22 k22
  have D22 : At K mg "_law_is_state" "_law_is_state" s_f_law_is_state ["_law_thing", "_law_many"] := ⟨_, _, F22, F22.binds (ps := ["_law_thing", "_law_many"]) fun _ _ _ _ _ _ us hl => match us, hl with | [_, _], _ => rfl, PySem.W.mg_of X G a22⟩
  have F23 := fun_mk (st := s_are_notes) l23 c23 k23
  have D23 : At K mg "are_notes" "are_notes" s_are_notes ["thing"] := ⟨_, _, F23, F23.binds (ps := ["thing"]) fun _ _ _ _ _ _ us hl => match us, hl with | [_], _ => rfl, PySem.W.mg_of X G a23⟩
  have F24 := fun_mk (st := s_f_law_is_table) l24 c24 k24
  have D24 : At K mg "_law_is_table" "_law_is_table" s_f_law_is_table ["_law_thing"] := ⟨_, _, F24, F24.binds (ps := ["_law_thing"]) fun _ _ _ _ _ _ us hl => match us, hl with | [_], _ => rfl, PySem.W.mg_of X G a24⟩
  have F25 := fun_mk (st := s_is_state) l25 c25 k25
  have D25 : At K mg "is_state" "is_state" s_is_state ["thing", "many"] := ⟨_, _, F25, F25.binds (ps := ["thing", "many"]) fun _ _ _ _ _ _ us hl => match us, hl with | [_, _], _ => rfl, PySem.W.mg_of X G a25⟩
  have F26 := fun_mk (st := s_Table_init) l26 c26 k26
  have B26 := F26.binds (ps := ["self", "states"]) fun _ _ _ _ _ _ us hl => match us, hl with | [_, _], _ => rfl
  have F27 := fun_mk (st := s_f_law_refused) l27 c27 k27
  have D27 : At K mg "_law_refused" "_law_refused" s_f_law_refused ["_law_thing"] := ⟨_, _, F27, F27.binds (ps := ["_law_thing"]) fun _ _ _ _ _ _ us hl => match us, hl with | [_], _ => rfl, PySem.W.mg_of X G a27⟩
  have F28 := fun_mk (st := s_f_law_spots) l28 c28 k28
  have D28 : At K mg "_law_spots" "_law_spots" s_f_law_spots ["_law_thing"] := ⟨_, _, F28, F28.binds (ps := ["_law_thing"]) fun _ _ _ _ _ _ us hl => match us, hl with | [_], _ => rfl, PySem.W.mg_of X G a28⟩
  have F29 := fun_mk (st := s_f_law_with) l29 c29 k29
  have D29 : At K mg "_law_with" "_law_with" s_f_law_with ["_law_thing", "_law_way", "_law_other"] := ⟨_, _, F29, F29.binds (ps := ["_law_thing", "_law_way", "_law_other"]) fun _ _ _ _ _ _ us hl => match us, hl with | [_, _, _], _ => rfl, PySem.W.mg_of X G a29⟩
  have F30 := fun_mk (st := s_f_law_spoilt) l30 c30 k30
  have D30 : At K mg "_law_spoilt" "_law_spoilt" s_f_law_spoilt ["_law_digits", "_law_thing"] := ⟨_, _, F30, F30.binds (ps := ["_law_digits", "_law_thing"]) fun _ _ _ _ _ _ us hl => match us, hl with | [_, _], _ => rfl, PySem.W.mg_of X G a30⟩
  have F31 := fun_mk (st := s_f_law_kept_or_refused) l31 c31 k31
  have D31 : At K mg "_law_kept_or_refused" "_law_kept_or_refused" s_f_law_kept_or_refused ["_law_thing"] := ⟨_, _, F31, F31.binds (ps := ["_law_thing"]) fun _ _ _ _ _ _ us hl => match us, hl with | [_], _ => rfl, PySem.W.mg_of X G a31⟩
  have F32 := fun_mk (st := s_law) l32 c32 k32
  have D32 : At K mg "law" "law" s_law ["_law_script"] := ⟨_, _, F32, F32.binds (ps := ["_law_script"]) fun _ _ _ _ _ _ us hl => match us, hl with | [_], _ => rfl, PySem.W.mg_of X G a32⟩
  have e := hfa.symm.trans (PySem.W.mg_of X G a32)
  cases e
  refine ⟨PySem.W.fnOf "law" "law" (defArgs s_law) (defBody s_law) (defScope s_law) .none kV32 dc32 pm32 an32 cd32 ct32, fun s v => .of_eq rfl, fun base _ _ => ?_⟩
  have O_is_name := ok_is_name (P := l.prog) (w := w) (base := base) T D0 
  have O_is_count := ok_is_count (P := l.prog) (w := w) (base := base) T D1 
  have O_are_pairs := ok_are_pairs (P := l.prog) (w := w) (base := base) T D2 
  have O_f_law_cell := ok_f_law_cell (P := l.prog) (w := w) (base := base) T D3 
  have O_f_law_mixed := ok_f_law_mixed (P := l.prog) (w := w) (base := base) T D4 
  have O_f_law_names := ok_f_law_names (P := l.prog) (w := w) (base := base) T D5 
  have O_f_law_alone := ok_f_law_alone (P := l.prog) (w := w) (base := base) T D6 
  have O_f_law_state := ok_f_law_state (P := l.prog) (w := w) (base := base) T D7 
  have O_f_law_bad_parts := ok_f_law_bad_parts (P := l.prog) (w := w) (base := base) T D8 
  have O_f_law_take := ok_f_law_take (P := l.prog) (w := w) (base := base) T D9 
  have O_f_law_is_number := ok_f_law_is_number (P := l.prog) (w := w) (base := base) T D10 
  have O_f_law_is_word := ok_f_law_is_word (P := l.prog) (w := w) (base := base) T D11 
  have O_f_law_rises := ok_f_law_rises (P := l.prog) (w := w) (base := base) T D12 
  have O_is_word := ok_is_word (P := l.prog) (w := w) (base := base) T D13 O_is_name
  have O_is_deed := ok_is_deed (P := l.prog) (w := w) (base := base) T D14 O_is_count
  have O_are_goes := ok_are_goes (P := l.prog) (w := w) (base := base) T D15 O_are_pairs O_is_name O_is_count
  have O_f_law_number := ok_f_law_number (P := l.prog) (w := w) (base := base) T D16 O_f_law_cell O_f_law_mixed
  have O_f_law_step := ok_f_law_step (P := l.prog) (w := w) (base := base) T D17 O_f_law_take
  have O_f_law_is_deed := ok_f_law_is_deed (P := l.prog) (w := w) (base := base) T D18 O_f_law_is_number
  have O_f_law_is_note := ok_f_law_is_note (P := l.prog) (w := w) (base := base) T D19 O_f_law_is_number O_f_law_is_word
  have O_are_deeds := ok_are_deeds (P := l.prog) (w := w) (base := base) T D20 O_are_pairs O_is_word O_is_deed
  have O_is_note := ok_is_note (P := l.prog) (w := w) (base := base) T D21 O_is_count O_is_word
  have O_f_law_is_state := ok_f_law_is_state (P := l.prog) (w := w) (base := base) T D22 O_f_law_is_word O_f_law_is_deed O_f_law_is_number O_f_law_is_note O_f_law_rises
  have O_are_notes := ok_are_notes (P := l.prog) (w := w) (base := base) T D23 O_is_note
  have O_f_law_is_table := ok_f_law_is_table (P := l.prog) (w := w) (base := base) T D24 O_f_law_is_state
  have O_is_state := ok_is_state (P := l.prog) (w := w) (base := base) T D25 O_are_deeds O_are_goes O_are_notes
  have O_Table_init := ok_Table_init (P := l.prog) (w := w) (base := base) T F26 B26 ⟨mk_Table, a26, i26, kc_Table⟩ O_is_state
  have O_f_law_refused := ok_f_law_refused (P := l.prog) (w := w) (base := base) T D27 O_Table_init O_f_law_alone
  have O_f_law_spots := ok_f_law_spots (P := l.prog) (w := w) (base := base) T D28  8
  have O_f_law_with := ok_f_law_with (P := l.prog) (w := w) (base := base) T D29  8
  have O_f_law_spoilt := ok_f_law_spoilt (P := l.prog) (w := w) (base := base) T D30 O_f_law_spots O_f_law_take O_f_law_with O_f_law_step
  have O_f_law_kept_or_refused := ok_f_law_kept_or_refused (P := l.prog) (w := w) (base := base) T D31 O_f_law_is_table O_f_law_refused O_Table_init
  exact (fn_law (P := l.prog) (w := w) (base := base) T F32 O_f_law_names O_f_law_number O_f_law_bad_parts O_f_law_state O_f_law_mixed O_Table_init O_f_law_refused O_f_law_spoilt O_f_law_kept_or_refused).imp (law_imp rfl hlaw)
end Lw
open PySem PySem.W PyProof.Rows
set_option maxHeartbeats 0 in
theorem PySem.Challenge.cw_paperreader_k60_tables_told_holds : PySem.Challenge.rw_paperreader_k60_tables_told.Holds := by
  w_on; o_law; k_head; (case hw => w_witness2)
  k_fill
  refine VI.walkG_of (l := PySem.Challenge.rw_paperreader_k60_tables_told) (n := 63) (k := 10) (x := "_law_script") (CX := fun _ => L2.CX0) (sp := fun w => VI.spLaw _) rfl (by decide) rfl ⟨rfl, by decide, by decide⟩ (fun w h Y => PySem.W.kIn_of Y) ?F (fun _ _ a ns hl _ hS => ⟨a, ns, rfl, hS, hl, fun _ => rfl⟩) (fun _ _ _ _ _ h => h)
  case F =>
    intro w mg fa h KX G hmg
    refine' Lw.all_mk KX G hmg ?g_ReadError ?g_NoGrammar ?g_NoText ?g_NoRow ?g_NoPart ?g_NoTree ?g_NoChart ?g_NoTable ?g_NoMachine ?g_NoDeed ?g_TooMany ?g_Table ?a0 ?l0 ?c0 ?k0 ?a1 ?l1 ?c1 ?k1 ?a2 ?l2 ?c2 ?k2 ?a3 ?l3 ?c3 ?k3 ?a4 ?l4 ?c4 ?k4 ?a5 ?l5 ?c5 ?k5 ?a6 ?l6 ?c6 ?k6 ?a7 ?l7 ?c7 ?k7 ?a8 ?l8 ?c8 ?k8 ?a9 ?l9 ?c9 ?k9 ?a10 ?l10 ?c10 ?k10 ?a11 ?l11 ?c11 ?k11 ?a12 ?l12 ?c12 ?k12 ?a13 ?l13 ?c13 ?k13 ?a14 ?l14 ?c14 ?k14 ?a15 ?l15 ?c15 ?k15 ?a16 ?l16 ?c16 ?k16 ?a17 ?l17 ?c17 ?k17 ?a18 ?l18 ?c18 ?k18 ?a19 ?l19 ?c19 ?k19 ?a20 ?l20 ?c20 ?k20 ?a21 ?l21 ?c21 ?k21 ?a22 ?l22 ?c22 ?k22 ?a23 ?l23 ?c23 ?k23 ?a24 ?l24 ?c24 ?k24 ?a25 ?l25 ?c25 ?k25 ?a26 ?i26 ?l26 ?c26 ?k26 ?a27 ?l27 ?c27 ?k27 ?a28 ?l28 ?c28 ?k28 ?a29 ?l29 ?c29 ?k29 ?a30 ?l30 ?c30 ?k30 ?a31 ?l31 ?c31 ?k31 ?a32 ?l32 ?c32 ?k32 ?z0 ?z1 ?z2 ?z3 ?z4 ?z5 ?z6 ?z7 ?z8 ?z9 ?z10 ?z11 ?z12 ?z13 ?z14 ?z15 ?y0 ?y1 ?y2 ?y3 ?y4 ?ex_NoTable ?ek_NoTable ?eb_NoTable ?et_NoTable ?eg_NoTable ?eh_NoTable ?ed_NoTable ?ea_NoTable ?em_NoTable ?q_NoTable_NoGrammar ?q_NoTable_NoText ?q_NoTable_NoRow ?q_NoTable_NoPart ?q_NoTable_NoTree ?q_NoTable_NoChart ?q_NoTable_NoTable ?q_NoTable_NoMachine ?q_NoTable_NoDeed ?q_NoTable_TooMany ?v_NoTable ?s_NoTable_ReadError ?on ?ot ?hb_ReadError ?hd_ReadError ?ht_ReadError ?pg_Table ?od_Table ?po_Table ?sa_Table ?mk_Table ?kc_Table ?nf_Table_states Lw.law_true
    (case g_ReadError => k_is)
    (case g_NoGrammar => k_is)
    (case g_NoText => k_is)
    (case g_NoRow => k_is)
    (case g_NoPart => k_is)
    (case g_NoTree => k_is)
    (case g_NoChart => k_is)
    (case g_NoTable => k_is)
    (case g_NoMachine => k_is)
    (case g_NoDeed => k_is)
    (case g_TooMany => k_is)
    (case g_Table => k_is)
    (case a0 => k_is)
    (case l0 => k_is)
    (case c0 => k_is)
    (case k0 => k_is)
    (case a1 => k_is)
    (case l1 => k_is)
    (case c1 => k_is)
    (case k1 => k_is)
    (case a2 => k_is)
    (case l2 => k_is)
    (case c2 => k_is)
    (case k2 => k_is)
    (case a3 => k_is)
    (case l3 => k_is)
    (case c3 => k_is)
    (case k3 => k_is)
    (case a4 => k_is)
    (case l4 => k_is)
    (case c4 => k_is)
    (case k4 => k_is)
    (case a5 => k_is)
    (case l5 => k_is)
    (case c5 => k_is)
    (case k5 => k_is)
    (case a6 => k_is)
    (case l6 => k_is)
    (case c6 => k_is)
    (case k6 => k_is)
    (case a7 => k_is)
    (case l7 => k_is)
    (case c7 => k_is)
    (case k7 => k_is)
    (case a8 => k_is)
    (case l8 => k_is)
    (case c8 => k_is)
    (case k8 => k_is)
    (case a9 => k_is)
    (case l9 => k_is)
    (case c9 => k_is)
    (case k9 => k_is)
    (case a10 => k_is)
    (case l10 => k_is)
    (case c10 => k_is)
    (case k10 => k_is)
    (case a11 => k_is)
    (case l11 => k_is)
    (case c11 => k_is)
    (case k11 => k_is)
    (case a12 => k_is)
    (case l12 => k_is)
    (case c12 => k_is)
    (case k12 => k_is)
    (case a13 => k_is)
    (case l13 => k_is)
    (case c13 => k_is)
    (case k13 => k_is)
    (case a14 => k_is)
    (case l14 => k_is)
    (case c14 => k_is)
    (case k14 => k_is)
    (case a15 => k_is)
    (case l15 => k_is)
    (case c15 => k_is)
    (case k15 => k_is)
    (case a16 => k_is)
    (case l16 => k_is)
    (case c16 => k_is)
    (case k16 => k_is)
    (case a17 => k_is)
    (case l17 => k_is)
    (case c17 => k_is)
    (case k17 => k_is)
    (case a18 => k_is)
    (case l18 => k_is)
    (case c18 => k_is)
    (case k18 => k_is)
    (case a19 => k_is)
    (case l19 => k_is)
    (case c19 => k_is)
    (case k19 => k_is)
    (case a20 => k_is)
    (case l20 => k_is)
    (case c20 => k_is)
    (case k20 => k_is)
    (case a21 => k_is)
    (case l21 => k_is)
    (case c21 => k_is)
    (case k21 => k_is)
    (case a22 => k_is)
    (case l22 => k_is)
    (case c22 => k_is)
    (case k22 => k_is)
    (case a23 => k_is)
    (case l23 => k_is)
    (case c23 => k_is)
    (case k23 => k_is)
    (case a24 => k_is)
    (case l24 => k_is)
    (case c24 => k_is)
    (case k24 => k_is)
    (case a25 => k_is)
    (case l25 => k_is)
    (case c25 => k_is)
    (case k25 => k_is)
    (case a26 => k_is)
    (case i26 => k_is)
    (case l26 => k_is)
    (case c26 => k_is)
    (case k26 => k_is)
    (case a27 => k_is)
    (case l27 => k_is)
    (case c27 => k_is)
    (case k27 => k_is)
    (case a28 => k_is)
    (case l28 => k_is)
    (case c28 => k_is)
    (case k28 => k_is)
    (case a29 => k_is)
    (case l29 => k_is)
    (case c29 => k_is)
    (case k29 => k_is)
    (case a30 => k_is)
    (case l30 => k_is)
    (case c30 => k_is)
    (case k30 => k_is)
    (case a31 => k_is)
    (case l31 => k_is)
    (case c31 => k_is)
    (case k31 => k_is)
    (case a32 => k_is)
    (case l32 => k_is)
    (case c32 => k_is)
    (case k32 => k_is)
    (case z0 => k_is)
    (case z1 => k_is)
    (case z2 => k_is)
    (case z3 => k_is)
    (case z4 => k_is)
    (case z5 => k_is)
    (case z6 => k_is)
    (case z7 => k_is)
    (case z8 => k_is)
    (case z9 => k_is)
    (case z10 => k_is)
    (case z11 => k_is)
    (case z12 => k_is)
    (case z13 => k_is)
    (case z14 => k_is)
    (case z15 => k_is)
    (case y0 => k_is)
    (case y1 => k_is)
    (case y2 => k_is)
    (case y3 => k_is)
    (case y4 => k_is)
    (case ex_NoTable => k_exc)
    (case ek_NoTable => k_is)
    (case eb_NoTable => k_is)
    (case et_NoTable => k_is)
    (case eg_NoTable => k_is)
    (case eh_NoTable => k_is)
    (case ed_NoTable => k_is)
    (case ea_NoTable => k_is)
    (case em_NoTable => k_is)
    (case q_NoTable_NoGrammar => first | kit_is | k_is)
    (case q_NoTable_NoText => first | kit_is | k_is)
    (case q_NoTable_NoRow => first | kit_is | k_is)
    (case q_NoTable_NoPart => first | kit_is | k_is)
    (case q_NoTable_NoTree => first | kit_is | k_is)
    (case q_NoTable_NoChart => first | kit_is | k_is)
    (case q_NoTable_NoTable => first | kit_is | k_is)
    (case q_NoTable_NoMachine => first | kit_is | k_is)
    (case q_NoTable_NoDeed => first | kit_is | k_is)
    (case q_NoTable_TooMany => first | kit_is | k_is)
    (case v_NoTable => first | kit_is | k_is)
    (case s_NoTable_ReadError => first | k_is | rfl)
    (case on => k_is)
    (case ot => k_is)
    (case hb_ReadError => k_is)
    (case hd_ReadError => k_is)
    (case ht_ReadError => k_is)
    (case pg_Table => k_is)
    (case od_Table => k_is)
    (case po_Table => k_is)
    (case sa_Table => k_is)
    (case mk_Table => k_is)
    (case kc_Table => k_is)
    (case nf_Table_states => k_is)
