import PyProof.Rows.All
import Wide.All
import OpenK.AllK
import HandS.CallSlots
import HandS.Conv
import HandS.Deep
import HandS.Dict
import HandS.ExcIs
import HandS.ExcValue
import HandS.FStrTup
import HandS.ForExc
import HandS.ForMost
import HandS.IsInst
import HandS.Iter
import HandS.NoneIn
import HandS.Rev
import HandS.RevRange
import HandS.SetKeys
import HandS.Strs
import HandS.Style
import HandS.Text
import HandS.TryOnly
import HandS.TupAny
import HandS.TupLe
import HandS.TupLen
import HandS.TupMul
import HandS.TupSets
import HandS.Wide
import HandS.Zip
import KE.DataCmp
import KE.DataEq
import KE.GoesMore
import KE.KDictCopyH
import KE.KDictKeyed
import KE.KDictPairs
import KE.KeyNested
import KE.KxText
import KE.SortData
import PyProof.AutoSeq1
import PyProof.DictMoreH
import PyProof.ReprRoads
import PyProof.Rows.TupTab
import PyProof.StrBlock2
import Wide.FinOn
import PySem.Challenge.RW_paperreader_k13_grammars_refused
set_option Elab.async false
set_option linter.all false
set_option maxRecDepth 100000
set_option maxHeartbeats 4000000
namespace VI
open PySem PySem.Spec PyProof.Rows L2
inductive D where
  | non | bl (b : Bool) | int (i : Int) | str (x : Str) | ty (n : String) | cl (c : String) | ref (n : Nat)
  | tup (ds : List D) | lst (ds : List D) | dic (kvs : List (D × D)) | obj (c : String) (fs : List (Str × D))
mutual
def D.beq : D → D → Bool
  | .non, .non => true
  | .bl a, .bl b => decide (a = b)
  | .int a, .int b => decide (a = b)
  | .str a, .str b => decide (a = b)
  | .ty a, .ty b => decide (a = b)
  | .cl a, .cl b => decide (a = b)
  | .ref a, .ref b => decide (a = b)
  | .tup a, .tup b => D.beqs a b
  | .lst a, .lst b => D.beqs a b
  | .dic a, .dic b => D.beqK a b
  | .obj c a, .obj d b => decide (c = d) && D.beqF a b
  | _, _ => false
def D.beqs : List D → List D → Bool
  | [], [] => true
  | a :: r, b :: q => D.beq a b && D.beqs r q
  | _, _ => false
def D.beqK : List (D × D) → List (D × D) → Bool
  | [], [] => true
  | (a, x) :: r, (b, y) :: q => (D.beq a b && D.beq x y) && D.beqK r q
  | _, _ => false
def D.beqF : List (Str × D) → List (Str × D) → Bool
  | [], [] => true
  | (a, x) :: r, (b, y) :: q => (decide (a = b) && D.beq x y) && D.beqF r q
  | _, _ => false
end
mutual
theorem D.beq_refl : ∀ a : D, D.beq a a = true
  | .non => by simp [D.beq]
  | .bl a => by simp [D.beq]
  | .int a => by simp [D.beq]
  | .str a => by simp [D.beq]
  | .ty a => by simp [D.beq]
  | .cl a => by simp [D.beq]
  | .ref a => by simp [D.beq]
  | .tup a => by simp only [D.beq]; exact D.beqs_refl a
  | .lst a => by simp only [D.beq]; exact D.beqs_refl a
  | .dic a => by simp only [D.beq]; exact D.beqK_refl a
  | .obj c a => by simp only [D.beq, decide_true, Bool.true_and]; exact D.beqF_refl a
theorem D.beqs_refl : ∀ a : List D, D.beqs a a = true
  | [] => by simp [D.beqs]
  | a :: r => by simp only [D.beqs, D.beq_refl a, D.beqs_refl r, Bool.and_self]
theorem D.beqK_refl : ∀ a : List (D × D), D.beqK a a = true
  | [] => by simp [D.beqK]
  | (a, x) :: r => by simp only [D.beqK, D.beq_refl a, D.beq_refl x, D.beqK_refl r, Bool.and_self]
theorem D.beqF_refl : ∀ a : List (Str × D), D.beqF a a = true
  | [] => by simp [D.beqF]
  | (a, x) :: r => by simp only [D.beqF, D.beq_refl x, D.beqF_refl r, decide_true, Bool.and_self]
end
mutual
theorem D.beq_eq : ∀ a b : D, D.beq a b = true → a = b
  | .non, b, h => by cases b <;> first | rfl | simp [D.beq] at h
  | .bl a, b, h => by cases b <;> simp [D.beq] at h <;> rw [h]
  | .int a, b, h => by cases b <;> simp [D.beq] at h <;> rw [h]
  | .str a, b, h => by cases b <;> simp [D.beq] at h <;> rw [h]
  | .ty a, b, h => by cases b <;> simp [D.beq] at h <;> rw [h]
  | .cl a, b, h => by cases b <;> simp [D.beq] at h <;> rw [h]
  | .ref a, b, h => by cases b <;> simp [D.beq] at h <;> rw [h]
  | .tup a, b, h => by cases b <;> simp [D.beq] at h; rw [D.beqs_eq a _ h]
  | .lst a, b, h => by cases b <;> simp [D.beq] at h; rw [D.beqs_eq a _ h]
  | .dic a, b, h => by cases b <;> simp [D.beq] at h; rw [D.beqK_eq a _ h]
  | .obj c a, b, h => by cases b <;> simp [D.beq] at h; rw [h.1, D.beqF_eq a _ h.2]
theorem D.beqs_eq : ∀ a b : List D, D.beqs a b = true → a = b
  | [], b, h => by cases b <;> first | rfl | simp [D.beqs] at h
  | a :: r, b, h => by
    cases b with
    | nil => simp [D.beqs] at h
    | cons b q =>
      simp [D.beqs] at h
      rw [D.beq_eq a b h.1, D.beqs_eq r q h.2]
theorem D.beqK_eq : ∀ a b : List (D × D), D.beqK a b = true → a = b
  | [], b, h => by cases b <;> first | rfl | simp [D.beqK] at h
  | (a, x) :: r, b, h => by
    cases b with
    | nil => simp [D.beqK] at h
    | cons b q =>
      obtain ⟨b, y⟩ := b
      simp [D.beqK] at h
      rw [D.beq_eq a b h.1.1, D.beq_eq x y h.1.2, D.beqK_eq r q h.2]
theorem D.beqF_eq : ∀ a b : List (Str × D), D.beqF a b = true → a = b
  | [], b, h => by cases b <;> first | rfl | simp [D.beqF] at h
  | (a, x) :: r, b, h => by
    cases b with
    | nil => simp [D.beqF] at h
    | cons b q =>
      obtain ⟨b, y⟩ := b
      simp [D.beqF] at h
      rw [h.1.1, D.beq_eq x y h.1.2, D.beqF_eq r q h.2]
end
instance : DecidableEq D := fun a b => if h : D.beq a b = true then isTrue (D.beq_eq a b h) else isFalse fun e => h (e ▸ D.beq_refl a)

abbrev Store := List (Option D)
abbrev DEnv := List (Option D)
/-- what an expression comes to: a value, or a new container that nobody else holds -/
inductive Wv where
  | val (d : D) | new (d : D)
def Wv.d : Wv → D
  | .val d => d
  | .new d => d
structure EX where
  cls : String
  row : Option D
inductive Res (α : Type) where
  | ok (a : α) (st : Store) | exc (x : EX) (st : Store) | stuck
def Res.bind {α β : Type} (r : Res α) (k : α → Store → Res β) : Res β :=
  match r with
  | .ok a st => k a st
  | .exc x st => .exc x st
  | .stuck => .stuck

/-- what the program's text has: the written part, the classes by name -/
structure Gx where
  K : PySem.W.Frag
  cm : String → Option Addr
  w : World

def Live (as : List Addr) (st : Store) (p : Addr) : Prop := ∃ (i : Nat) (d : D), as[i]? = some p ∧ st[i]? = some (some d)
def notMut : HO → Bool
  | .tup _ => true
  | .frz _ _ => true
  | .own _ => true
  | .met _ _ => true
  | .rng _ _ => true
  | .tbl _ => true
  | _ => false
def KLst (K : PySem.W.Frag) (p : Addr) (vs : List V) : Prop :=
  ∃ (o : Obj) (its : Array Value) (n : Nat), K.lookup p = some o ∧ o.cls = .type "list" ∧ o.dict = none ∧ o.data = .seq its n ∧ its.size ≤ sizeLine ∧ Vals vs its.toList

/-- an error of the class cls, made and raised once, at a; d: its own dict -/
def ErrO (cls : Value) (d : Option Addr) (a : Addr) : HO := .ext fun h => ∃ (oe : Obj) (vs : Array Value), h.get? a = some oe ∧ Zc cls d oe ∧ oe.data = .fields vs
theorem errO_ok {P : Program} {w : World} {H : Hp} {h : Heap} {a : Addr} {cls : Value} {d : Option Addr} {oe : Obj} {vs : Array Value} (e : h.get? a = some oe) (z : Zc cls d oe) (f : oe.data = .fields vs) : ObjOk P w H h a (ErrO cls d a) :=
  ⟨⟨oe, vs, e, z, f⟩, ⟨oe, e⟩, fun _ _ ⟨o, v, q, r⟩ k => ⟨o, v, k o q, r⟩⟩
/-! ### dicts -/
mutual
def dOf : NestedKey → D
  | .none => .non
  | .num i => .int i
  | .text x => .str x
  | .tup ks => .tup (dOfs ks)
def dOfs : List NestedKey → List D
  | [] => []
  | k :: ks => dOf k :: dOfs ks
end
/-- a key that is an int or a text -/
def keyD : Key → D
  | .inl i => .int i
  | .inr x => .str x
/-- a dict whose keys are tuples: its entries -/
def DicN (w : World) (xs : List (NestedKey × Addr × Value)) (a : Addr) : HO := .ext fun h => (a == sysModules) = false ∧ xs.length ≤ sizeLine ∧ (xs.map (·.1)).Nodup ∧ (∀ x ∈ xs, x.1.depth ≤ 8) ∧
  ∃ (o : Obj) (es : Array DictEntry) (ep : Nat), h.get? a = some o ∧ o.ExactDict ∧ o.data = .dict es ep ∧ es.toList = xs.map fun x => (⟨x.1.hash w, .ref x.2.1, x.2.2⟩ : DictEntry)
mutual
inductive RelD (G : Gx) (as : List Addr) (L : Addr → Prop) (H : Hp) : D → V → Prop where
  | non : RelD G as L H .non .non
  | bl (b : Bool) : RelD G as L H (.bl b) (.bl b)
  | int (i : Int) : RelD G as L H (.int i) (.int i)
  | str (x : Str) : RelD G as L H (.str x) (.str x)
  | ty (n : String) : RelD G as L H (.ty n) (.ty n)
  | cl {c : String} {a : Addr} : G.cm c = some a → RelD G as L H (.cl c) (.ref a)
  | ref {n : Nat} {a : Addr} : as[n]? = some a → RelD G as L H (.ref n) (.ref a)
  | tup {ds : List D} {p : Addr} {vs : List V} : SqT G.K H p vs → RelDs G as L H ds vs → RelD G as L H (.tup ds) (.ref p)
  | lst {ds : List D} {p : Addr} {vs : List V} : Rd H p (.lst vs) → ¬ L p → RelDs G as L H ds vs → RelD G as L H (.lst ds) (.ref p)
  | lstK {ds : List D} {p : Addr} {vs : List V} : KLst G.K p vs → RelDs G as L H ds vs → RelD G as L H (.lst ds) (.ref p)
  | err {c : String} {C a : Addr} : G.cm c = some C → H a = some (ErrO (.ref C) none a) → ¬ L a → RelD G as L H (.dic [(.cl c, .non)]) (.ref a)
  | errR {c : String} {C a p : Addr} {d : D} {v : V} : G.cm c = some C → H a = some (ErrO (.ref C) (some p) a) → ¬ L a → H p = some (.xd [("row", v)]) → ¬ L p → RelD G as L H d v → RelD G as L H (.dic [(.cl c, .tup [d])]) (.ref a)
  | dic {kvs : List (D × D)} {p : Addr} : DicR G as L H kvs p → ¬ L p → RelD G as L H (.dic kvs) (.ref p)
  | obj {c : String} {C p dx : Addr} {fs : List (Str × D)} {vfs : List (Str × V)} : G.cm c = some C → H p = some (.ins C dx vfs) → H dx = some (.own p) → ¬ L p → RelFs G as L H fs vfs → RelD G as L H (.obj c fs) (.ref p)
inductive RelDs (G : Gx) (as : List Addr) (L : Addr → Prop) (H : Hp) : List D → List V → Prop where
  | nil : RelDs G as L H [] []
  | cons {d : D} {v : V} {ds : List D} {vs : List V} : RelD G as L H d v → RelDs G as L H ds vs → RelDs G as L H (d :: ds) (v :: vs)
/-- a dict at an address: its keys are ints and texts, or tuples -/
inductive DicR (G : Gx) (as : List Addr) (L : Addr → Prop) (H : Hp) : List (D × D) → Addr → Prop where
  | k {kvs : List (D × D)} {ks : List Key} {vs : List V} {a : Addr} : H a = some (.dK (ks.zip vs)) → kvs.map (·.1) = ks.map keyD → RelDs G as L H (kvs.map (·.2)) vs → DicR G as L H kvs a
  | n {kvs : List (D × D)} {xs : List (NestedKey × Addr × Value)} {vs : List V} {a : Addr} : H a = some (DicN G.w xs a) → kvs ≠ [] → kvs.map (·.1) = xs.map (fun x => dOf x.1) → RelDs G as L H (kvs.map (·.1)) (xs.map fun x => V.ref x.2.1) →
      RelDs G as L H (kvs.map (·.2)) vs → Vals vs (xs.map fun x => x.2.2) → DicR G as L H kvs a
inductive RelFs (G : Gx) (as : List Addr) (L : Addr → Prop) (H : Hp) : List (Str × D) → List (Str × V) → Prop where
  | nil : RelFs G as L H [] []
  | cons {f : Str} {d : D} {v : V} {fs : List (Str × D)} {vs : List (Str × V)} : RelD G as L H d v → RelFs G as L H fs vs → RelFs G as L H ((f, d) :: fs) ((f, v) :: vs)
end

structure Ext (as : List Addr) (st : Store) (H : Hp) (as' : List Addr) (st' : Store) (H' : Hp) : Prop where
  pre : as <+: as'
  new : ∀ (i : Nat) (a : Addr), as'[i]? = some a → as.length ≤ i → H a = none
  dead : ∀ i : Nat, st[i]? = some none → st'[i]? = some none
  len : st.length ≤ st'.length
  keep : ∀ b o, H b = some o → (¬ Live as st b ∨ notMut o = true) → H' b = some o
  there : ∀ b o, H b = some o → ∃ o', H' b = some o'

section
variable {G : Gx} {as as' as2 : List Addr} {st st' st2 : Store} {H H' H2 : Hp} {L L' : Addr → Prop}
theorem pre_get {i : Nat} {a : Addr} (h : as <+: as') (e : as[i]? = some a) : as'[i]? = some a := by
  obtain ⟨m, rfl⟩ := h
  obtain ⟨hi, _⟩ := List.getElem?_eq_some_iff.mp e
  rw [List.getElem?_append_left hi]; exact e
theorem Ext.back (e : Ext as st H as' st' H') (hl : as.length = st.length) {b : Addr} (hb : Live as' st' b) (hH : H b ≠ none) : Live as st b := by
  obtain ⟨i, d, h1, h2⟩ := hb
  by_cases hi : as.length ≤ i
  · exact absurd (e.new i b h1 hi) hH
  · have hi' : i < as.length := by omega
    obtain ⟨m, rfl⟩ := e.pre
    rw [List.getElem?_append_left hi'] at h1
    cases q : st[i]? with
    | none =>
      have := List.getElem?_eq_none_iff.mp q
      omega
    | some x =>
      cases x with
      | none =>
        rw [e.dead i q] at h2
        cases h2
      | some x => exact ⟨i, x, h1, q⟩
theorem Ext.rfl' : Ext as st H as st H := by
  refine ⟨List.prefix_refl _, fun i a h hi => ?_, fun _ h => h, Nat.le_refl _, fun _ _ h _ => h, fun _ o h => ⟨o, h⟩⟩
  rw [List.getElem?_eq_none_iff.mpr hi] at h
  cases h
theorem Ext.fresh (e : Ext as st H as' st' H') {p : Addr} (h : H' p = none) : H p = none := by
  cases q : H p with
  | none => rfl
  | some o =>
    obtain ⟨o', h'⟩ := e.there p o q
    rw [h] at h'; cases h'
theorem Ext.trans (a : Ext as st H as' st' H') (b : Ext as' st' H' as2 st2 H2) (hl : as.length = st.length) : Ext as st H as2 st2 H2 := by
  refine ⟨a.pre.trans b.pre, fun i x h hi => ?_, fun i h => b.dead i (a.dead i h), Nat.le_trans a.len b.len, fun c o h k => ?_, fun c o h => ?_⟩
  · by_cases h1 : as'.length ≤ i
    · exact a.fresh (b.new i x h h1)
    · obtain ⟨m, rfl⟩ := b.pre
      rw [List.getElem?_append_left (by omega)] at h
      exact a.new i x h hi
  · refine b.keep c o (a.keep c o h k) ?_
    rcases k with k | k
    · exact .inl fun z => k (a.back hl z (by rw [h]; exact fun q => nomatch q))
    · exact .inr k
  · obtain ⟨o1, h1⟩ := a.there c o h
    exact b.there c o1 h1

theorem sqT_mono {K : PySem.W.Frag} {p : Addr} {vs : List V} (hk : ∀ b o, H b = some o → (¬ L b ∨ notMut o = true) → H' b = some o) (h : SqT K H p vs) : SqT K H' p vs := by
  rcases h with (h | ⟨o, h⟩) | h
  · exact .inl (.inl (hk _ _ h (.inr rfl)))
  · exact .inl (.inr ⟨o, hk _ _ h (.inr rfl)⟩)
  · exact .inr h
mutual
theorem RelD.mono (hp : as <+: as') (hL : ∀ b, H b ≠ none → ¬ L b → ¬ L' b) (hk : ∀ b o, H b = some o → (¬ L b ∨ notMut o = true) → H' b = some o) : ∀ {d : D} {v : V}, RelD G as L H d v → RelD G as' L' H' d v
  | _, _, .non => .non
  | _, _, .bl b => .bl b
  | _, _, .int i => .int i
  | _, _, .str x => .str x
  | _, _, .ty n => .ty n
  | _, _, .cl h => .cl h
  | _, _, .ref h => .ref (pre_get hp h)
  | _, _, .tup h r => .tup (sqT_mono (L := L) hk h) (RelDs.mono hp hL hk r)
  | _, _, .lst h n r => .lst (by
      rcases h with h | ⟨o, h⟩
      · exact .inl (hk _ _ h (.inl n))
      · exact .inr ⟨o, hk _ _ h (.inr rfl)⟩) (hL _ (by
      rcases h with h | ⟨o, h⟩ <;> rw [h] <;> exact fun q => nomatch q) n) (RelDs.mono hp hL hk r)
  | _, _, .lstK h r => .lstK h (RelDs.mono hp hL hk r)
  | _, _, .err c h n => .err c (hk _ _ h (.inl n)) (hL _ (by rw [h]; exact fun q => nomatch q) n)
  | _, _, .errR c h n hp np r => .errR c (hk _ _ h (.inl n)) (hL _ (by rw [h]; exact fun q => nomatch q) n) (hk _ _ hp (.inl np)) (hL _ (by rw [hp]; exact fun q => nomatch q) np) (RelD.mono ‹_› hL hk r)
  | _, _, .dic h n => .dic (DicR.mono hp hL hk (by
      obtain ⟨o, e⟩ : ∃ o, H _ = some o := by cases h <;> exact ⟨_, ‹_›⟩
      rw [hk _ _ e (.inl n), e]) h) (hL _ (by cases h with | k e _ _ => (rw [e]; exact fun q => nomatch q) | n e _ _ _ _ _ => (rw [e]; exact fun q => nomatch q)) n)
  | _, _, .obj c h1 h2 n r => .obj c (hk _ _ h1 (.inl n)) (hk _ _ h2 (.inr rfl)) (hL _ (by rw [h1]; exact fun q => nomatch q) n) (RelFs.mono hp hL hk r)
theorem RelDs.mono (hp : as <+: as') (hL : ∀ b, H b ≠ none → ¬ L b → ¬ L' b) (hk : ∀ b o, H b = some o → (¬ L b ∨ notMut o = true) → H' b = some o) : ∀ {ds : List D} {vs : List V}, RelDs G as L H ds vs → RelDs G as' L' H' ds vs
  | _, _, .nil => .nil
  | _, _, .cons r t => .cons (RelD.mono hp hL hk r) (RelDs.mono hp hL hk t)
theorem DicR.mono (hp : as <+: as') (hL : ∀ b, H b ≠ none → ¬ L b → ¬ L' b) (hk : ∀ b o, H b = some o → (¬ L b ∨ notMut o = true) → H' b = some o) : ∀ {kvs : List (D × D)} {a : Addr}, H' a = H a → DicR G as L H kvs a → DicR G as' L' H' kvs a
  | _, _, ha, .k h e r => .k (ha.trans h) e (RelDs.mono hp hL hk r)
  | _, _, ha, .n h z e r1 r2 v => .n (ha.trans h) z e (RelDs.mono hp hL hk r1) (RelDs.mono hp hL hk r2) v
theorem RelFs.mono (hp : as <+: as') (hL : ∀ b, H b ≠ none → ¬ L b → ¬ L' b) (hk : ∀ b o, H b = some o → (¬ L b ∨ notMut o = true) → H' b = some o) : ∀ {ds : List (Str × D)} {vs : List (Str × V)}, RelFs G as L H ds vs → RelFs G as' L' H' ds vs
  | _, _, .nil => .nil
  | _, _, .cons r t => .cons (RelD.mono hp hL hk r) (RelFs.mono hp hL hk t)
end
end

/-- a container at an address, with its content -/
def CellR (G : Gx) (as : List Addr) (L : Addr → Prop) (H : Hp) (a : Addr) : D → Prop
  | .lst ds => ∃ vs, H a = some (.lst vs) ∧ RelDs G as L H ds vs
  | .dic kvs => DicR G as L H kvs a
  | .obj c fs => ∃ C dx vfs, G.cm c = some C ∧ H a = some (.ins C dx vfs) ∧ H dx = some (.own a) ∧ RelFs G as L H fs vfs
  | _ => False
structure StRL (G : Gx) (as : List Addr) (L : Addr → Prop) (st : Store) (H : Hp) : Prop where
  len : as.length = st.length
  nd : as.Nodup
  cells : ∀ (i : Nat) (d : D), st[i]? = some (some d) → ∃ a, as[i]? = some a ∧ CellR G as L H a d
  there : ∀ (i : Nat) (a : Addr), as[i]? = some a → H a ≠ none
abbrev StR (G : Gx) (as : List Addr) (st : Store) (H : Hp) : Prop := StRL G as (Live as st) st H
/-- H0: ahead of it; a new one is held by nobody -/
def RelW (G : Gx) (H0 : Hp) (as : List Addr) (st : Store) (H : Hp) : Wv → V → Prop
  | .val d, v => RelD G as (Live as st) H d v
  | .new d, v => ∃ p, v = .ref p ∧ H0 p = none ∧ (∀ i : Nat, as[i]? ≠ some p) ∧ CellR G as (fun b => Live as st b ∨ b = p) H p d ∧ StRL G as (fun b => Live as st b ∨ b = p) st H
def EnvR (G : Gx) (as : List Addr) (L : Addr → Prop) (H : Hp) (env : DEnv) (σ : L2.St) : Prop :=
  env.length = σ.length ∧ ∀ (i : Nat) (d : D), env[i]? = some (some d) → ∃ v, σ[i]? = some (some v) ∧ RelD G as L H d v
section
variable {G : Gx} {as as' as2 : List Addr} {st st' st2 : Store} {H H' H2 H0 : Hp} {L L' : Addr → Prop}
theorem DicR.isMut {a : Addr} {kvs : List (D × D)} (h : DicR G as L H kvs a) : ∃ o, H a = some o ∧ notMut o = false := by
  cases h with
  | k e _ _ => exact ⟨_, e, rfl⟩
  | n e _ _ _ _ _ => exact ⟨_, e, rfl⟩
theorem CellR.there {a : Addr} {d : D} (h : CellR G as L H a d) : H a ≠ none := by
  cases d with
  | lst ds => obtain ⟨vs, e, _⟩ := h; rw [e]; exact fun q => nomatch q
  | dic kvs => obtain ⟨o, e, _⟩ := (show DicR G as L H kvs a from h).isMut; rw [e]; exact fun q => nomatch q
  | obj c fs => obtain ⟨C, dx, vfs, _, e, _⟩ := h; rw [e]; exact fun q => nomatch q
  | _ => exact False.elim h
theorem CellR.isMut {a : Addr} {d : D} (h : CellR G as L H a d) : ∃ o, H a = some o ∧ notMut o = false := by
  cases d with
  | lst ds => obtain ⟨vs, e, _⟩ := h; exact ⟨_, e, rfl⟩
  | dic kvs => exact (show DicR G as L H kvs a from h).isMut
  | obj c fs => obtain ⟨C, dx, vfs, _, e, _⟩ := h; exact ⟨_, e, rfl⟩
  | _ => exact False.elim h
theorem CellR.mono {a : Addr} {d : D} (hp : as <+: as') (hL : ∀ b, H b ≠ none → ¬ L b → ¬ L' b) (hk : ∀ b o, H b = some o → (¬ L b ∨ notMut o = true) → H' b = some o) (ha : H' a = H a) (h : CellR G as L H a d) : CellR G as' L' H' a d := by
  cases d with
  | lst ds => obtain ⟨vs, e, r⟩ := h; exact ⟨vs, ha.trans e, r.mono hp hL hk⟩
  | dic kvs => exact (show DicR G as L H kvs a from h).mono hp hL hk ha
  | obj c fs => obtain ⟨C, dx, vfs, c, e, e2, r⟩ := h; exact ⟨C, dx, vfs, c, ha.trans e, hk _ _ e2 (.inr rfl), r.mono hp hL hk⟩
  | _ => exact False.elim h
/-- a container that is no cell, as a value -/
theorem CellR.val {a : Addr} {d : D} (h : CellR G as L H a d) (n : ¬ L a) : RelD G as L H d (.ref a) := by
  cases d with
  | lst ds => obtain ⟨vs, e, r⟩ := h; exact .lst (.inl e) n r
  | dic kvs => exact .dic h n
  | obj c fs => obtain ⟨C, dx, vfs, c, e, e2, r⟩ := h; exact .obj c e e2 n r
  | _ => exact False.elim h
theorem CellR.lessL {a : Addr} {d : D} (h : CellR G as L H a d) (hL : ∀ b, L' b → L b) : CellR G as L' H a d :=
  h.mono (List.prefix_refl _) (fun b _ n z => n (hL b z)) (fun b o e k => e) rfl
theorem RelD.lessL {d : D} {v : V} (h : RelD G as L H d v) (hL : ∀ b, L' b → L b) : RelD G as L' H d v :=
  h.mono (List.prefix_refl _) (fun b _ n z => n (hL b z)) (fun b o e k => e)
theorem RelDs.lessL {d : List D} {v : List V} (h : RelDs G as L H d v) (hL : ∀ b, L' b → L b) : RelDs G as L' H d v :=
  h.mono (List.prefix_refl _) (fun b _ n z => n (hL b z)) (fun b o e k => e)
theorem RelW.d {w : Wv} {v : V} (h : RelW G H0 as st H w v) : RelD G as (Live as st) H w.d v := by
  cases w with
  | val d => exact h
  | new d => obtain ⟨p, rfl, _, n, c, _⟩ := h; exact (c.lessL fun b z => .inl z).val fun ⟨i, _, h1, _⟩ => n i h1

theorem Ext.hL (e : Ext as st H as' st' H') (hl : as.length = st.length) : ∀ b, H b ≠ none → ¬ Live as st b → ¬ Live as' st' b := fun b hb n z => n (e.back hl z hb)
theorem RelD.ext {d : D} {v : V} (h : RelD G as (Live as st) H d v) (e : Ext as st H as' st' H') (hl : as.length = st.length) : RelD G as' (Live as' st') H' d v := h.mono e.pre (e.hL hl) e.keep
theorem RelDs.ext {d : List D} {v : List V} (h : RelDs G as (Live as st) H d v) (e : Ext as st H as' st' H') (hl : as.length = st.length) : RelDs G as' (Live as' st') H' d v := h.mono e.pre (e.hL hl) e.keep
theorem RelFs.ext {d : List (Str × D)} {v : List (Str × V)} (h : RelFs G as (Live as st) H d v) (e : Ext as st H as' st' H') (hl : as.length = st.length) : RelFs G as' (Live as' st') H' d v := h.mono e.pre (e.hL hl) e.keep
/-- fresh for what came ahead -/
theorem RelW.from {w : Wv} {v : V} {H1 : Hp} (h : RelW G H1 as st H w v) (e : ∀ p, H1 p = none → H0 p = none) : RelW G H0 as st H w v := by
  cases w with
  | val d => exact h
  | new d => obtain ⟨p, rfl, h0, r⟩ := h; exact ⟨p, rfl, e p h0, r⟩
theorem EnvR.ext {env : DEnv} {σ : L2.St} (h : EnvR G as (Live as st) H env σ) (e : Ext as st H as' st' H') (hl : as.length = st.length) : EnvR G as' (Live as' st') H' env σ :=
  ⟨h.1, fun i d hi => let ⟨v, h1, h2⟩ := h.2 i d hi; ⟨v, h1, h2.ext e hl⟩⟩
theorem EnvR.set {env : DEnv} {σ : L2.St} (h : EnvR G as L H env σ) {d : D} {v : V} (r : RelD G as L H d v) (i : Nat) : EnvR G as L H (env.set i (some d)) (σ.set i (some v)) := by
  refine ⟨by simpa using h.1, fun j d' hj => ?_⟩
  by_cases hij : i = j
  · subst hij
    by_cases hi : i < env.length
    · rw [List.getElem?_set_self hi] at hj
      cases hj
      exact ⟨v, by rw [List.getElem?_set_self (by rw [← h.1]; exact hi)], r⟩
    · have q : (env.set i (some d))[i]? = none := List.getElem?_eq_none_iff.mpr (by simp; omega)
      rw [q] at hj; cases hj
  · rw [List.getElem?_set_ne hij] at hj
    obtain ⟨v', h1, h2⟩ := h.2 j d' hj
    exact ⟨v', by rw [List.getElem?_set_ne hij]; exact h1, h2⟩
theorem EnvR.unset {env : DEnv} {σ : L2.St} (h : EnvR G as L H env σ) (i : Nat) : EnvR G as L H (env.set i none) (σ.set i none) := by
  refine ⟨by simpa using h.1, fun j d' hj => ?_⟩
  by_cases hij : i = j
  · subst hij
    by_cases hi : i < env.length
    · rw [List.getElem?_set_self hi] at hj
      cases hj
    · have q : (env.set i none)[i]? = none := List.getElem?_eq_none_iff.mpr (by simp; omega)
      rw [q] at hj; cases hj
  · rw [List.getElem?_set_ne hij] at hj
    obtain ⟨v', h1, h2⟩ := h.2 j d' hj
    exact ⟨v', by rw [List.getElem?_set_ne hij]; exact h1, h2⟩
def wipeD (env : DEnv) : List Nat → DEnv
  | [] => env
  | v :: vs => (wipeD env vs).set v none
theorem EnvR.wipe {env : DEnv} {σ : L2.St} (h : EnvR G as L H env σ) : ∀ vs : List Nat, EnvR G as L H (wipeD env vs) (wipe σ vs)
  | [] => h
  | v :: vs => (EnvR.wipe h vs).unset v

/-! ### new objects, written objects -/
/-- something new is laid that is no cell -/
theorem Ext.lay {p : Addr} {o : HO} (hp : H p = none) : Ext as st H as st (upd H p o) := by
  refine ⟨List.prefix_refl _, fun i a h hi => ?_, fun _ h => h, Nat.le_refl _, fun b u h _ => ?_, fun b u h => ?_⟩
  · rw [List.getElem?_eq_none_iff.mpr hi] at h
    cases h
  · rw [upd_ne (ne_of_none h hp)]; exact h
  · exact ⟨u, by rw [upd_ne (ne_of_none h hp)]; exact h⟩
theorem notLive {p : Addr} (s : StRL G as L st H) (hp : H p = none) : ∀ i : Nat, as[i]? ≠ some p := fun i h1 => s.there i p h1 hp
theorem StR.lay (s : StR G as st H) {p : Addr} {o : HO} (hp : H p = none) : StRL G as (fun b => Live as st b ∨ b = p) st (upd H p o) := by
  refine ⟨s.len, s.nd, fun i d h => ?_, fun i a h => ?_⟩
  · obtain ⟨a, h1, c⟩ := s.cells i d h
    have ne : a ≠ p := fun q => by
      have := c.there
      rw [q] at this; exact this hp
    refine ⟨a, h1, c.mono (List.prefix_refl _) (fun b hb n z => ?_) (fun b u e _ => by rw [upd_ne (ne_of_none e hp)]; exact e) (upd_ne ne)⟩
    rcases z with z | z
    · exact n z
    · exact hb (by rw [z]; exact hp)
  · have := s.there i a h
    intro q
    by_cases ha : a = p
    · rw [ha] at this; exact this hp
    · rw [upd_ne ha] at q; exact this q
theorem StRL.less {L' : Addr → Prop} (s : StRL G as L st H) (h : ∀ b, L' b → L b) : StRL G as L' st H :=
  ⟨s.len, s.nd, fun i d e => let ⟨a, h1, c⟩ := s.cells i d e; ⟨a, h1, c.lessL h⟩, s.there⟩
theorem StR.laid (s : StR G as st H) {p : Addr} {o : HO} (hp : H p = none) : StR G as st (upd H p o) := (s.lay hp).less fun _ z => .inl z
/-- a container that is no cell becomes one -/
theorem Ext.reg {p : Addr} {d : D} (hl : as.length = st.length) (hp : H0 p = none) (e : Ext as st H0 as st H) : Ext as st H0 (as ++ [p]) (st ++ [some d]) H := by
  refine ⟨⟨[p], rfl⟩, fun i a h hi => ?_, fun i h => ?_, by simp, e.keep, e.there⟩
  · by_cases hi2 : i = as.length
    · subst hi2
      simp at h
      rw [← h]; exact hp
    · rw [List.getElem?_append_right (by omega)] at h
      have : ([p] : List Addr)[i - as.length]? = none := List.getElem?_eq_none_iff.mpr (by simp; omega)
      rw [this] at h; cases h
  · obtain ⟨hi, _⟩ := List.getElem?_eq_some_iff.mp h
    rw [List.getElem?_append_left hi]; exact h
theorem live_reg (hl : as.length = st.length) {p b : Addr} {d : D} : Live (as ++ [p]) (st ++ [some d]) b → Live as st b ∨ b = p := by
  rintro ⟨i, d', h1, h2⟩
  by_cases hi : i < as.length
  · rw [List.getElem?_append_left hi] at h1
    rw [List.getElem?_append_left (by omega)] at h2
    exact .inl ⟨i, d', h1, h2⟩
  · rw [List.getElem?_append_right (by omega)] at h1
    by_cases h0 : i - as.length = 0
    · rw [h0] at h1
      exact .inr (Option.some.inj h1).symm
    · rw [show ([p] : List Addr)[i - as.length]? = none from List.getElem?_eq_none_iff.mpr (by simp; omega)] at h1
      cases h1
theorem StRL.reg {p : Addr} {d : D} (s : StRL G as (fun b => Live as st b ∨ b = p) st H) (n : ∀ i : Nat, as[i]? ≠ some p) (c : CellR G as (fun b => Live as st b ∨ b = p) H p d) : StR G (as ++ [p]) (st ++ [some d]) H := by
  have hp : as <+: as ++ [p] := ⟨[p], rfl⟩
  have up : ∀ {a : Addr} {d' : D}, CellR G as (fun b => Live as st b ∨ b = p) H a d' → CellR G (as ++ [p]) (Live (as ++ [p]) (st ++ [some d])) H a d' := fun c =>
    c.mono hp (fun b _ nb z => nb (live_reg s.len z)) (fun b o e _ => e) rfl
  refine ⟨by simp [s.len], ?_, fun i d' h => ?_, fun i a h => ?_⟩
  · rw [List.nodup_append]
    refine ⟨s.nd, by simp, fun a ha b hb => ?_⟩
    rintro rfl
    obtain ⟨i, hi⟩ := List.getElem?_of_mem ha
    simp at hb
    rw [hb] at hi
    exact n i hi
  · by_cases hi : i < st.length
    · rw [List.getElem?_append_left hi] at h
      obtain ⟨a, h1, c'⟩ := s.cells i d' h
      exact ⟨a, pre_get hp h1, up c'⟩
    · rw [List.getElem?_append_right (by omega)] at h
      by_cases h0 : i - st.length = 0
      · rw [h0] at h
        have e : some d = some d' := Option.some.inj h
        cases e
        refine ⟨p, ?_, up c⟩
        rw [List.getElem?_append_right (by have := s.len; omega), show i - as.length = 0 by have := s.len; omega]
        rfl
      · rw [show ([some d] : Store)[i - st.length]? = none from List.getElem?_eq_none_iff.mpr (by simp; omega)] at h
        cases h
  · by_cases hi : i < as.length
    · rw [List.getElem?_append_left hi] at h
      exact s.there i a h
    · rw [List.getElem?_append_right (by omega)] at h
      by_cases h0 : i - as.length = 0
      · rw [h0] at h
        have e : p = a := Option.some.inj h
        rw [← e]; exact c.there
      · rw [show ([p] : List Addr)[i - as.length]? = none from List.getElem?_eq_none_iff.mpr (by simp; omega)] at h
        cases h
/-- a cell is written -/
theorem live_set {i : Nat} {d d0 : D} {b : Addr} (hi : st[i]? = some (some d0)) : Live as (st.set i (some d)) b ↔ Live as st b := by
  obtain ⟨hlt, _⟩ := List.getElem?_eq_some_iff.mp hi
  constructor
  · rintro ⟨j, d', h1, h2⟩
    by_cases hj : i = j
    · subst hj; exact ⟨i, d0, h1, hi⟩
    · rw [List.getElem?_set_ne hj] at h2
      exact ⟨j, d', h1, h2⟩
  · rintro ⟨j, d', h1, h2⟩
    by_cases hj : i = j
    · subst hj; exact ⟨i, d, h1, List.getElem?_set_self hlt⟩
    · exact ⟨j, d', h1, by rw [List.getElem?_set_ne hj]; exact h2⟩
theorem StR.write {i : Nat} {a : Addr} {d0 d : D} {o : HO} (s : StR G as st H) (hi : st[i]? = some (some d0)) (ha : as[i]? = some a) (c : CellR G as (Live as st) (upd H a o) a d) :
    StR G as (st.set i (some d)) (upd H a o) ∧ Ext as st H as (st.set i (some d)) (upd H a o) := by
  have la : Live as st a := ⟨i, d0, ha, hi⟩
  obtain ⟨a', ha', c0⟩ := s.cells i d0 hi
  rw [ha] at ha'; cases ha'
  obtain ⟨o0, ho0, hm⟩ := c0.isMut
  have keep : ∀ b u, H b = some u → (¬ Live as st b ∨ notMut u = true) → upd H a o b = some u := fun b u e k => by
    have ne : b ≠ a := fun z => by
      subst z
      rcases k with k | k
      · exact k la
      · rw [ho0] at e; cases e; rw [hm] at k; cases k
    rw [upd_ne ne]; exact e
  have e : Ext as st H as (st.set i (some d)) (upd H a o) := by
    refine ⟨List.prefix_refl _, fun j b h hj => ?_, fun j h => ?_, by simp, keep, fun b u h => ?_⟩
    · rw [List.getElem?_eq_none_iff.mpr hj] at h; cases h
    · have hij : i ≠ j := fun z => by subst z; rw [hi] at h; cases h
      rw [List.getElem?_set_ne hij]; exact h
    · by_cases hb : b = a
      · exact ⟨o, by rw [hb, upd_same]⟩
      · exact ⟨u, by rw [upd_ne hb]; exact h⟩
  refine ⟨⟨by simp [s.len], s.nd, fun j d' h => ?_, fun j b h q => ?_⟩, e⟩
  · by_cases hij : i = j
    · subst hij
      obtain ⟨hlt, _⟩ := List.getElem?_eq_some_iff.mp hi
      rw [List.getElem?_set_self hlt] at h
      cases h
      exact ⟨a, ha, c.lessL fun b z => (live_set hi).mp z⟩
    · rw [List.getElem?_set_ne hij] at h
      obtain ⟨b, hb, c'⟩ := s.cells j d' h
      have ne : b ≠ a := fun z => by
        subst z
        exact hij (by
          obtain ⟨h1, e1⟩ := List.getElem?_eq_some_iff.mp ha
          obtain ⟨h2, e2⟩ := List.getElem?_eq_some_iff.mp hb
          exact (List.getElem_inj s.nd).mp (e1.trans e2.symm))
      exact ⟨b, hb, c'.mono e.pre (e.hL s.len) e.keep (upd_ne ne)⟩
  · have := s.there j b h
    by_cases hb : b = a
    · rw [hb, upd_same] at q; cases q
    · rw [upd_ne hb] at q; exact this q
end
end VI
namespace VI
open PySem PySem.Spec PyProof.Rows L2
abbrev EM := DEnv → Store → Res Wv
abbrev TM := DEnv → Store → Res Bool
abbrev AM := DEnv → Store → Res (List D)
def RelX (G : Gx) (as : List Addr) (st : Store) (H : Hp) (x : EX) (cv : Value) (xd : Option Addr) : Prop :=
  ∃ C, G.cm x.cls = some C ∧ cv = .ref C ∧ match x.row with
    | none => xd = none
    | some d => ∃ p v, xd = some p ∧ H p = some (.xd [("row", v)]) ∧ ¬ Live as st p ∧ RelD G as (Live as st) H d v
def Post (G : Gx) (E : XK) (as : List Addr) (st : Store) (H : Hp) {α : Type} (r : Res α) (R : α → List Addr → Store → Hp → Prop) : Prop :=
  match r with
  | .ok a st' => ∀ as' H', Ext as st H as' st' H' → StR G as' st' H' → R a as' st' H'
  | .exc x st' => ∀ as' H' cv xd, Ext as st H as' st' H' → StR G as' st' H' → RelX G as' st' H' x cv xd → E cv xd H'
  | .stuck => False
section
variable {G : Gx} {E : XK} {as as' : List Addr} {st st' : Store} {H H' : Hp} {α β : Type}
theorem Post.mono {r : Res α} {R R' : α → List Addr → Store → Hp → Prop} (h : Post G E as st H r R) (k : ∀ a as' st' H', Ext as st H as' st' H' → StR G as' st' H' → R a as' st' H' → R' a as' st' H') : Post G E as st H r R' := by
  cases r with
  | ok a st' => exact fun as' H' e s => k a as' st' H' e s (h as' H' e s)
  | exc x st' => exact h
  | stuck => exact h
theorem Post.bind {r : Res α} {k : α → Store → Res β} {R : β → List Addr → Store → Hp → Prop} (hl : as.length = st.length) (h : Post G E as st H (r.bind k) R) :
    Post G E as st H r (fun a as' st' H' => Post G E as' st' H' (k a st') R) := by
  cases r with
  | ok a st' =>
    intro as' H' e s
    have h : Post G E as st H (k a st') R := h
    cases q : k a st' with
    | ok b st2 =>
      rw [q] at h
      exact fun as2 H2 e2 s2 => h as2 H2 (e.trans e2 hl) s2
    | exc x st2 =>
      rw [q] at h
      exact fun as2 H2 cv xd e2 s2 r2 => h as2 H2 cv xd (e.trans e2 hl) s2 r2
    | stuck => rw [q] at h; exact h
  | exc x st' => exact h
  | stuck => exact h
/-- nothing happens -/
theorem Post.now {a : α} {R : α → List Addr → Store → Hp → Prop} (s : StR G as st H) (h : Post G E as st H (.ok a st) R) : R a as st H := h as H Ext.rfl' s
end
/-- what is wished of an exception, at these slots -/
abbrev eAt (E : WX) (σ : L2.St) : XK := fun cv xd H => E cv xd σ H
abbrev E0w : WX := fun _ _ _ _ => False
def tI (G : Gx) (E : WX) (m : EM) : TE := fun σ H Q => ∃ as st env, StR G as st H ∧ EnvR G as (Live as st) H env σ ∧ Post G (eAt E σ) as st H (m env st) fun w as' st' H' => ∀ v, RelW G H as' st' H' w v → Q v H'
def tT (G : Gx) (E : WX) (m : TM) : TT := fun σ H Q => ∃ as st env, StR G as st H ∧ EnvR G as (Live as st) H env σ ∧ Post G (eAt E σ) as st H (m env st) fun b as' st' H' => Q b H'
def tAr (G : Gx) (E : WX) (m : AM) : TA := fun σ H Q => ∃ as st env, StR G as st H ∧ EnvR G as (Live as st) H env σ ∧ Post G (eAt E σ) as st H (m env st) fun ds as' st' H' => ∀ vs, RelDs G as' (Live as' st') H' ds vs → Q vs H'
theorem _root_.L2.PE.vi {X : Cx} {e : Expr} {t t' : TE} (h : PE X e t) (k : ∀ σ H Q, t' σ H Q → t σ H Q) : PE X e t' := ⟨fun pins s σ H Q I q => h.run pins s σ H Q I (k σ H Q q)⟩
theorem _root_.L2.PT.vi {X : Cx} {e : Expr} {t t' : TT} (h : PT X e t) (k : ∀ σ H Q, t' σ H Q → t σ H Q) : PT X e t' := ⟨fun pins s σ H Q I q => h.run pins s σ H Q I (k σ H Q q)⟩
theorem _root_.L2.PW.vi {X : Cx} {e : Expr} {t t' : TT} (h : PW X e t) (k : ∀ σ H Q, t' σ H Q → t σ H Q) : PW X e t' := ⟨fun wh pins s σ H Q I q => h.run wh pins s σ H Q I (k σ H Q q)⟩
theorem _root_.L2.PA.vi {X : Cx} {e : List Expr} {t t' : TA} (h : PA X e t) (k : ∀ σ H Q, t' σ H Q → t σ H Q) : PA X e t' := ⟨fun pos pins s σ H Q I q => h.run pos pins s σ H Q I (k σ H Q q)⟩
theorem _root_.L2.PS.vi {X : Cx} {e : Stmt} {t t' : TS} (h : PS X e t) (k : ∀ D σ H, t' D σ H → t D σ H) : PS X e t' := ⟨fun pins s σ H D I q => h.run pins s σ H D I (k D σ H q)⟩
theorem _root_.L2.PSs.vi {X : Cx} {e : List Stmt} {t t' : TS} (h : PSs X e t) (k : ∀ D σ H, t' D σ H → t D σ H) : PSs X e t' := ⟨fun pins s σ H D I q => h.run pins s σ H D I (k D σ H q)⟩

/-! ### expressions -/
def evVar (i : Nat) : EM := fun env st => match env[i]? with
  | some (some d) => .ok (.val d) st
  | _ => .stuck
def evC (d : D) : EM := fun _ st => .ok (.val d) st
def ev1 (f : D → Store → Res Wv) (a : EM) : EM := fun env st => (a env st).bind fun w st1 => f w.d st1
def ev2 (f : D → D → Store → Res Wv) (a b : EM) : EM := fun env st => (a env st).bind fun w st1 => (b env st1).bind fun w2 st2 => f w.d w2.d st2
def evA (f : List D → Store → Res Wv) (a : AM) : EM := fun env st => (a env st).bind fun ds st1 => f ds st1
def evM (f : D → List D → Store → Res Wv) (o : EM) (a : AM) : EM := fun env st => (o env st).bind fun w st1 => (a env st1).bind fun ds st2 => f w.d ds st2
def anil : AM := fun _ st => .ok [] st
def acons (a : EM) (r : AM) : AM := fun env st => (a env st).bind fun w st1 => (r env st1).bind fun ds st2 => .ok (w.d :: ds) st2
/-- a value operation against a rule's question -/
def OpS (G : Gx) (E : WX) (f : D → D → Store → Res Wv) (r : R2) : Prop := ∀ (E' : XK) as st H d1 d2 x y Q, StR G as st H → RelD G as (Live as st) H d1 x → RelD G as (Live as st) H d2 y →
  Post G E' as st H (f d1 d2 st) (fun w as' st' H' => ∀ v, RelW G H as' st' H' w v → Q v H') → r x y H Q
def UnS (G : Gx) (E : WX) (f : D → Store → Res Wv) (r : V → Hp → VK → Prop) : Prop := ∀ (E' : XK) as st H d x Q, StR G as st H → RelD G as (Live as st) H d x →
  Post G E' as st H (f d st) (fun w as' st' H' => ∀ v, RelW G H as' st' H' w v → Q v H') → r x H Q
def CallS (G : Gx) (E : WX) (f : List D → Store → Res Wv) (r : List V → Hp → VK → Prop) : Prop := ∀ (E' : XK) as st H ds xs Q, StR G as st H → RelDs G as (Live as st) H ds xs →
  Post G E' as st H (f ds st) (fun w as' st' H' => ∀ v, RelW G H as' st' H' w v → Q v H') → r xs H Q
def MtS' (G : Gx) (E : WX) (f : D → List D → Store → Res Wv) (r : V → List V → Hp → VK → Prop) : Prop := ∀ (E' : XK) as st H d ds x xs Q, StR G as st H → RelD G as (Live as st) H d x → RelDs G as (Live as st) H ds xs →
  Post G E' as st H (f d ds st) (fun w as' st' H' => ∀ v, RelW G H as' st' H' w v → Q v H') → r x xs H Q
section
variable {G : Gx} {E : WX} {X : Cx} {σ : L2.St} {H : Hp} {Q : VK} {a b c e o : Expr} {es : List Expr} {pos : Pos} {ma mb mc : EM}
theorem fresh_of {as as' : List Addr} {st st' : Store} {H H' : Hp} (e : Ext as st H as' st' H') : ∀ p, H' p = none → H p = none := fun _ h => e.fresh h
theorem tI_var {i : Nat} (h : tI G E (evVar i) σ H Q) : tVar i σ H Q := by
  obtain ⟨as, st, env, s, er, p⟩ := h
  unfold evVar at p
  cases q : env[i]? with
  | none => rw [q] at p; exact p.elim
  | some o =>
    cases o with
    | none => rw [q] at p; exact p.elim
    | some d =>
      rw [q] at p
      obtain ⟨v, hv, r⟩ := er.2 i d q
      exact ⟨v, hv, p.now s v r⟩
theorem pI_var {i : Nat} {x : Str} (hN : X.N[i]? = some x) (hv : Vis X.env.scope x) (hd : (x == ("__debug__" : Str)) = false := by decide) (hcd : (x == ("__classdict__" : Str)) = false := by decide) : PE X (.Name x pos) (tI G E (evVar i)) :=
  (pe_var hN hv hd hcd).vi fun _ _ _ => tI_var
theorem pI_c {d : D} {v : V} (h : PE X e (tC v)) (r : ∀ as L H, RelD G as L H d v) : PE X e (tI G E (evC d)) := h.vi fun σ H Q ⟨as, st, env, s, er, p⟩ => p.now s v (r _ _ _)
theorem pI_int {i j} : PE X (.Constant (.int i) j pos) (tI G E (evC (.int i))) := pI_c pe_int fun _ _ _ => .int i
theorem pI_bl {b j} : PE X (.Constant (.bool b) j pos) (tI G E (evC (.bl b))) := pI_c pe_bl fun _ _ _ => .bl b
theorem pI_non {j} : PE X (.Constant .none j pos) (tI G E (evC .non)) := pI_c pe_non fun _ _ _ => .non
theorem pI_str {x j} : PE X (.Constant (.str x) j pos) (tI G E (evC (.str x))) := pI_c pe_str fun _ _ _ => .str x
theorem pI_gint {x : Str} {i : Int} (hg : Gl X x) (hm : ∃ t, X.mg x = some (.int i t)) (hd : (x == ("__debug__" : Str)) = false := by decide) : PE X (.Name x pos) (tI G E (evC (.int i))) := by
  obtain ⟨t, hm⟩ := hm
  exact pI_c (pe_glob (v := .int i) hg hm ⟨t, rfl⟩ hd) fun _ _ _ => .int i
theorem pI_gstr {x z : Str} (hg : Gl X x) (hm : ∃ t, X.mg x = some (.str z t)) (hd : (x == ("__debug__" : Str)) = false := by decide) : PE X (.Name x pos) (tI G E (evC (.str z))) := by
  obtain ⟨t, hm⟩ := hm
  exact pI_c (pe_glob (v := .str z) hg hm ⟨t, rfl⟩ hd) fun _ _ _ => .str z
theorem pI_ty {x : Str} {n : String} (hg : Gl X x) (hm : X.mg x = none) (hv : bootBuiltins x = some (.type n)) (hn : x ≠ "__name__" := by decide) (hd : (x == ("__debug__" : Str)) = false := by decide) : PE X (.Name x pos) (tI G E (evC (.ty n))) :=
  pI_c (pe_bltn (v := .ty n) hg hm hv rfl hn hd) fun _ _ _ => .ty n
theorem pI_cls {x : Str} {c : String} {C : Addr} (hg : Gl X x) (hm : X.mg x = some (.ref C)) (hc : G.cm c = some C) (hd : (x == ("__debug__" : Str)) = false := by decide) : PE X (.Name x pos) (tI G E (evC (.cl c))) :=
  pI_c (pe_glob (v := .ref C) hg hm rfl hd) fun _ _ _ => .cl hc
theorem tI_ev2 {f : D → D → Store → Res Wv} {r : R2} (hs : OpS G E f r) (h : tI G E (ev2 f ma mb) σ H Q) : tOp r (tI G E ma) (tI G E mb) σ H Q := by
  obtain ⟨as, st, env, s, er, p⟩ := h
  refine ⟨as, st, env, s, er, (p.bind s.len).mono fun w as1 st1 H1 e1 s1 p1 v1 r1 => ?_⟩
  refine ⟨as1, st1, env, s1, er.ext e1 s.len, (p1.bind s1.len).mono fun w2 as2 st2 H2 e2 s2 p2 v2 r2 => ?_⟩
  exact hs _ as2 st2 H2 _ _ _ _ _ s2 (r1.d.ext e2 s1.len) r2.d (p2.mono fun w as3 st3 H3 e3 s3 q v rv => q v (rv.from fun x hx => (e1.fresh (e2.fresh hx))))
theorem pI_op {op : Operator} {f : D → D → Store → Res Wv} {r : R2} (ho : OpR X (binaryOp op) r) (hs : OpS G E f r) (ha : PE X a (tI G E ma)) (hb : PE X b (tI G E mb)) : PE X (.BinOp a op b pos) (tI G E (ev2 f ma mb)) :=
  (pe_op ho ha hb).vi fun _ _ _ => tI_ev2 hs
theorem pI_cmp {op : CmpOp} {f : D → D → Store → Res Wv} {r : R2} (ho : OpR X (compareOp op) r) (hs : OpS G E f r) (ha : PE X a (tI G E ma)) (hb : PE X b (tI G E mb)) (hm : behindInMarks op b = false) : PE X (.Compare a [op] [b] pos) (tI G E (ev2 f ma mb)) :=
  (pe_cmpR ho ha hb hm).vi fun _ _ _ => tI_ev2 hs
theorem pI_ix {f : D → D → Store → Res Wv} {r : R2} (ho : IxR X r) (hs : OpS G E f r) (ha : PE X a (tI G E ma)) (hb : PE X b (tI G E mb)) (hx : PlainIx b) : PE X (.Subscript a b pos) (tI G E (ev2 f ma mb)) :=
  (pe_ix ho ha hb hx).vi fun _ _ _ => tI_ev2 hs
theorem tI_ev1 {f : D → Store → Res Wv} {r : V → Hp → VK → Prop} (hs : UnS G E f r) (h : tI G E (ev1 f ma) σ H Q) : tUn r (tI G E ma) σ H Q := by
  obtain ⟨as, st, env, s, er, p⟩ := h
  refine ⟨as, st, env, s, er, (p.bind s.len).mono fun w as1 st1 H1 e1 s1 p1 v1 r1 => ?_⟩
  exact hs _ as1 st1 H1 _ _ _ s1 r1.d (p1.mono fun w as3 st3 H3 e3 s3 q v rv => q v (rv.from (fresh_of e1)))
theorem pI_un {op : UnaryOp} {f : D → Store → Res Wv} {r : V → Hp → VK → Prop} (ho : UnR X (unaryOp op) r) (hs : UnS G E f r) (ha : PE X a (tI G E ma)) : PE X (.UnaryOp op a pos) (tI G E (ev1 f ma)) :=
  (pe_un ho ha).vi fun _ _ _ => tI_ev1 hs
theorem pI_nil : PA X [] (tAr G E anil) := pa_nil.vi fun σ H Q ⟨as, st, env, s, er, p⟩ => p.now s [] .nil
theorem pI_cons {m : AM} (ha : PE X e (tI G E ma)) (hr : PA X es (tAr G E m)) (hs : starEach (e :: es) X.env = (false, eval e X.env) :: starEach es X.env := by rfl) : PA X (e :: es) (tAr G E (acons ma m)) := by
  refine (pa_cons ha hr hs).vi fun σ H Q h => ?_
  obtain ⟨as, st, env, s, er, p⟩ := h
  refine ⟨as, st, env, s, er, (p.bind s.len).mono fun w as1 st1 H1 e1 s1 p1 v1 r1 => ?_⟩
  refine ⟨as1, st1, env, s1, er.ext e1 s.len, (p1.bind s1.len).mono fun ds as2 st2 H2 e2 s2 p2 vs r2 => ?_⟩
  exact p2.now s2 _ (.cons (r1.d.ext e2 s1.len) r2)
theorem tI_evA {m : AM} {f : List D → Store → Res Wv} {r : List V → Hp → VK → Prop} (hs : CallS G E f r) (h : tI G E (evA f m) σ H Q) : tCB r (tAr G E m) σ H Q := by
  obtain ⟨as, st, env, s, er, p⟩ := h
  refine ⟨as, st, env, s, er, (p.bind s.len).mono fun ds as1 st1 H1 e1 s1 p1 vs r1 => ?_⟩
  exact hs _ as1 st1 H1 _ _ _ s1 r1 (p1.mono fun w as3 st3 H3 e3 s3 q v rv => q v (rv.from (fresh_of e1)))
theorem pI_callB {m : AM} {x : Str} {id : String} {p : Pos} {f : List D → Store → Res Wv} {r : List V → Hp → VK → Prop} (hc : CallR X (.builtin id) r) (hs : CallS G E f r) (hg : Gl X x) (hm : X.mg x = none) (hv : bootBuiltins x = some (.builtin id)) (ha : PA X (e :: es) (tAr G E m))
    (hn : x ≠ "__name__" := by decide) (hdb : (x == ("__debug__" : Str)) = false := by decide) (he : starEach (e :: es) X.env = (false, eval e X.env) :: starEach es X.env := by rfl) (hpl : (backTo pos (starEach es X.env)).any (·.1) = false := by rfl) : PE X (.Call (.Name x p) (e :: es) [] pos) (tI G E (evA f m)) :=
  (pe_callB hc hg hm hv ha hn hdb he hpl).vi fun _ _ _ => tI_evA hs
theorem pI_callTy {m : AM} {x : Str} {T : String} {p : Pos} {f : List D → Store → Res Wv} {r : List V → Hp → VK → Prop} (hc : CallR X (.type T) r) (hs : CallS G E f r) (hg : Gl X x) (hm : X.mg x = none) (hv : bootBuiltins x = some (.type T)) (ha : PA X (e :: es) (tAr G E m))
    (hn : x ≠ "__name__" := by decide) (hdb : (x == ("__debug__" : Str)) = false := by decide) (he : starEach (e :: es) X.env = (false, eval e X.env) :: starEach es X.env := by rfl) (hpl : (backTo pos (starEach es X.env)).any (·.1) = false := by rfl) : PE X (.Call (.Name x p) (e :: es) [] pos) (tI G E (evA f m)) :=
  (pe_callTy hc hg hm hv ha hn hdb he hpl).vi fun _ _ _ => tI_evA hs

/-! ### tests, and, or, not, if, chains -/
def tvB (m : EM) : TM := fun env st => (m env st).bind fun w st1 => match w.d with
  | .bl b => .ok b st1
  | _ => .stuck
def tvNot (t : TM) : TM := fun env st => (t env st).bind fun b st1 => .ok (!b) st1
def tvAnd (t u : TM) : TM := fun env st => (t env st).bind fun b st1 => if b = true then u env st1 else .ok false st1
def tvOr (t u : TM) : TM := fun env st => (t env st).bind fun b st1 => if b = true then .ok true st1 else u env st1
def evNot (a : EM) : EM := fun env st => (a env st).bind fun w st1 => match w.d with
  | .bl b => .ok (.val (.bl (!b))) st1
  | _ => .stuck
def evAnd (a b : EM) : EM := fun env st => (a env st).bind fun w st1 => match w.d with
  | .bl true => b env st1
  | .bl false => .ok (.val (.bl false)) st1
  | _ => .stuck
def evOr (a b : EM) : EM := fun env st => (a env st).bind fun w st1 => match w.d with
  | .bl true => .ok (.val (.bl true)) st1
  | .bl false => b env st1
  | _ => .stuck
def evIf (t : TM) (a b : EM) : EM := fun env st => (t env st).bind fun c st1 => if c = true then a env st1 else b env st1
def evCh (f g : D → D → Store → Res Wv) (a b c : EM) : EM := fun env st => (a env st).bind fun w1 st1 => (b env st1).bind fun w2 st2 => (f w1.d w2.d st2).bind fun w3 st3 => match w3.d with
  | .bl true => (c env st3).bind fun w4 st4 => g w2.d w4.d st4
  | .bl false => .ok (.val (.bl false)) st3
  | _ => .stuck
theorem RelD.isBl {as : List Addr} {L : Addr → Prop} {H : Hp} {b : Bool} {v : V} (h : RelD G as L H (.bl b) v) : v = .bl b := by cases h; rfl
theorem RelD.isInt {as : List Addr} {L : Addr → Prop} {H : Hp} {b : Int} {v : V} (h : RelD G as L H (.int b) v) : v = .int b := by cases h; rfl
theorem RelD.isStr {as : List Addr} {L : Addr → Prop} {H : Hp} {b : Str} {v : V} (h : RelD G as L H (.str b) v) : v = .str b := by cases h; rfl
theorem RelD.isNon {as : List Addr} {L : Addr → Prop} {H : Hp} {v : V} (h : RelD G as L H .non v) : v = .non := by cases h; rfl
theorem RelD.isTy {as : List Addr} {L : Addr → Prop} {H : Hp} {b : String} {v : V} (h : RelD G as L H (.ty b) v) : v = .ty b := by cases h; rfl
theorem tT_tvB {Q : Bool → Hp → Prop} (h : tT G E (tvB ma) σ H Q) : tI G E ma σ H fun x H1 => ∃ k, x = .bl k ∧ Q k H1 := by
  obtain ⟨as, st, env, s, er, p⟩ := h
  refine ⟨as, st, env, s, er, (p.bind s.len).mono fun w as1 st1 H1 e1 s1 p1 v1 r1 => ?_⟩
  have r := r1.d
  cases q : w.d with
  | bl b =>
    simp only [q] at p1
    rw [q] at r
    exact ⟨b, r.isBl, p1.now s1⟩
  | _ => simp only [q] at p1; exact p1.elim
theorem pT_val (h : PE X e (tI G E ma)) (he : ∀ whole, isTrue e X.env whole = (do let v ← whole; standAt e.pos; holding [v] (truthy v)) := by intro _; rfl) : PT X e (tT G E (tvB ma)) :=
  (pt_val h he).vi fun _ _ _ => tT_tvB
theorem pT_cmp {op : CmpOp} {f : D → D → Store → Res Wv} {r : R2} (ho : OpR X (compareOp op) r) (hs : OpS G E f r) (ha : PE X a (tI G E ma)) (hb : PE X b (tI G E mb)) (hm : behindInMarks op b = false) : PT X (.Compare a [op] [b] pos) (tT G E (tvB (ev2 f ma mb))) :=
  (pt_cmpR ho ha hb hm).vi fun _ _ _ h => tI_ev2 hs (tT_tvB h)
variable {ta tb : TM} {rest : List Expr}
theorem pT_not (h : PT X a (tT G E ta)) : PT X (.UnaryOp .Not a pos) (tT G E (tvNot ta)) := (pt_not h).vi fun σ H Q ⟨as, st, env, s, er, p⟩ =>
  ⟨as, st, env, s, er, (p.bind s.len).mono fun b as1 st1 H1 e1 s1 p1 => p1.now s1⟩
theorem pW_and1 (h : PT X a (tT G E ta)) : PW X (.BoolOp .And [a] pos) (tT G E ta) := pw_and1 h
theorem pW_or1 (h : PT X a (tT G E ta)) : PW X (.BoolOp .Or [a] pos) (tT G E ta) := pw_or1 h
theorem tT_and {Q : Bool → Hp → Prop} (h : tT G E (tvAnd ta tb) σ H Q) : tAnd (tT G E ta) (tT G E tb) σ H Q := by
  obtain ⟨as, st, env, s, er, p⟩ := h
  refine ⟨as, st, env, s, er, (p.bind s.len).mono fun c as1 st1 H1 e1 s1 p1 => ?_⟩
  cases c with
  | true =>
    rw [if_pos rfl] at p1 ⊢
    exact ⟨as1, st1, env, s1, er.ext e1 s.len, p1⟩
  | false =>
    rw [if_neg Bool.false_ne_true] at p1 ⊢
    exact p1.now s1
theorem tT_or {Q : Bool → Hp → Prop} (h : tT G E (tvOr ta tb) σ H Q) : tOr (tT G E ta) (tT G E tb) σ H Q := by
  obtain ⟨as, st, env, s, er, p⟩ := h
  refine ⟨as, st, env, s, er, (p.bind s.len).mono fun c as1 st1 H1 e1 s1 p1 => ?_⟩
  cases c with
  | true =>
    rw [if_pos rfl] at p1 ⊢
    exact p1.now s1
  | false =>
    rw [if_neg Bool.false_ne_true] at p1 ⊢
    exact ⟨as1, st1, env, s1, er.ext e1 s.len, p1⟩
theorem pW_and (h : PT X a (tT G E ta)) (hb : PW X (.BoolOp .And (b :: rest) pos) (tT G E tb)) : PW X (.BoolOp .And (a :: b :: rest) pos) (tT G E (tvAnd ta tb)) := (pw_and h hb).vi fun _ _ _ => tT_and
theorem pW_or (h : PT X a (tT G E ta)) (hb : PW X (.BoolOp .Or (b :: rest) pos) (tT G E tb)) : PW X (.BoolOp .Or (a :: b :: rest) pos) (tT G E (tvOr ta tb)) := (pw_or h hb).vi fun _ _ _ => tT_or
theorem pI_one {op} (h : PE X a (tI G E ma)) : PE X (.BoolOp op [a] pos) (tI G E ma) := pe_one h
theorem pI_not (h : PE X a (tI G E ma)) : PE X (.UnaryOp .Not a pos) (tI G E (evNot ma)) := (pe_not h).vi fun σ H Q ⟨as, st, env, s, er, p⟩ =>
  ⟨as, st, env, s, er, (p.bind s.len).mono fun w as1 st1 H1 e1 s1 p1 v1 r1 => by
    have r := r1.d
    cases q : w.d with
    | bl b =>
      simp only [q] at p1
      rw [q] at r
      exact ⟨b, r.isBl, p1.now s1 _ (.bl _)⟩
    | _ => simp only [q] at p1; exact p1.elim⟩
theorem pI_and (h : PE X a (tI G E ma)) (hb : PE X (.BoolOp .And (b :: rest) pos) (tI G E mb)) : PE X (.BoolOp .And (a :: b :: rest) pos) (tI G E (evAnd ma mb)) := (pe_and h hb).vi fun σ H Q ⟨as, st, env, s, er, p⟩ =>
  ⟨as, st, env, s, er, (p.bind s.len).mono fun w as1 st1 H1 e1 s1 p1 v1 r1 => by
    have r := r1.d
    cases q : w.d with
    | bl b =>
      simp only [q] at p1
      rw [q] at r
      refine ⟨b, r.isBl, ?_⟩
      cases b with
      | true =>
        rw [if_pos rfl]
        exact ⟨as1, st1, env, s1, er.ext e1 s.len, p1.mono fun w2 as2 st2 H2 e2 s2 p2 v2 r2 => p2 v2 (r2.from (fresh_of e1))⟩
      | false =>
        rw [if_neg Bool.false_ne_true]
        exact p1.now s1 _ (.bl _)
    | _ => simp only [q] at p1; exact p1.elim⟩
theorem pI_or (h : PE X a (tI G E ma)) (hb : PE X (.BoolOp .Or (b :: rest) pos) (tI G E mb)) : PE X (.BoolOp .Or (a :: b :: rest) pos) (tI G E (evOr ma mb)) := (pe_or h hb).vi fun σ H Q ⟨as, st, env, s, er, p⟩ =>
  ⟨as, st, env, s, er, (p.bind s.len).mono fun w as1 st1 H1 e1 s1 p1 v1 r1 => by
    have r := r1.d
    cases q : w.d with
    | bl b =>
      simp only [q] at p1
      rw [q] at r
      refine ⟨b, r.isBl, ?_⟩
      cases b with
      | false =>
        rw [if_neg Bool.false_ne_true]
        exact ⟨as1, st1, env, s1, er.ext e1 s.len, p1.mono fun w2 as2 st2 H2 e2 s2 p2 v2 r2 => p2 v2 (r2.from (fresh_of e1))⟩
      | true =>
        rw [if_pos rfl]
        exact p1.now s1 _ (.bl _)
    | _ => simp only [q] at p1; exact p1.elim⟩
theorem pI_if (hc : PT X c (tT G E ta)) (h : PE X a (tI G E ma)) (hb : PE X b (tI G E mb)) : PE X (.IfExp c a b pos) (tI G E (evIf ta ma mb)) := (pe_ifExp hc h hb).vi fun σ H Q ⟨as, st, env, s, er, p⟩ =>
  ⟨as, st, env, s, er, (p.bind s.len).mono fun k as1 st1 H1 e1 s1 p1 => by
    cases k with
    | true =>
      rw [if_pos rfl] at p1 ⊢
      exact ⟨as1, st1, env, s1, er.ext e1 s.len, p1.mono fun w2 as2 st2 H2 e2 s2 p2 v2 r2 => p2 v2 (r2.from (fresh_of e1))⟩
    | false =>
      rw [if_neg Bool.false_ne_true] at p1 ⊢
      exact ⟨as1, st1, env, s1, er.ext e1 s.len, p1.mono fun w2 as2 st2 H2 e2 s2 p2 v2 r2 => p2 v2 (r2.from (fresh_of e1))⟩⟩
theorem tI_evCh {f g : D → D → Store → Res Wv} {r r' : R2} (hs : OpS G E f r) (hs' : OpS G E g r') (h : tI G E (evCh f g ma mb mc) σ H Q) : tChain r r' (tI G E ma) (tI G E mb) (tI G E mc) σ H Q := by
  obtain ⟨as, st, env, s, er, p⟩ := h
  refine ⟨as, st, env, s, er, (p.bind s.len).mono fun w as1 st1 H1 e1 s1 p1 v1 r1 => ?_⟩
  refine ⟨as1, st1, env, s1, er.ext e1 s.len, (p1.bind s1.len).mono fun w2 as2 st2 H2 e2 s2 p2 v2 r2 => ?_⟩
  refine hs _ as2 st2 H2 _ _ _ _ _ s2 (r1.d.ext e2 s1.len) r2.d ((p2.bind s2.len).mono fun w3 as3 st3 H3 e3 s3 p3 v3 r3 => ?_)
  have rr := r3.d
  cases q : w3.d with
  | bl b =>
    simp only [q] at p3
    rw [q] at rr
    refine ⟨b, rr.isBl, ?_⟩
    cases b with
    | true =>
      rw [if_pos rfl]
      refine ⟨as3, st3, env, s3, ((er.ext e1 s.len).ext e2 s1.len).ext e3 s2.len, (p3.bind s3.len).mono fun w4 as4 st4 H4 e4 s4 p4 v4 r4 => ?_⟩
      exact hs' _ as4 st4 H4 _ _ _ _ _ s4 ((r2.d.ext e3 s2.len).ext e4 s3.len) r4.d (p4.mono fun w5 as5 st5 H5 e5 s5 p5 v5 r5 => p5 v5 (r5.from fun x hx => e1.fresh (e2.fresh (e3.fresh (e4.fresh hx)))))
    | false =>
      rw [if_neg Bool.false_ne_true]
      exact p3.now s3 _ (.bl _)
  | _ => simp only [q] at p3; exact p3.elim
theorem pI_chain {op op' : CmpOp} {f g : D → D → Store → Res Wv} {r r' : R2} (ho : OpR X (compareOp op) r) (hs : OpS G E f r) (ho' : OpR X (compareOp op') r') (hs' : OpS G E g r') (ha : PE X a (tI G E ma)) (hb : PE X b (tI G E mb)) (hc : PE X c (tI G E mc))
    (hm : lastMarks [op, op'] [b, c] = false := by with_unfolding_all rfl) : PE X (.Compare a [op, op'] [b, c] pos) (tI G E (evCh f g ma mb mc)) := (pe_chain ho ho' ha hb hc hm).vi fun _ _ _ => tI_evCh hs hs'
theorem pT_chain {op op' : CmpOp} {f g : D → D → Store → Res Wv} {r r' : R2} (ho : OpR X (compareOp op) r) (hs : OpS G E f r) (ho' : OpR X (compareOp op') r') (hs' : OpS G E g r') (ha : PE X a (tI G E ma)) (hb : PE X b (tI G E mb)) (hc : PE X c (tI G E mc))
    (hm : lastMarks [op, op'] [b, c] = false := by with_unfolding_all rfl) : PT X (.Compare a [op, op'] [b, c] pos) (tT G E (tvB (evCh f g ma mb mc))) := (pt_chain ho ho' ha hb hc hm).vi fun _ _ _ h => tI_evCh hs hs' (tT_tvB h)

/-! ### displays -/
def evTup (m : AM) : EM := fun env st => (m env st).bind fun ds st1 => if ds.length ≤ 100000 then .ok (.val (.tup ds)) st1 else .stuck
def evLst (m : AM) : EM := fun env st => (m env st).bind fun ds st1 => if ds.length ≤ 100000 then .ok (.new (.lst ds)) st1 else .stuck
theorem RelDs.length {as : List Addr} {L : Addr → Prop} {H : Hp} : ∀ {ds : List D} {vs : List V}, RelDs G as L H ds vs → ds.length = vs.length
  | _, _, .nil => rfl
  | _, _, .cons _ t => by simp [RelDs.length t]
theorem szl {n : Nat} (h : n ≤ 100000) : n ≤ sizeLine := Nat.le_trans h (by decide)
/-- a new tuple, a new list, at a place that was free -/
theorem RelD.newTup {as : List Addr} {st : Store} {H : Hp} {ds : List D} {vs : List V} {p : Addr} (s : StR G as st H) (r : RelDs G as (Live as st) H ds vs) (hp : H p = none) : RelD G as (Live as st) (upd H p (.tup vs)) (.tup ds) (.ref p) :=
  .tup (.inl (.inl upd_same)) (r.ext (Ext.lay hp) s.len)
theorem RelW.newLst {as : List Addr} {st : Store} {H : Hp} {ds : List D} {vs : List V} {p : Addr} (s : StR G as st H) (r : RelDs G as (Live as st) H ds vs) (hp : H p = none) : RelW G H as st (upd H p (.lst vs)) (.new (.lst ds)) (.ref p) := by
  refine ⟨p, rfl, hp, notLive s hp, ⟨vs, upd_same, r.mono (List.prefix_refl _) (fun b hb n z => ?_) fun b u e _ => by rw [upd_ne (ne_of_none e hp)]; exact e⟩, s.lay hp⟩
  rcases z with z | z
  · exact n z
  · exact hb (by rw [z]; exact hp)
theorem pI_tup {m : AM} {x1} (h : PA X es (tAr G E m)) : PE X (.Tuple es x1 pos) (tI G E (evTup m)) := (pe_tup h).vi fun σ H Q ⟨as, st, env, s, er, p⟩ =>
  ⟨as, st, env, s, er, (p.bind s.len).mono fun ds as1 st1 H1 e1 s1 p1 vs r1 => by
    by_cases q : ds.length ≤ 100000
    · rw [if_pos q] at p1
      refine ⟨szl (by rw [← r1.length]; exact q), fun x hx => ?_⟩
      exact p1 as1 (upd H1 x (.tup vs)) (Ext.lay hx) (s1.laid hx) _ (RelD.newTup s1 r1 hx)
    · rw [if_neg q] at p1; exact p1.elim⟩
theorem pI_lst {m : AM} (h : PA X es (tAr G E m)) : PE X (.List es pos) (tI G E (evLst m)) := (pe_lst h).vi fun σ H Q ⟨as, st, env, s, er, p⟩ =>
  ⟨as, st, env, s, er, (p.bind s.len).mono fun ds as1 st1 H1 e1 s1 p1 vs r1 => by
    by_cases q : ds.length ≤ 100000
    · rw [if_pos q] at p1
      refine ⟨szl (by rw [← r1.length]; exact q), fun x hx => ?_⟩
      exact p1 as1 (upd H1 x (.lst vs)) (Ext.lay hx) (s1.laid hx) _ ((RelW.newLst s1 r1 hx).from (fresh_of e1))
    · rw [if_neg q] at p1; exact p1.elim⟩
end
end VI
namespace VI
open PySem PySem.Spec PyProof.Rows L2
inductive SRes where
  | nx (env : DEnv) (st : Store) | ret (w : Wv) (st : Store) | brk (env : DEnv) (st : Store) | cnt (env : DEnv) (st : Store) | exc (env : DEnv) (x : EX) (st : Store) | stuck
abbrev SM := DEnv → Store → SRes
def SRes.bind (r : SRes) (k : SM) : SRes := match r with
  | .nx env st => k env st
  | r => r
def SPost (G : Gx) (E : WX) (De : Ends) (as : List Addr) (st : Store) (H : Hp) (r : SRes) : Prop :=
  match r with
  | .nx env' st' => ∀ as' H' σ', Ext as st H as' st' H' → StR G as' st' H' → EnvR G as' (Live as' st') H' env' σ' → De.nx σ' H'
  | .ret w st' => ∀ as' H' v, Ext as st H as' st' H' → StR G as' st' H' → RelW G H as' st' H' w v → De.rt v H'
  | .brk env' st' => ∀ as' H' σ', Ext as st H as' st' H' → StR G as' st' H' → EnvR G as' (Live as' st') H' env' σ' → De.bk σ' H'
  | .cnt env' st' => ∀ as' H' σ', Ext as st H as' st' H' → StR G as' st' H' → EnvR G as' (Live as' st') H' env' σ' → De.ct σ' H'
  | .exc env' x st' => ∀ as' H' σ' cv xd, Ext as st H as' st' H' → StR G as' st' H' → EnvR G as' (Live as' st') H' env' σ' → RelX G as' st' H' x cv xd → E cv xd σ' H'
  | .stuck => False
def tS (G : Gx) (E : WX) (m : SM) : TS := fun De σ H => ∃ as st env, StR G as st H ∧ EnvR G as (Live as st) H env σ ∧ SPost G E De as st H (m env st)
section
variable {G : Gx} {E : WX} {X : Cx} {De : Ends} {as as' as1 : List Addr} {st st' st1 : Store} {H H' H1 : Hp} {σ : L2.St}
/-- further on -/
theorem SPost.from {r : SRes} (hl : as.length = st.length) (e : Ext as st H as1 st1 H1) (h : SPost G E De as st H r) : SPost G E De as1 st1 H1 r := by
  cases r with
  | nx env st' => exact fun as' H' σ' e' s r => h as' H' σ' (e.trans e' hl) s r
  | ret w st' => exact fun as' H' v e' s r => h as' H' v (e.trans e' hl) s (r.from (fresh_of e))
  | brk env st' => exact fun as' H' σ' e' s r => h as' H' σ' (e.trans e' hl) s r
  | cnt env st' => exact fun as' H' σ' e' s r => h as' H' σ' (e.trans e' hl) s r
  | exc env x st' => exact fun as' H' σ' cv xd e' s er r => h as' H' σ' cv xd (e.trans e' hl) s er r
  | stuck => exact h
theorem SPost.bind {r : SRes} {k : SM} (hl : as.length = st.length) (h : SPost G E De as st H (r.bind k)) : SPost G E { De with nx := tS G E k De } as st H r := by
  cases r with
  | nx env st' => exact fun as' H' σ' e s r => ⟨as', st', env, s, r, (show SPost G E De as st H (k env st') from h).from hl e⟩
  | ret w st' => exact h
  | brk env st' => exact h
  | cnt env st' => exact h
  | exc env x st' => exact h
  | stuck => exact h
/-- an expression's end, then a statement -/
theorem SPost.of {α : Type} {env : DEnv} {r : Res α} {k : α → Store → SRes} (hl : as.length = st.length) (er : EnvR G as (Live as st) H env σ) (h : SPost G E De as st H (match r with | .ok a st1 => k a st1 | .exc x st1 => .exc env x st1 | .stuck => .stuck)) :
    Post G (eAt E σ) as st H r fun a as1 st1 H1 => SPost G E De as st H (k a st1) := by
  cases r with
  | ok a st1 => exact fun as' H' e s => h
  | exc x st' => exact fun as' H' cv xd e s rx => h as' H' σ cv xd e s (er.ext e hl) rx
  | stuck => exact h
def SRes.of {α : Type} (env : DEnv) (r : Res α) (k : α → Store → SRes) : SRes := match r with
  | .ok a st1 => k a st1
  | .exc x st1 => .exc env x st1
  | .stuck => .stuck
def sNext : SM := fun env st => .nx env st
def sSeq (a b : SM) : SM := fun env st => (a env st).bind b
def sBreak : SM := fun env st => .brk env st
def sCont : SM := fun env st => .cnt env st
def sDrop (e : EM) : SM := fun env st => SRes.of env (e env st) fun _ st1 => .nx env st1
def sRet (e : EM) : SM := fun env st => SRes.of env (e env st) fun w st1 => .ret w st1
def sRetN : SM := fun _ st => .ret (.val .non) st
def sIf (t : TM) (a b : SM) : SM := fun env st => SRes.of env (t env st) fun c st1 => if c = true then a env st1 else b env st1
/-- x = e: by its value | a new container that becomes a cell -/
def sSet (i : Nat) (e : EM) : SM := fun env st => SRes.of env (e env st) fun w st1 => .nx (env.set i (some w.d)) st1
def sReg (i : Nat) (e : EM) : SM := fun env st => SRes.of env (e env st) fun w st1 => match w with
  | .new d => .nx (env.set i (some (.ref st1.length))) (st1 ++ [some d])
  | .val _ => .stuck
theorem tS_next (h : tS G E sNext De σ H) : tNext De σ H := by
  obtain ⟨as, st, env, s, er, p⟩ := h
  exact p as H σ Ext.rfl' s er
theorem tS_brk (h : tS G E sBreak De σ H) : tBreak De σ H := by
  obtain ⟨as, st, env, s, er, p⟩ := h
  exact p as H σ Ext.rfl' s er
theorem tS_cnt (h : tS G E sCont De σ H) : tCont De σ H := by
  obtain ⟨as, st, env, s, er, p⟩ := h
  exact p as H σ Ext.rfl' s er
theorem tS_seq {a b : SM} (h : tS G E (sSeq a b) De σ H) : tSeq (tS G E a) (tS G E b) De σ H := by
  obtain ⟨as, st, env, s, er, p⟩ := h
  exact ⟨as, st, env, s, er, p.bind s.len⟩
theorem tS_drop {e : EM} (h : tS G E (sDrop e) De σ H) : tDrop (tI G E e) De σ H := by
  obtain ⟨as, st, env, s, er, p⟩ := h
  refine ⟨as, st, env, s, er, (SPost.of s.len er p).mono fun w as1 st1 H1 e1 s1 p1 v r => ?_⟩
  exact p1 as1 H1 σ e1 s1 (er.ext e1 s.len)
theorem tS_ret {e : EM} (h : tS G E (sRet e) De σ H) : tRet (tI G E e) De σ H := by
  obtain ⟨as, st, env, s, er, p⟩ := h
  refine ⟨as, st, env, s, er, (SPost.of s.len er p).mono fun w as1 st1 H1 e1 s1 p1 v r => ?_⟩
  exact p1 as1 H1 v e1 s1 r
theorem tS_retN (h : tS G E sRetN De σ H) : tRetN De σ H := by
  obtain ⟨as, st, env, s, er, p⟩ := h
  exact p as H .non Ext.rfl' s .non
theorem tS_if {t : TM} {a b : SM} (h : tS G E (sIf t a b) De σ H) : tIfS (tT G E t) (tS G E a) (tS G E b) De σ H := by
  obtain ⟨as, st, env, s, er, p⟩ := h
  refine ⟨as, st, env, s, er, (SPost.of s.len er p).mono fun c as1 st1 H1 e1 s1 p1 => ?_⟩
  cases c with
  | true =>
    rw [if_pos rfl] at p1 ⊢
    exact ⟨as1, st1, env, s1, er.ext e1 s.len, p1.from s.len e1⟩
  | false =>
    rw [if_neg Bool.false_ne_true] at p1 ⊢
    exact ⟨as1, st1, env, s1, er.ext e1 s.len, p1.from s.len e1⟩
theorem tS_set {i : Nat} {e : EM} (h : tS G E (sSet i e) De σ H) : tAsg (tI G E e) (gName i) De σ H := by
  obtain ⟨as, st, env, s, er, p⟩ := h
  refine ⟨as, st, env, s, er, (SPost.of s.len er p).mono fun w as1 st1 H1 e1 s1 p1 v r => ?_⟩
  exact p1 as1 H1 _ e1 s1 ((er.ext e1 s.len).set r.d i)
theorem Ext.regAt {p : Addr} {d : D} (e : Ext as st H as1 st1 H1) (hl : as.length = st.length) (hl1 : as1.length = st1.length) (hp : H p = none) : Ext as st H (as1 ++ [p]) (st1 ++ [some d]) H1 := by
  refine ⟨e.pre.trans ⟨[p], rfl⟩, fun i a h hi => ?_, fun i h => ?_, by have := e.len; simp; omega, e.keep, e.there⟩
  · by_cases hi2 : i < as1.length
    · rw [List.getElem?_append_left hi2] at h
      exact e.new i a h hi
    · rw [List.getElem?_append_right (by omega)] at h
      by_cases h0 : i - as1.length = 0
      · rw [h0] at h
        have q : p = a := Option.some.inj h
        rw [← q]; exact hp
      · rw [show ([p] : List Addr)[i - as1.length]? = none from List.getElem?_eq_none_iff.mpr (by simp; omega)] at h
        cases h
  · have q := e.dead i h
    obtain ⟨hi, _⟩ := List.getElem?_eq_some_iff.mp q
    rw [List.getElem?_append_left hi]; exact q
/-- a new container becomes a cell -/
theorem RelW.reg {d : D} {v : V} (e : Ext as st H as1 st1 H1) (s : StR G as st H) (s1 : StR G as1 st1 H1) (r : RelW G H as1 st1 H1 (.new d) v) :
    ∃ p, v = .ref p ∧ Ext as st H (as1 ++ [p]) (st1 ++ [some d]) H1 ∧ StR G (as1 ++ [p]) (st1 ++ [some d]) H1 ∧ RelD G (as1 ++ [p]) (Live (as1 ++ [p]) (st1 ++ [some d])) H1 (.ref st1.length) v := by
  obtain ⟨p, rfl, hp, n, c, sl⟩ := r
  refine ⟨p, rfl, e.regAt s.len s1.len hp, sl.reg n c, .ref ?_⟩
  rw [List.getElem?_append_right (by have := s1.len; omega), show st1.length - as1.length = 0 by have := s1.len; omega]
  rfl
theorem tS_reg {i : Nat} {e : EM} (h : tS G E (sReg i e) De σ H) : tAsg (tI G E e) (gName i) De σ H := by
  obtain ⟨as, st, env, s, er, p⟩ := h
  refine ⟨as, st, env, s, er, (SPost.of s.len er p).mono fun w as1 st1 H1 e1 s1 p1 v r => ?_⟩
  cases w with
  | val d => exact p1.elim
  | new d =>
    obtain ⟨q, rfl, e2, s2, r2⟩ := r.reg e1 s s1
    exact p1 _ H1 _ e2 s2 ((er.ext e2 s.len).set r2 i)
end
/-! ### targets -/
abbrev GD := D → DEnv → Option DEnv
def gdName (i : Nat) : GD := fun d env => some (env.set i (some d))
def gdSeq : List GD → List D → DEnv → Option DEnv
  | [], [], env => some env
  | g :: gs, d :: ds, env => (g d env).bind fun env1 => gdSeq gs ds env1
  | _, _, _ => none
def gdTup (gs : List GD) : GD := fun d env => match d with
  | .tup ds => gdSeq gs ds env
  | _ => none
def gdLst (gs : List GD) : GD := fun d env => match d with
  | .lst ds => gdSeq gs ds env
  | _ => none
/-- a target's reading: by a value -/
def SameBut (sl : List Nat) (σ' σ : L2.St) : Prop := ∀ vs : List Nat, (∀ i ∈ sl, i ∈ vs) → wipe σ' vs = wipe σ vs
def tG (G : Gx) (g : GD) (sl : List Nat) : TG := fun v σ H Q => ∃ as st env d env', StR G as st H ∧ EnvR G as (Live as st) H env σ ∧ RelD G as (Live as st) H d v ∧ g d env = some env' ∧ ∀ σ', EnvR G as (Live as st) H env' σ' → SameBut sl σ' σ → Q σ' H
def tGs (G : Gx) (gs : List GD) (sl : List Nat) : TGs := fun vs σ H Q => ∃ as st env ds env', StR G as st H ∧ EnvR G as (Live as st) H env σ ∧ RelDs G as (Live as st) H ds vs ∧ gdSeq gs ds env = some env' ∧ ∀ σ', EnvR G as (Live as st) H env' σ' → SameBut sl σ' σ → Q σ' H
theorem wipe_get (σ : L2.St) : ∀ (vs : List Nat) (j : Nat), (wipe σ vs)[j]? = if j ∈ vs then (if j < σ.length then some none else none) else σ[j]?
  | [], j => by simp [wipe]
  | v :: vs, j => by
    unfold wipe
    rw [List.getElem?_set]
    by_cases h : v = j
    · subst h
      simp [wipe_length]
    · rw [if_neg h, wipe_get σ vs j]
      have : j ∈ v :: vs ↔ j ∈ vs := by simp [Ne.symm h]
      by_cases hj : j ∈ vs
      · rw [if_pos hj, if_pos (this.mpr hj)]
      · rw [if_neg hj, if_neg (fun z => hj (this.mp z))]
theorem SameBut.set {σ : L2.St} {i : Nat} {x : Option V} : SameBut [i] (σ.set i x) σ := fun vs h => by
  have hi : i ∈ vs := h i (by simp)
  apply List.ext_getElem?
  intro j
  rw [wipe_get, wipe_get]
  by_cases hj : j ∈ vs
  · rw [if_pos hj, if_pos hj]; simp
  · rw [if_neg hj, if_neg hj]
    rw [List.getElem?_set_ne (fun (z : i = j) => hj (z ▸ hi))]
theorem _root_.L2.PG.vi {X : Cx} {e : Expr} {t t' : TG} (h : PG X e t) (k : ∀ v σ H Q, t' v σ H Q → t v σ H Q) : PG X e t' := ⟨fun pins s σ H v u Q I r q => h.run pins s σ H v u Q I r (k v σ H Q q)⟩
theorem _root_.L2.PGs.vi {X : Cx} {e : List Expr} {t t' : TGs} (h : PGs X e t) (k : ∀ v σ H Q, t' v σ H Q → t v σ H Q) : PGs X e t' := ⟨fun pins s σ H v u Q I r q => h.run pins s σ H v u Q I r (k v σ H Q q)⟩
theorem _root_.L2.PI.vi {X : Cx} {tg e : Expr} {t t' : TI} (h : PI X tg e t) (k : ∀ σ H Q, t' σ H Q → t σ H Q) : PI X tg e t' := ⟨fun pins s σ H R I q => h.run pins s σ H R I (k σ H R q)⟩
section
variable {G : Gx} {E : WX} {X : Cx} {De : Ends} {as as' as1 : List Addr} {st st' st1 : Store} {H H' H1 : Hp} {σ : L2.St} {pos : Pos}
theorem pG_name {i : Nat} {x : Str} (hN : X.N.Nodup) (hi : X.N[i]? = some x) (hx : Loc X.env.scope x) (hf : X.fn x = true ∨ X.env.scope.names.lookup x = some .local := by first | exact .inl rfl | exact .inr rfl | assumption) : PG X (.Name x pos) (tG G (gdName i) [i]) :=
  (pg_name hN hi hx hf).vi fun v σ H Q ⟨as, st, env, d, env', s, er, r, q, k⟩ => by
    cases q
    exact k _ (er.set r i) SameBut.set
theorem pGs_nil : PGs X [] (tGs G [] []) := pgs_nil.vi fun v σ H Q ⟨as, st, env, ds, env', s, er, r, q, k⟩ => by
  cases r with
  | nil =>
    cases q
    exact ⟨rfl, k _ er fun _ _ => rfl⟩
  | cons _ _ => cases q
theorem pGs_cons {e : Expr} {es : List Expr} {g : GD} {gs : List GD} {sl sls : List Nat} (h1 : PG X e (tG G g sl)) (h2 : PGs X es (tGs G gs sls))
    (hs : (assignEach (e :: es) X.env).map (·.2) = assign e X.env :: (assignEach es X.env).map (·.2) := by rfl) : PGs X (e :: es) (tGs G (g :: gs) (sl ++ sls)) := (pgs_cons h1 h2 hs).vi fun v σ H Q ⟨as, st, env, ds, env', s, er, r, q, k⟩ => by
  cases r with
  | nil => cases q
  | @cons d v' ds vs r rr =>
    have q : (g d env).bind (fun env1 => gdSeq gs ds env1) = some env' := q
    cases q1 : g d env with
    | none => rw [q1] at q; cases q
    | some env1 =>
      rw [q1] at q
      exact ⟨_, _, rfl, as, st, env, d, env1, s, er, r, q1, fun σ' er' sb => ⟨as, st, env1, ds, env', s, er', rr, q, fun σ2 er2 sb2 => k σ2 er2 fun vs hv => (sb2 vs fun i hi => hv i (List.mem_append_right _ hi)).trans (sb vs fun i hi => hv i (List.mem_append_left _ hi))⟩⟩
theorem pG_tup {es : List Expr} {k : Nat} {gs : List GD} {sl : List Nat} {n : Nat} (hK : G.K = X.K) (hc : X.calm = true) (h : PGs X es (tGs G gs sl)) (hgs : gs.length = n)
    (hn : (assignEach es X.env).length = n := by rfl) (hst : (assignEach es X.env).findIdx? (·.1) = none := by rfl) : PG X (.Tuple es k pos) (tG G (gdTup gs) sl) := (pg_tup hc h hn hst).vi fun v σ H Q ⟨as, st, env, d, env', s, er, r, q, k⟩ => by
  cases r with
  | @tup ds p vs hT hd =>
    have q : gdSeq gs ds env = some env' := q
    have len : ∀ (gs : List GD) (ds : List D) (env env' : DEnv), gdSeq gs ds env = some env' → ds.length = gs.length := by
      intro gs
      induction gs with
      | nil => intro ds env env' h; cases ds with
        | nil => rfl
        | cons _ _ => cases h
      | cons g gs ih => intro ds env env' h; cases ds with
        | nil => cases h
        | cons d ds =>
          have h : (g d env).bind (fun env1 => gdSeq gs ds env1) = some env' := h
          cases q1 : g d env with
          | none => rw [q1] at h; cases h
          | some env1 => rw [q1] at h; simp [ih ds env1 env' h]
    rw [hK] at hT
    exact ⟨p, vs, rfl, hT, by rw [← hd.length, len _ _ _ _ q, hgs], as, st, env, ds, env', s, er, hd, q, k⟩
  | _ => cases q
theorem pG_lst {es : List Expr} {k : Nat} {gs : List GD} {sl : List Nat} {n : Nat} (hK : G.K = X.K) (hc : X.calm = true) (h : PGs X es (tGs G gs sl)) (hgs : gs.length = n)
    (hn : (assignEach es X.env).length = n := by rfl) (hst : (assignEach es X.env).findIdx? (·.1) = none := by rfl) : PG X (.Tuple es k pos) (tG G (gdLst gs) sl) := (pg_unl hc h hn hst).vi fun v σ H Q ⟨as, st, env, d, env', s, er, r, q, k⟩ => by
  have len : ∀ (gs : List GD) (ds : List D) (env env' : DEnv), gdSeq gs ds env = some env' → ds.length = gs.length := by
    intro gs
    induction gs with
    | nil => intro ds env env' h; cases ds with
      | nil => rfl
      | cons _ _ => cases h
    | cons g gs ih => intro ds env env' h; cases ds with
      | nil => cases h
      | cons d ds =>
        have h : (g d env).bind (fun env1 => gdSeq gs ds env1) = some env' := h
        cases q1 : g d env with
        | none => rw [q1] at h; cases h
        | some env1 => rw [q1] at h; simp [ih ds env1 env' h]
  cases r with
  | @lst ds p vs hT hL hd =>
    have q : gdSeq gs ds env = some env' := q
    exact ⟨p, vs, rfl, .inl hT, by rw [← hd.length, len _ _ _ _ q, hgs], as, st, env, ds, env', s, er, hd, q, k⟩
  | @lstK ds p vs hT hd =>
    have q : gdSeq gs ds env = some env' := q
    rw [hK] at hT
    exact ⟨p, vs, rfl, .inr hT, by rw [← hd.length, len _ _ _ _ q, hgs], as, st, env, ds, env', s, er, hd, q, k⟩
  | _ => cases q

/-- an expression, then a target: by value -/
def sAsg (g : GD) (e : EM) : SM := fun env st => SRes.of env (e env st) fun w st1 => match g w.d env with
  | some env1 => .nx env1 st1
  | none => .stuck
theorem tS_asg {g : GD} {sl : List Nat} {e : EM} (h : tS G E (sAsg g e) De σ H) : tAsg (tI G E e) (tG G g sl) De σ H := by
  obtain ⟨as, st, env, s, er, p⟩ := h
  refine ⟨as, st, env, s, er, (SPost.of s.len er p).mono fun w as1 st1 H1 e1 s1 p1 v r => ?_⟩
  cases q : g w.d env with
  | none => simp only [q] at p1; exact p1.elim
  | some env1 =>
    simp only [q] at p1
    exact ⟨as1, st1, env, w.d, env1, s1, er.ext e1 s.len, r.d, q, fun σ' er' _ => p1 as1 H1 σ' e1 s1 er'⟩
/-- a, b = x, y -/
def sPar (i j : Nat) (m : AM) : SM := fun env st => SRes.of env (m env st) fun ds st1 => match ds with
  | [d, e] => .nx ((env.set i (some d)).set j (some e)) st1
  | _ => .stuck
theorem tS_par {i j : Nat} {m : AM} (h : tS G E (sPar i j m) De σ H) : tPar i j (tAr G E m) De σ H := by
  obtain ⟨as, st, env, s, er, p⟩ := h
  refine ⟨as, st, env, s, er, (SPost.of s.len er p).mono fun ds as1 st1 H1 e1 s1 p1 vs r => ?_⟩
  cases r with
  | nil => exact p1.elim
  | cons r1 r =>
    cases r with
    | nil => exact p1.elim
    | cons r2 r =>
      cases r with
      | nil => exact ⟨_, _, rfl, p1 as1 H1 _ e1 s1 (((er.ext e1 s.len).set r1 i).set r2 j)⟩
      | cons _ _ => exact p1.elim

/-! ### what a for walks -/
structure IterV where
  items : List D
  src : Option Nat
abbrev IM := DEnv → Store → Res IterV
def srcOk (iv : IterV) (st : Store) : Bool := match iv.src with
  | none => true
  | some n => decide (st[n]? = some (some (.lst iv.items)))
structure Src (G : Gx) (J : It) (iv : IterV) (as : List Addr) (st : Store) (H : Hp) : Prop where
  go : ∀ as' st' H', Ext as st H as' st' H' → StR G as' st' H' → srcOk iv st' = true → ∀ (i : Nat) (d : D), iv.items[i]? = some d →
    J.go i H' ∧ ∀ x H2, J.yld i H' x H2 → Ext as' st' H' as' st' H2 ∧ StR G as' st' H2 ∧ RelD G as' (Live as' st') H2 d x
  stop : ∀ as' st' H', Ext as st H as' st' H' → StR G as' st' H' → srcOk iv st' = true → ∀ i : Nat, iv.items.length ≤ i → J.stop i H'
def tIt (G : Gx) (E : WX) (m : IM) : TI := fun σ H R => ∃ as st env, StR G as st H ∧ EnvR G as (Live as st) H env σ ∧ Post G (eAt E σ) as st H (m env st) fun iv as' st' H' => ∀ J, Src G J iv as' st' H' → R J H'
def forGo (iv : IterV) (g : GD) (body : SM) : List D → SM
  | [], env, st => if srcOk iv st = true then .nx env st else .stuck
  | d :: r, env, st => if srcOk iv st = true then (match g d env with
    | none => .stuck
    | some env1 => match body env1 st with
      | .nx e s => forGo iv g body r e s
      | .cnt e s => forGo iv g body r e s
      | .brk e s => .nx e s
      | .ret w s => .ret w s
      | .exc e x s => .exc e x s
      | .stuck => .stuck) else .stuck
def sFor (m : IM) (g : GD) (body : SM) : SM := fun env st => SRes.of env (m env st) fun iv st1 => forGo iv g body iv.items env st1
theorem tS_for {m : IM} {g : GD} {sl : List Nat} {body : SM} (h : tS G E (sFor m g body) De σ H) : tFor (tIt G E m) (tG G g sl) (tS G E body) De σ H := by
  obtain ⟨as, st, env, s, er, p⟩ := h
  refine ⟨as, st, env, s, er, (SPost.of s.len er p).mono fun iv as1 st1 H1 e1 s1 p1 J SJ => ?_⟩
  refine ⟨fun i m σ' H' => i ≤ iv.items.length ∧ m = iv.items.length - i ∧ ∃ as2 st2 env2, Ext as1 st1 H1 as2 st2 H' ∧ StR G as2 st2 H' ∧ EnvR G as2 (Live as2 st2) H' env2 σ' ∧ SPost G E De as2 st2 H' (forGo iv g body (iv.items.drop i) env2 st2),
    ⟨iv.items.length, by omega, by omega, as1, st1, env, Ext.rfl', s1, er.ext e1 s.len, by rw [List.drop_zero]; exact p1.from s.len e1⟩, ?_⟩
  rintro i m σ' H' ⟨hi, rfl, as2, st2, env2, e2, s2, er2, p2⟩
  by_cases hlt : i < iv.items.length
  · rw [List.drop_eq_getElem_cons hlt] at p2
    unfold forGo at p2
    by_cases ok : srcOk iv st2 = true
    · rw [if_pos ok] at p2
      obtain ⟨hgo, hy⟩ := SJ.go as2 st2 H' e2 s2 ok i iv.items[i] (List.getElem?_eq_getElem hlt)
      refine .inr ⟨hgo, fun σ3 H3 => ∃ as3 st3 env3, Ext as1 st1 H1 as3 st3 H3 ∧ StR G as3 st3 H3 ∧ EnvR G as3 (Live as3 st3) H3 env3 σ3 ∧ SPost G E De as3 st3 H3 (forGo iv g body (iv.items.drop (i + 1)) env3 st3),
        fun σ3 H3 ⟨as3, st3, env3, q⟩ => ⟨iv.items.length - (i + 1), by omega, by omega, rfl, as3, st3, env3, q⟩, fun x H2 hx => ?_⟩
      obtain ⟨e3, s3, r3⟩ := hy x H2 hx
      cases q : g iv.items[i] env2 with
      | none => simp only [q] at p2; exact p2.elim
      | some env3 =>
        simp only [q] at p2
        have p3 := p2.from s2.len e3
        refine ⟨as2, st2, env2, iv.items[i], env3, s3, er2.ext e3 s2.len, r3, q, fun σ3 er3 _ => ⟨as2, st2, env3, s3, er3, ?_⟩⟩
        have ee : Ext as1 st1 H1 as2 st2 H2 := e2.trans e3 s1.len
        cases qb : body env3 st2 with
        | nx e s =>
          simp only [qb] at p3
          exact fun as4 H4 σ4 e4 s4 r4 => ⟨as4, s, e, ee.trans e4 s1.len, s4, r4, p3.from s3.len e4⟩
        | cnt e s =>
          simp only [qb] at p3
          exact fun as4 H4 σ4 e4 s4 r4 => ⟨as4, s, e, ee.trans e4 s1.len, s4, r4, p3.from s3.len e4⟩
        | brk e s => simp only [qb] at p3; exact p3
        | ret w s => simp only [qb] at p3; exact p3
        | exc e x s => simp only [qb] at p3; exact p3
        | stuck => simp only [qb] at p3; exact p3
    · rw [if_neg ok] at p2; exact p2.elim
  · rw [List.drop_of_length_le (by omega)] at p2
    unfold forGo at p2
    by_cases ok : srcOk iv st2 = true
    · rw [if_pos ok] at p2
      exact .inl ⟨SJ.stop as2 st2 H' e2 s2 ok i (by omega), p2 as2 H' σ' Ext.rfl' s2 er2⟩
    · rw [if_neg ok] at p2; exact p2.elim
end
end VI
namespace VI
open PySem PySem.Spec PyProof.Rows L2
theorem _root_.L2.PI.viOr {X : Cx} {tg e : Expr} {t t' : TI} (h : PI X tg e t) (h' : PI X tg e t') : PI X tg e (fun σ H R => t σ H R ∨ t' σ H R) := ⟨fun pins s σ H R I q => q.elim (h.run pins s σ H R I) (h'.run pins s σ H R I)⟩
def lstOf (d : D) (st : Store) : Option (List D × Option Nat) := match d with
  | .lst ds => some (ds, none)
  | .ref n => match st[n]? with
    | some (some (.lst ds)) => some (ds, some n)
    | _ => none
  | _ => none
def seqOf (d : D) (st : Store) : Option (List D × Option Nat) := match d with
  | .tup ds => some (ds, none)
  | .str x => some (x.cps.toList.map fun c => D.str ⟨#[c]⟩, none)
  | d => lstOf d st
def itSeq (e : EM) : IM := fun env st => (e env st).bind fun w st1 => match seqOf w.d st1 with
  | some (ds, src) => .ok ⟨ds, src⟩ st1
  | none => .stuck
def rangeD (lo : Int) (n : Nat) : List D := (List.range n).map fun (i : Nat) => D.int (lo + (i : Int))
def okR (i : Int) : Bool := decide (-(2 ^ 62) ≤ i) && decide (i < 2 ^ 62)
def itR1 (m : AM) : IM := fun env st => (m env st).bind fun ds st1 => match ds with
  | [.int j] => if okR j = true then .ok ⟨rangeD 0 j.toNat, none⟩ st1 else .stuck
  | _ => .stuck
def itR2 (m : AM) : IM := fun env st => (m env st).bind fun ds st1 => match ds with
  | [.int i, .int j] => if (okR i && okR j) = true then .ok ⟨rangeD i (j - i).toNat, none⟩ st1 else .stuck
  | _ => .stuck
def numD : Nat → List D → List D
  | _, [] => []
  | i, d :: ds => .tup [.int (i : Nat), d] :: numD (i + 1) ds
def itEnum (m : AM) : IM := fun env st => (m env st).bind fun ds st1 => match ds with
  | [d] => match lstOf d st1 with
    | some (ds, none) => .ok ⟨numD 0 ds, none⟩ st1
    | _ => .stuck
  | _ => .stuck
def zipD : List D → List D → List D
  | a :: as, b :: bs => .tup [a, b] :: zipD as bs
  | _, _ => []
def itZip (m : AM) : IM := fun env st => (m env st).bind fun ds st1 => match ds with
  | [.tup a, .tup b] => .ok ⟨zipD a b, none⟩ st1
  | [.lst a, .lst b] => .ok ⟨zipD a b, none⟩ st1
  | _ => .stuck
def itRev (e : EM) : IM := fun env st => (e env st).bind fun w st1 => match w.d with
  | .tup ds => .ok ⟨ds.reverse, none⟩ st1
  | .lst ds => .ok ⟨ds.reverse, none⟩ st1
  | _ => .stuck
section
variable {G : Gx} {E : WX} {X : Cx} {De : Ends} {as as' as1 : List Addr} {st st' st1 : Store} {H H' H1 : Hp} {σ : L2.St} {pos : Pos} {L : Addr → Prop}
theorem RelDs.get : ∀ {ds : List D} {vs : List V} {i : Nat} {d : D}, RelDs G as L H ds vs → ds[i]? = some d → ∃ v, vs[i]? = some v ∧ RelD G as L H d v
  | _, _, _, _, .nil, h => by simp at h
  | _, _, 0, _, .cons r _, h => by
    simp at h
    exact ⟨_, rfl, h ▸ r⟩
  | _, _, i + 1, d, .cons _ t, h => by
    obtain ⟨v, h1, h2⟩ := RelDs.get (i := i) (d := d) t (by simpa using h)
    exact ⟨v, by simpa using h1, h2⟩
/-- a list, by value or a cell, as HandS reads it -/
theorem lstOf_sq (s : StR G as st H) {d : D} {v : V} {ds : List D} {src : Option Nat} (r : RelD G as (Live as st) H d v) (h : lstOf d st = some (ds, src)) :
    ∃ p vs, v = .ref p ∧ SqL G.K H p vs ∧ RelDs G as (Live as st) H ds vs := by
  cases r with
  | @ref n a ha =>
    unfold lstOf at h
    cases q : st[n]? with
    | none => simp only [q] at h; cases h
    | some o =>
      cases o with
      | none => simp only [q] at h; cases h
      | some d =>
        cases d with
        | lst ds' =>
          simp only [q] at h
          cases h
          obtain ⟨a', ha', vs, hv, rr⟩ := s.cells n _ q
          rw [ha] at ha'; cases ha'
          exact ⟨a, vs, rfl, .inl (.inl hv), rr⟩
        | _ => simp only [q] at h; cases h
  | @lst ds' p vs hr hl rr => cases h; exact ⟨p, vs, rfl, .inl hr, rr⟩
  | @lstK ds' p vs hr rr => cases h; exact ⟨p, vs, rfl, .inr hr, rr⟩
  | _ => simp only [lstOf] at h; cases h
theorem lstOf_src {d : D} {ds : List D} {n : Nat} (h : lstOf d st = some (ds, some n)) : d = .ref n ∧ st[n]? = some (some (.lst ds)) := by
  cases d with
  | ref m =>
    simp only [lstOf] at h
    cases q : st[m]? with
    | none => simp only [q] at h; cases h
    | some o =>
      cases o with
      | none => simp only [q] at h; cases h
      | some d =>
        cases d with
        | lst ds' => simp only [q] at h; cases h; exact ⟨rfl, q⟩
        | _ => simp only [q] at h; cases h
  | _ => simp only [lstOf] at h; cases h
theorem lstOf_later {d : D} {ds : List D} {src : Option Nat} (h : lstOf d st = some (ds, src)) (ok : srcOk ⟨ds, src⟩ st' = true) : lstOf d st' = some (ds, src) := by
  cases src with
  | none =>
    cases d with
    | ref m =>
      simp only [lstOf] at h
      cases q : st[m]? with
      | none => simp only [q] at h; cases h
      | some o =>
        cases o with
        | none => simp only [q] at h; cases h
        | some d => cases d <;> simp only [q] at h <;> cases h
    | lst _ => exact h
    | _ => simp only [lstOf] at h; cases h
  | some n =>
    obtain ⟨rfl, _⟩ := lstOf_src h
    have ok : st'[n]? = some (some (.lst ds)) := by simpa [srcOk] using ok
    simp only [lstOf, ok]
theorem src_lst (s : StR G as st H) {d : D} {a : Addr} {ds : List D} {src : Option Nat} (r : RelD G as (Live as st) H d (.ref a)) (h : lstOf d st = some (ds, src)) : Src G (Itl G.K a) ⟨ds, src⟩ as st H where
  go := fun as' st' H' e s' ok i d' hi => by
    obtain ⟨p, vs, ep, hs, rr⟩ := lstOf_sq s' (r.ext e s.len) (lstOf_later h ok)
    cases ep
    obtain ⟨x, hx, rx⟩ := rr.get hi
    refine ⟨⟨vs, x, hs, hx⟩, fun y H2 hy => ?_⟩
    obtain ⟨rfl, hy⟩ := hy
    have := hy vs hs
    rw [hx] at this; cases this
    exact ⟨Ext.rfl', s', rx⟩
  stop := fun as' st' H' e s' ok i hi => by
    obtain ⟨p, vs, ep, hs, rr⟩ := lstOf_sq s' (r.ext e s.len) (lstOf_later h ok)
    cases ep
    exact ⟨vs, hs, by rw [← rr.length]; exact hi⟩
theorem src_tup (s : StR G as st H) {p : Addr} {vs : List V} {ds : List D} (h : SqT G.K H p vs) (rr : RelDs G as (Live as st) H ds vs) : Src G (Itt G.K p) ⟨ds, none⟩ as st H where
  go := fun as' st' H' e s' ok i d' hi => by
    have hs : SqT G.K H' p vs := sqT_mono (L := Live as st) e.keep h
    obtain ⟨x, hx, rx⟩ := (rr.ext e s.len).get hi
    refine ⟨⟨vs, x, hs, hx⟩, fun y H2 hy => ?_⟩
    obtain ⟨rfl, hy⟩ := hy
    have := hy vs hs
    rw [hx] at this; cases this
    exact ⟨Ext.rfl', s', rx⟩
  stop := fun as' st' H' e s' ok i hi => ⟨vs, sqT_mono (L := Live as st) e.keep h, by rw [← rr.length]; exact hi⟩
theorem src_str {x : Str} : Src G (Its x) ⟨x.cps.toList.map fun c => D.str ⟨#[c]⟩, none⟩ as st H where
  go := fun as' st' H' e s' ok i d' hi => by
    have hi : (x.cps.toList.map fun c => D.str ⟨#[c]⟩)[i]? = some d' := hi
    rw [List.getElem?_map] at hi
    cases q : x.cps.toList[i]? with
    | none => rw [q] at hi; cases hi
    | some c =>
      rw [q] at hi
      cases hi
      obtain ⟨h1, h2⟩ := List.getElem?_eq_some_iff.mp q
      refine ⟨by show i < x.cps.size; simpa using h1, fun y H2 hy => ?_⟩
      obtain ⟨rfl, c', hc, rfl⟩ := hy
      have : x.cps[i]? = some c := by rw [← q]; simp
      rw [this] at hc; cases hc
      exact ⟨Ext.rfl', s', .str _⟩
  stop := fun as' st' H' e s' ok i hi => by
    show x.cps.size ≤ i
    simpa using hi
theorem src_rng {lo : Int} {n : Nat} : Src G (Itr lo n) ⟨rangeD lo n, none⟩ as st H where
  go := fun as' st' H' e s' ok i d' hi => by
    have hi : (rangeD lo n)[i]? = some d' := hi
    unfold rangeD at hi
    rw [List.getElem?_map] at hi
    cases q : (List.range n)[i]? with
    | none => rw [q] at hi; cases hi
    | some c =>
      rw [q] at hi
      cases hi
      obtain ⟨h1, h2⟩ := List.getElem?_eq_some_iff.mp q
      simp at h1 h2
      subst h2
      refine ⟨h1, fun y H2 hy => ?_⟩
      obtain ⟨rfl, rfl⟩ := hy
      exact ⟨Ext.rfl', s', .int _⟩
  stop := fun as' st' H' e s' ok i hi => by
    show n ≤ i
    simpa [rangeD] using hi
theorem numD_get : ∀ (ds : List D) (k i : Nat) (d : D), (numD k ds)[i]? = some d → ∃ x, ds[i]? = some x ∧ d = .tup [.int ((k + i : Nat) : Int), x]
  | [], _, _, _, h => by simp [numD] at h
  | x :: ds, k, 0, d, h => by
    simp [numD] at h
    exact ⟨x, rfl, by rw [← h]; simp⟩
  | x :: ds, k, i + 1, d, h => by
    obtain ⟨y, h1, h2⟩ := numD_get ds (k + 1) i d (by simpa [numD] using h)
    exact ⟨y, by simpa using h1, by rw [h2]; simp; omega⟩
theorem numD_len : ∀ (ds : List D) (k : Nat), (numD k ds).length = ds.length
  | [], _ => rfl
  | x :: ds, k => by simp [numD, numD_len ds (k + 1)]
theorem src_enum (s : StR G as st H) {d : D} {a : Addr} {ds : List D} (r : RelD G as (Live as st) H d (.ref a)) (h : lstOf d st = some (ds, none)) : Src G (Ite G.K a) ⟨numD 0 ds, none⟩ as st H where
  go := fun as' st' H' e s' ok i d' hi => by
    obtain ⟨p, vs, ep, hs, rr⟩ := lstOf_sq s' (r.ext e s.len) (lstOf_later h rfl)
    cases ep
    obtain ⟨y, hy, rfl⟩ := numD_get ds 0 i d' hi
    obtain ⟨x, hx, rx⟩ := rr.get hy
    refine ⟨⟨vs, x, hs, hx⟩, fun z H2 hz => ?_⟩
    obtain ⟨T, x', rfl, hT, rfl, hall⟩ := hz
    have := hall vs hs
    rw [hx] at this; cases this
    refine ⟨Ext.lay hT, s'.laid hT, ?_⟩
    have q : RelDs G as' (Live as' st') H' [.int ((0 + i : Nat) : Int), y] [.int (i : Nat), x] := .cons (by rw [Nat.zero_add]; exact .int _) (.cons rx .nil)
    exact RelD.newTup s' q hT
  stop := fun as' st' H' e s' ok i hi => by
    obtain ⟨p, vs, ep, hs, rr⟩ := lstOf_sq s' (r.ext e s.len) (lstOf_later h rfl)
    cases ep
    have hi : (numD 0 ds).length ≤ i := hi
    rw [numD_len] at hi
    exact ⟨vs, hs, by rw [← rr.length]; exact hi⟩
theorem zipD_get : ∀ (as bs : List D) (i : Nat) (d : D), (zipD as bs)[i]? = some d → ∃ x y, as[i]? = some x ∧ bs[i]? = some y ∧ d = .tup [x, y]
  | [], _, _, _, h => by simp [zipD] at h
  | _ :: _, [], _, _, h => by simp [zipD] at h
  | a :: as, b :: bs, 0, d, h => by
    simp [zipD] at h
    exact ⟨a, b, rfl, rfl, h.symm⟩
  | a :: as, b :: bs, i + 1, d, h => by
    obtain ⟨x, y, h1, h2, h3⟩ := zipD_get as bs i d (by simpa [zipD] using h)
    exact ⟨x, y, by simpa using h1, by simpa using h2, h3⟩
theorem zipD_len : ∀ (as bs : List D), (zipD as bs).length = min as.length bs.length
  | [], _ => by simp [zipD]
  | _ :: _, [] => by simp [zipD]
  | a :: as, b :: bs => by simp [zipD, zipD_len as bs]
theorem src_zipT (s : StR G as st H) {p q : Addr} {xs ys : List V} {a b : List D} (h1 : SqT G.K H p xs) (h2 : SqT G.K H q ys) (r1 : RelDs G as (Live as st) H a xs) (r2 : RelDs G as (Live as st) H b ys) : Src G (RZ.ItzT G.K p q) ⟨zipD a b, none⟩ as st H where
  go := fun as' st' H' e s' ok i d' hi => by
    have k1 : SqT G.K H' p xs := sqT_mono (L := Live as st) e.keep h1
    have k2 : SqT G.K H' q ys := sqT_mono (L := Live as st) e.keep h2
    obtain ⟨y, z, hy, hz, rfl⟩ := zipD_get a b i d' hi
    obtain ⟨x1, hx1, rx1⟩ := (r1.ext e s.len).get hy
    obtain ⟨x2, hx2, rx2⟩ := (r2.ext e s.len).get hz
    refine ⟨⟨xs, ys, x1, x2, k1, k2, hx1, hx2⟩, fun z H2 hz => ?_⟩
    obtain ⟨T, x', y', rfl, hT, rfl, g1, g2⟩ := hz
    have e1 := g1 xs k1
    have e2 := g2 ys k2
    rw [hx1] at e1; cases e1
    rw [hx2] at e2; cases e2
    exact ⟨Ext.lay hT, s'.laid hT, RelD.newTup s' (.cons rx1 (.cons rx2 .nil)) hT⟩
  stop := fun as' st' H' e s' ok i hi => by
    have hi : (zipD a b).length ≤ i := hi
    rw [zipD_len] at hi
    refine ⟨xs, ys, sqT_mono (L := Live as st) e.keep h1, sqT_mono (L := Live as st) e.keep h2, ?_⟩
    rw [← r1.length, ← r2.length]
    omega
theorem src_zipL (s : StR G as st H) {p q : Addr} {a b : List D} (h1 : RelD G as (Live as st) H (.lst a) (.ref p)) (h2 : RelD G as (Live as st) H (.lst b) (.ref q)) : Src G (Itz G.K p q) ⟨zipD a b, none⟩ as st H where
  go := fun as' st' H' e s' ok i d' hi => by
    obtain ⟨p', xs, ep, k1, r1⟩ := lstOf_sq s' (h1.ext e s.len) (ds := a) (src := none) rfl
    cases ep
    obtain ⟨q', ys, eq, k2, r2⟩ := lstOf_sq s' (h2.ext e s.len) (ds := b) (src := none) rfl
    cases eq
    obtain ⟨y, z, hy, hz, rfl⟩ := zipD_get a b i d' hi
    obtain ⟨x1, hx1, rx1⟩ := r1.get hy
    obtain ⟨x2, hx2, rx2⟩ := r2.get hz
    refine ⟨⟨xs, ys, x1, x2, k1, k2, hx1, hx2⟩, fun z H2 hz => ?_⟩
    obtain ⟨T, x', y', rfl, hT, rfl, g1, g2⟩ := hz
    have e1 := g1 xs k1
    have e2 := g2 ys k2
    rw [hx1] at e1; cases e1
    rw [hx2] at e2; cases e2
    exact ⟨Ext.lay hT, s'.laid hT, RelD.newTup s' (.cons rx1 (.cons rx2 .nil)) hT⟩
  stop := fun as' st' H' e s' ok i hi => by
    obtain ⟨p', xs, ep, k1, r1⟩ := lstOf_sq s' (h1.ext e s.len) (ds := a) (src := none) rfl
    cases ep
    obtain ⟨q', ys, eq, k2, r2⟩ := lstOf_sq s' (h2.ext e s.len) (ds := b) (src := none) rfl
    cases eq
    have hi : (zipD a b).length ≤ i := hi
    rw [zipD_len] at hi
    refine ⟨xs, ys, k1, k2, ?_⟩
    rw [← r1.length, ← r2.length]
    omega
theorem rev_get {α : Type} (xs : List α) (i : Nat) (d : α) (h : xs.reverse[i]? = some d) : i < xs.length ∧ xs[xs.length - 1 - i]? = some d := by
  obtain ⟨h1, h2⟩ := List.getElem?_eq_some_iff.mp h
  have h1' : i < xs.length := by simpa using h1
  refine ⟨h1', ?_⟩
  rw [List.getElem?_reverse h1'] at h
  exact h
theorem src_revT (s : StR G as st H) {p : Addr} {vs : List V} {ds : List D} (h : SqT G.K H p vs) (rr : RelDs G as (Live as st) H ds vs) : Src G (RT.ItvT G.K p vs.length) ⟨ds.reverse, none⟩ as st H where
  go := fun as' st' H' e s' ok i d' hi => by
    have hs : SqT G.K H' p vs := sqT_mono (L := Live as st) e.keep h
    obtain ⟨hl, hg⟩ := rev_get ds i d' hi
    obtain ⟨x, hx, rx⟩ := (rr.ext e s.len).get hg
    rw [rr.length] at hl hx
    refine ⟨⟨hl, vs, x, hs, hx⟩, fun y H2 hy => ?_⟩
    obtain ⟨rfl, hy⟩ := hy
    have := hy vs hs
    rw [hx] at this; cases this
    exact ⟨Ext.rfl', s', rx⟩
  stop := fun as' st' H' e s' ok i hi => by
    show vs.length ≤ i
    rw [← rr.length]; simpa using hi
theorem src_revL (s : StR G as st H) {p : Addr} {vs : List V} {ds : List D} (h : RelD G as (Live as st) H (.lst ds) (.ref p)) (hv : SqL G.K H p vs) (rr : RelDs G as (Live as st) H ds vs) : Src G (Itv G.K p vs.length) ⟨ds.reverse, none⟩ as st H where
  go := fun as' st' H' e s' ok i d' hi => by
    obtain ⟨p', xs, ep, k1, r1⟩ := lstOf_sq s' (h.ext e s.len) (ds := ds) (src := none) rfl
    cases ep
    obtain ⟨hl, hg⟩ := rev_get ds i d' hi
    obtain ⟨x, hx, rx⟩ := r1.get hg
    rw [rr.length] at hl hx
    refine ⟨⟨hl, xs, x, k1, hx⟩, fun y H2 hy => ?_⟩
    obtain ⟨rfl, hy⟩ := hy
    have := hy xs k1
    rw [hx] at this; cases this
    exact ⟨Ext.rfl', s', rx⟩
  stop := fun as' st' H' e s' ok i hi => by
    show vs.length ≤ i
    rw [← rr.length]; simpa using hi
end
end VI
namespace VI
open PySem PySem.Spec PyProof.Rows L2
/-- an error is no dict -/
theorem DicR.noCl {G : Gx} {as : List Addr} {L : Addr → Prop} {H : Hp} {c : String} {d : D} {r : List (D × D)} {a : Addr} (h : DicR G as L H ((.cl c, d) :: r) a) : False := by
  cases h with
  | @k _ ks vs _ _ e _ =>
    cases ks with
    | nil => simp at e
    | cons k ks =>
      simp only [List.map_cons, List.cons.injEq] at e
      cases k <;> simp [keyD] at e
  | @n _ xs vs _ _ _ e _ _ _ =>
    cases xs with
    | nil => simp at e
    | cons x xs =>
      simp only [List.map_cons, List.cons.injEq] at e
      obtain ⟨k, b, v⟩ := x
      cases k <;> simp [dOf] at e
/-! ### cutting a store -/
mutual
def refsLt (k : Nat) : D → Bool
  | .ref n => decide (n < k)
  | .tup ds => refsLts k ds
  | .lst ds => refsLts k ds
  | .dic kvs => refsLtK k kvs
  | .obj _ fs => refsLtF k fs
  | _ => true
def refsLts (k : Nat) : List D → Bool
  | [] => true
  | d :: ds => refsLt k d && refsLts k ds
def refsLtK (k : Nat) : List (D × D) → Bool
  | [] => true
  | (a, b) :: ds => (refsLt k a && refsLt k b) && refsLtK k ds
def refsLtF (k : Nat) : List (Str × D) → Bool
  | [] => true
  | (_, b) :: ds => refsLt k b && refsLtF k ds
end
theorem refsLtK_split {k : Nat} : ∀ kvs : List (D × D), refsLtK k kvs = (refsLts k (kvs.map (·.1)) && refsLts k (kvs.map (·.2)))
  | [] => by simp [refsLtK, refsLts]
  | (a, b) :: r => by
    simp only [refsLtK, refsLtK_split r, List.map_cons, refsLts]
    cases refsLt k a <;> cases refsLt k b <;> cases refsLts k (r.map (·.1)) <;> rfl
theorem refsLts_keys (k : Nat) : ∀ ks : List Key, refsLts k (ks.map keyD) = true
  | [] => by simp [refsLts]
  | .inl i :: ks => by simp [refsLts, keyD, refsLt, refsLts_keys k ks]
  | .inr x :: ks => by simp [refsLts, keyD, refsLt, refsLts_keys k ks]
theorem refsLtK_and {k : Nat} {kvs : List (D × D)} (h : refsLtK k kvs = true) : refsLts k (kvs.map (·.1)) = true ∧ refsLts k (kvs.map (·.2)) = true := by
  rw [refsLtK_split, Bool.and_eq_true] at h; exact h
section
variable {G : Gx} {as : List Addr} {L : Addr → Prop} {H : Hp} {k : Nat}
mutual
theorem RelD.cut : ∀ {d : D} {v : V}, refsLt k d = true → RelD G as L H d v → RelD G (as.take k) L H d v
  | _, _, _, .non => .non
  | _, _, _, .bl b => .bl b
  | _, _, _, .int i => .int i
  | _, _, _, .str x => .str x
  | _, _, _, .ty n => .ty n
  | _, _, _, .cl h => .cl h
  | _, _, q, .ref h => .ref (by
      simp only [refsLt, decide_eq_true_eq] at q
      rw [List.getElem?_take_of_lt q]; exact h)
  | _, _, q, .tup h r => .tup h (RelDs.cut (by simpa only [refsLt] using q) r)
  | _, _, q, .lst h n r => .lst h n (RelDs.cut (by simpa only [refsLt] using q) r)
  | _, _, q, .lstK h r => .lstK h (RelDs.cut (by simpa only [refsLt] using q) r)
  | _, _, _, .err c h n => .err c h n
  | _, _, q, .errR c h n hp np r => .errR c h n hp np (RelD.cut (by simpa [refsLt, refsLtK, refsLts] using q) r)
  | _, _, q, .dic h n => .dic (DicR.cut (by simpa only [refsLt] using q) h) n
  | _, _, q, .obj c h1 h2 n r => .obj c h1 h2 n (RelFs.cut (by simpa only [refsLt] using q) r)
theorem RelDs.cut : ∀ {d : List D} {v : List V}, refsLts k d = true → RelDs G as L H d v → RelDs G (as.take k) L H d v
  | _, _, _, .nil => .nil
  | _, _, q, .cons r t => by
    simp only [refsLts, Bool.and_eq_true] at q
    exact .cons (RelD.cut q.1 r) (RelDs.cut q.2 t)
theorem DicR.cut : ∀ {kvs : List (D × D)} {a : Addr}, refsLtK k kvs = true → DicR G as L H kvs a → DicR G (as.take k) L H kvs a
  | _, _, q, .k h e r => .k h e (RelDs.cut (refsLtK_and q).2 r)
  | _, _, q, .n h z e r1 r2 v => .n h z e (RelDs.cut (refsLtK_and q).1 r1) (RelDs.cut (refsLtK_and q).2 r2) v
theorem RelFs.cut : ∀ {d : List (Str × D)} {v : List (Str × V)}, refsLtF k d = true → RelFs G as L H d v → RelFs G (as.take k) L H d v
  | _, _, _, .nil => .nil
  | _, _, q, .cons r t => by
    simp only [refsLtF, Bool.and_eq_true] at q
    exact .cons (RelD.cut q.1 r) (RelFs.cut q.2 t)
end
mutual
theorem RelD.refs : ∀ {d : D} {v : V}, RelD G as L H d v → refsLt as.length d = true
  | _, _, .non => by simp [refsLt]
  | _, _, .bl b => by simp [refsLt]
  | _, _, .int i => by simp [refsLt]
  | _, _, .str x => by simp [refsLt]
  | _, _, .ty n => by simp [refsLt]
  | _, _, .cl h => by simp [refsLt]
  | _, _, .ref h => by
      obtain ⟨h1, _⟩ := List.getElem?_eq_some_iff.mp h
      simp [refsLt, h1]
  | _, _, .tup h r => by simp only [refsLt]; exact RelDs.refs r
  | _, _, .lst h n r => by simp only [refsLt]; exact RelDs.refs r
  | _, _, .lstK h r => by simp only [refsLt]; exact RelDs.refs r
  | _, _, .err c h n => by simp [refsLt, refsLtK]
  | _, _, .errR c h n hp np r => by simpa [refsLt, refsLtK, refsLts] using RelD.refs r
  | _, _, .dic h n => by simp only [refsLt]; exact DicR.refs h
  | _, _, .obj c h1 h2 n r => by simp only [refsLt]; exact RelFs.refs r
theorem RelDs.refs : ∀ {d : List D} {v : List V}, RelDs G as L H d v → refsLts as.length d = true
  | _, _, .nil => by simp [refsLts]
  | _, _, .cons r t => by simp only [refsLts, Bool.and_eq_true]; exact ⟨RelD.refs r, RelDs.refs t⟩
theorem DicR.refs : ∀ {kvs : List (D × D)} {a : Addr}, DicR G as L H kvs a → refsLtK as.length kvs = true
  | _, _, .k h e r => by rw [refsLtK_split, e, refsLts_keys, RelDs.refs r]; rfl
  | _, _, .n h z e r1 r2 v => by rw [refsLtK_split, RelDs.refs r1, RelDs.refs r2]; rfl
theorem RelFs.refs : ∀ {d : List (Str × D)} {v : List (Str × V)}, RelFs G as L H d v → refsLtF as.length d = true
  | _, _, .nil => by simp [refsLtF]
  | _, _, .cons r t => by simp only [refsLtF, Bool.and_eq_true]; exact ⟨RelD.refs r, RelFs.refs t⟩
end
theorem CellR.cut {a : Addr} {d : D} (q : refsLt k d = true) (h : CellR G as L H a d) : CellR G (as.take k) L H a d := by
  cases d with
  | lst ds => obtain ⟨vs, e, r⟩ := h; exact ⟨vs, e, r.cut (by simpa only [refsLt] using q)⟩
  | dic kvs => exact (show DicR G as L H kvs a from h).cut (by simpa only [refsLt] using q)
  | obj c fs => obtain ⟨C, dx, vfs, c, e, e2, r⟩ := h; exact ⟨C, dx, vfs, c, e, e2, r.cut (by simpa only [refsLt] using q)⟩
  | _ => exact False.elim h
theorem CellR.refs {a : Addr} {d : D} (h : CellR G as L H a d) : refsLt as.length d = true := by
  cases d with
  | lst ds => obtain ⟨vs, e, r⟩ := h; simp only [refsLt]; exact r.refs
  | dic kvs => simp only [refsLt]; exact (show DicR G as L H kvs a from h).refs
  | obj c fs => obtain ⟨C, dx, vfs, c, e, e2, r⟩ := h; simp only [refsLt]; exact r.refs
  | _ => exact False.elim h
end
def cellLt (k : Nat) : Option D → Bool
  | some d => refsLt k d
  | none => true
/-- the store back to what it was at st0 (its cells may have changed) -/
def cutOk (st0 st' : Store) : Bool := decide (st0.length ≤ st'.length) && (decide (st'.take st0.length = st0) || (st'.take st0.length).all (cellLt st0.length))
section
variable {G : Gx} {as as0 as' : List Addr} {st st0 st' : Store} {H H0 H' : Hp} {L : Addr → Prop}
theorem cutOk_cells (s0 : StR G as0 st0 H0) (h : cutOk st0 st' = true) (i : Nat) (d : D) (hi : (st'.take st0.length)[i]? = some (some d)) : refsLt st0.length d = true := by
  unfold cutOk at h
  simp only [Bool.and_eq_true, Bool.or_eq_true, decide_eq_true_eq] at h
  rcases h.2 with h2 | h2
  · rw [h2] at hi
    obtain ⟨a, _, c⟩ := s0.cells i d hi
    have := c.refs
    rw [s0.len] at this; exact this
  · rw [List.all_eq_true] at h2
    exact h2 _ (List.mem_of_getElem? hi)
theorem live_cut {k : Nat} {b : Addr} (h : Live (as'.take k) (st'.take k) b) : Live as' st' b := by
  obtain ⟨i, d, h1, h2⟩ := h
  refine ⟨i, d, ?_, ?_⟩
  · by_cases hi : i < k
    · rw [List.getElem?_take_of_lt hi] at h1; exact h1
    · rw [List.getElem?_take_eq_none (by omega)] at h1; cases h1
  · by_cases hi : i < k
    · rw [List.getElem?_take_of_lt hi] at h2; exact h2
    · rw [List.getElem?_take_eq_none (by omega)] at h2; cases h2
theorem StR.cut (s0 : StR G as0 st0 H0) (s : StR G as' st' H') (h : cutOk st0 st' = true) : StRL G (as'.take st0.length) (Live as' st') (st'.take st0.length) H' := by
  refine ⟨by simp [s.len], s.nd.sublist (List.take_sublist _ _), fun i d hi => ?_, fun i a hi => ?_⟩
  · have q := cutOk_cells s0 h i d hi
    by_cases hk : i < st0.length
    · rw [List.getElem?_take_of_lt hk] at hi
      obtain ⟨a, h1, c⟩ := s.cells i d hi
      exact ⟨a, by rw [List.getElem?_take_of_lt hk]; exact h1, c.cut q⟩
    · rw [List.getElem?_take_eq_none (by omega)] at hi; cases hi
  · by_cases hk : i < st0.length
    · rw [List.getElem?_take_of_lt hk] at hi; exact s.there i a hi
    · rw [List.getElem?_take_eq_none (by omega)] at hi; cases hi
theorem Ext.cut (e : Ext as0 st0 H0 as' st' H') (s0 : StR G as0 st0 H0) : Ext as0 st0 H0 (as'.take st0.length) (st'.take st0.length) H' := by
  obtain ⟨m, rfl⟩ := e.pre
  have q : (as0 ++ m).take st0.length = as0 := by rw [← s0.len]; simp
  rw [q]
  refine ⟨List.prefix_refl _, fun i a h hi => ?_, fun i h => ?_, by have := e.len; simp; omega, e.keep, e.there⟩
  · rw [List.getElem?_eq_none_iff.mpr hi] at h; cases h
  · obtain ⟨hi, _⟩ := List.getElem?_eq_some_iff.mp h
    rw [List.getElem?_take_of_lt hi]; exact e.dead i h
end
/-- what a call hands back -/
def fin (st0 : Store) (w : Wv) (st' : Store) : Res Wv := if cutOk st0 st' = true then (match w with
  | .val (.ref m) => if m < st0.length then .ok (.val (.ref m)) (st'.take st0.length) else match st'[m]? with
    | some (some d) => if refsLt st0.length d = true then .ok (.new d) (st'.take st0.length) else .stuck
    | _ => .stuck
  | .val d => if refsLt st0.length d = true then .ok (.val d) (st'.take st0.length) else .stuck
  | .new d => if refsLt st0.length d = true then .ok (.new d) (st'.take st0.length) else .stuck) else .stuck
def finX (st0 : Store) (x : EX) (st' : Store) : Res Wv := if cutOk st0 st' = true ∧ (match x.row with | none => true | some d => refsLt st0.length d) = true then .exc x (st'.take st0.length) else .stuck
abbrev FnSem := List D → Store → Res Wv
def runP (n : Nat) (body : SM) : FnSem := fun ds st => match body (ds.map some ++ List.replicate (n - ds.length) none) st with
  | .nx _ st' => fin st (.val .non) st'
  | .ret w st' => fin st w st'
  | .exc _ x st' => finX st x st'
  | _ => .stuck
def spI (G : Gx) (n : Nat) (f : FnSem) : Sp := fun vs H Q Ex => vs.length = n ∧ ∃ as st ds, StR G as st H ∧ RelDs G as (Live as st) H ds vs ∧ Post G Ex as st H (f ds st) fun w as' st' H' => ∀ v, RelW G H as' st' H' w v → Q v H'
section
variable {G : Gx} {E : XK} {as as0 as' : List Addr} {st st0 st' : Store} {H H0 H' : Hp} {L : Addr → Prop}
theorem fin_ok {w w2 : Wv} {st2 : Store} (h : fin st0 w st' = .ok w2 st2) : cutOk st0 st' = true ∧ st2 = st'.take st0.length := by
  unfold fin at h
  by_cases c : cutOk st0 st' = true
  · rw [if_pos c] at h
    refine ⟨c, ?_⟩
    cases w with
    | new d =>
      by_cases q : refsLt st0.length d = true
      · simp only [q, if_true] at h; cases h; rfl
      · simp only [if_neg q] at h; cases h
    | val d =>
      cases d with
      | ref m =>
        simp only at h
        by_cases hm : m < st0.length
        · rw [if_pos hm] at h; cases h; rfl
        · rw [if_neg hm] at h
          split at h
          · split at h
            · cases h; rfl
            · cases h
          · cases h
      | _ =>
        simp only at h
        split at h
        · cases h; rfl
        · cases h
  · rw [if_neg c] at h; cases h
theorem fin_noexc {w : Wv} {x : EX} {st2 : Store} (h : fin st0 w st' = .exc x st2) : False := by
  unfold fin at h
  by_cases c : cutOk st0 st' = true
  · rw [if_pos c] at h
    cases w with
    | new d =>
      by_cases q : refsLt st0.length d = true
      · simp only [q, if_true] at h; cases h
      · simp only [if_neg q] at h; cases h
    | val d =>
      cases d with
      | ref m =>
        simp only at h
        by_cases hm : m < st0.length
        · rw [if_pos hm] at h; cases h
        · rw [if_neg hm] at h
          split at h
          · split at h
            · cases h
            · cases h
          · cases h
      | _ =>
        simp only at h
        split at h
        · cases h
        · cases h
  · rw [if_neg c] at h; cases h
theorem fin_rel {w w2 : Wv} {st2 : Store} {v : V} (s0 : StR G as0 st0 H0) (e : Ext as0 st0 H0 as' st' H') (s : StR G as' st' H') (r : RelW G H0 as' st' H' w v) (h : fin st0 w st' = .ok w2 st2) :
    StR G (as'.take st0.length) st2 H' ∧ RelW G H0 (as'.take st0.length) st2 H' w2 v := by
  obtain ⟨c, rfl⟩ := fin_ok h
  have sc := s0.cut s c
  refine ⟨sc.less fun b z => live_cut z, ?_⟩
  unfold fin at h
  rw [if_pos c] at h
  cases w with
  | new d =>
    by_cases q : refsLt st0.length d = true
    · simp only [q, if_true] at h
      cases h
      obtain ⟨p, rfl, hp, n, cr, sl⟩ := r
      refine ⟨p, rfl, hp, fun i hi => ?_, (cr.cut q).lessL fun b z => z.imp live_cut id, ?_⟩
      · by_cases hk : i < st0.length
        · rw [List.getElem?_take_of_lt hk] at hi; exact n i hi
        · rw [List.getElem?_take_eq_none (by omega)] at hi; cases hi
      · refine ⟨sc.len, sc.nd, fun i d' hi => ?_, sc.there⟩
        have q' := cutOk_cells s0 c i d' hi
        by_cases hk : i < st0.length
        · rw [List.getElem?_take_of_lt hk] at hi
          obtain ⟨a, h1, c'⟩ := sl.cells i d' hi
          exact ⟨a, by rw [List.getElem?_take_of_lt hk]; exact h1, (c'.cut q').lessL fun b z => z.imp live_cut id⟩
        · rw [List.getElem?_take_eq_none (by omega)] at hi; cases hi
    · simp only [if_neg q] at h; cases h
  | val d =>
    have r : RelD G as' (Live as' st') H' d v := r
    have fine : refsLt st0.length d = true → RelW G H0 (as'.take st0.length) (st'.take st0.length) H' (.val d) v := fun q => (r.cut q).lessL fun b z => live_cut z
    cases d with
    | ref m =>
      simp only at h
      by_cases hm : m < st0.length
      · rw [if_pos hm] at h; cases h
        exact fine (by simp [refsLt, hm])
      · rw [if_neg hm] at h
        cases q : st'[m]? with
        | none => simp only [q] at h; cases h
        | some o =>
          cases o with
          | none => simp only [q] at h; cases h
          | some d =>
            simp only [q] at h
            by_cases ql : refsLt st0.length d = true
            · rw [if_pos ql] at h
              cases h
              cases r with
              | @ref _ a ha =>
                obtain ⟨a', ha', cr⟩ := s.cells m d q
                rw [ha] at ha'; cases ha'
                have la : Live as' st' a := ⟨m, d, ha, q⟩
                refine ⟨a, rfl, e.new m a ha (by rw [s0.len]; omega), fun i hi => ?_, (cr.cut ql).lessL fun b z => z.elim live_cut fun z => z ▸ la, sc.less fun b z => z.elim live_cut fun z => z ▸ la⟩
                by_cases hk : i < st0.length
                · rw [List.getElem?_take_of_lt hk] at hi
                  obtain ⟨h1, e1⟩ := List.getElem?_eq_some_iff.mp ha
                  obtain ⟨h2, e2⟩ := List.getElem?_eq_some_iff.mp hi
                  have := (List.getElem_inj s.nd).mp (e1.trans e2.symm)
                  omega
                · rw [List.getElem?_take_eq_none (by omega)] at hi; cases hi
            · rw [if_neg ql] at h; cases h
    | _ =>
      simp only at h
      split at h
      · rename_i q
        cases h
        exact fine q
      · cases h
theorem EnvR.start {ds : List D} {vs : List V} {N : List Str} (r : RelDs G as L H ds vs) : EnvR G as L H (ds.map some ++ List.replicate (N.length - ds.length) none) (L2.start N vs) := by
  unfold L2.start
  refine ⟨by simp [r.length], fun i d h => ?_⟩
  by_cases hi : i < ds.length
  · rw [List.getElem?_append_left (by simpa using hi), List.getElem?_map] at h
    cases q : ds[i]? with
    | none => rw [q] at h; cases h
    | some d' =>
      rw [q] at h
      cases h
      obtain ⟨v, hv, rv⟩ := r.get q
      exact ⟨v, by rw [List.getElem?_append_left (by rw [List.length_map, ← r.length]; exact hi), List.getElem?_map, hv]; rfl, rv⟩
  · rw [List.getElem?_append_right (by simpa using hi)] at h
    rw [List.getElem?_replicate] at h
    split at h <;> cases h
/-- a def's body against its promise -/
theorem run_body {n : Nat} {N : List Str} {body : SM} {vs : List V} {Q : VK} {Ex : XK} (hn : N.length = n) (h : ∃ as st ds, StR G as st H ∧ RelDs G as (Live as st) H ds vs ∧ Post G Ex as st H (runP n body ds st) fun w as' st' H' => ∀ v, RelW G H as' st' H' w v → Q v H') :
    tS G (fun cv xd _ H => Ex cv xd H) body { nx := fun _ H' => Q .non H', rt := Q } (L2.start N vs) H := by
  obtain ⟨as, st, ds, s, r, p⟩ := h
  refine ⟨as, st, _, s, EnvR.start r, ?_⟩
  rw [hn]
  unfold runP at p
  cases q : body (ds.map some ++ List.replicate (n - ds.length) none) st with
  | nx env st' =>
    simp only [q] at p
    cases qf : fin st (.val .non) st' with
    | ok w2 st2 =>
      rw [qf] at p
      intro as' H' σ' e s' er'
      obtain ⟨s2, r2⟩ := fin_rel (w := .val .non) (v := .non) s e s' .non qf
      obtain ⟨_, rfl⟩ := fin_ok qf
      exact p _ H' (e.cut s) s2 _ r2
    | exc x st2 => exact (fin_noexc qf).elim
    | stuck => rw [qf] at p; exact p.elim
  | ret w st' =>
    simp only [q] at p
    cases qf : fin st w st' with
    | ok w2 st2 =>
      rw [qf] at p
      intro as' H' v e s' r'
      obtain ⟨s2, r2⟩ := fin_rel s e s' r' qf
      obtain ⟨_, rfl⟩ := fin_ok qf
      exact p _ H' (e.cut s) s2 _ r2
    | exc x st2 => exact (fin_noexc qf).elim
    | stuck => rw [qf] at p; exact p.elim
  | exc env x st' =>
    simp only [q] at p
    intro as' H' σ' cv xd e s' er' rx
    unfold finX at p
    by_cases c : cutOk st st' = true ∧ (match x.row with | none => true | some d => refsLt st.length d) = true
    · rw [if_pos c] at p
      obtain ⟨C, h1, h2, h3⟩ := rx
      refine p (as'.take st.length) H' cv xd (e.cut s) ((s.cut s' c.1).less fun b z => live_cut z) ⟨C, h1, h2, ?_⟩
      cases qr : x.row with
      | none => rw [qr] at h3; exact h3
      | some d =>
        rw [qr] at h3
        obtain ⟨pa, v, g1, g2, gl, g3⟩ := h3
        have c2 := c.2
        rw [qr] at c2
        exact ⟨pa, v, g1, g2, fun z => gl (live_cut z), (g3.cut c2).lessL fun b z => live_cut z⟩
    · rw [if_neg c] at p; exact p.elim
  | brk env st' => simp only [q] at p; exact p.elim
  | cnt env st' => simp only [q] at p; exact p.elim
  | stuck => simp only [q] at p; exact p.elim
end
end VI
namespace VI
open PySem PySem.Spec PyProof.Rows L2
/-- no exception -/
def E0 : XK := fun _ _ _ => False
def tvYes : TM := fun _ st => .ok true st
/-- [e for g in m if t]: the new list is a cell at k as long as it is made -/
def noX {α : Type} (r : Res α) : Res α := match r with
  | .exc _ _ => .stuck
  | r => r
def lcGo (iv : IterV) (g : GD) (t : TM) (e : EM) (k : Nat) : List D → List D → DEnv → Store → Res (List D)
  | [], acc, _, st => if srcOk iv st = true ∧ st[k]? = some (some (.lst acc)) then .ok acc st else .stuck
  | d :: r, acc, env, st => if srcOk iv st = true ∧ st[k]? = some (some (.lst acc)) then (match g d env with
    | none => .stuck
    | some env1 => (noX (t env1 st)).bind fun b st1 => if b = true then
        (noX (e env1 st1)).bind fun w st2 => if st2[k]? = some (some (.lst acc)) ∧ acc.length < 100000 then lcGo iv g t e k r (acc ++ [w.d]) env (st2.set k (some (.lst (acc ++ [w.d])))) else .stuck
      else lcGo iv g t e k r acc env st1) else .stuck
def evLc (own : List Nat) (m : IM) (g : GD) (t : TM) (e : EM) : EM := fun env st => (m env st).bind fun iv st1 =>
  (lcGo iv g t e st1.length iv.items [] (wipeD env own) (st1 ++ [some (.lst [])])).bind fun acc st2 =>
    if cutOk st1 st2 = true ∧ refsLts st1.length acc = true then .ok (.new (.lst acc)) (st2.take st1.length) else .stuck
section
variable {G : Gx} {E : WX} {X : Cx} {as as' as1 : List Addr} {st st' st1 : Store} {H H' H1 : Hp} {σ : L2.St}
theorem Post.noX {α : Type} {r : Res α} {R : α → List Addr → Store → Hp → Prop} (h : Post G (eAt E σ) as st H (noX r) R) : Post G E0 as st H r R := by
  cases r with
  | ok a st' => exact h
  | exc x st' => exact False.elim h
  | stuck => exact h
theorem Post.at {α : Type} {r : Res α} {R : α → List Addr → Store → Hp → Prop} (e : Ext as st H as1 st1 H1) (hl : as.length = st.length) (h : Post G (eAt E σ) as st H r R) : Post G (eAt E σ) as1 st1 H1 r R := by
  cases r with
  | ok a st' => exact fun as' H' e' s => h as' H' (e.trans e' hl) s
  | exc x st' => exact fun as' H' cv xd e' s r => h as' H' cv xd (e.trans e' hl) s r
  | stuck => exact h
theorem RelDs.append {L : Addr → Prop} : ∀ {xs ys : List D} {us ws : List V}, RelDs G as L H xs us → RelDs G as L H ys ws → RelDs G as L H (xs ++ ys) (us ++ ws)
  | _, _, _, _, .nil, s => s
  | _, _, _, _, .cons r t, s => .cons r (RelDs.append t s)
theorem wipe_twice (σ : L2.St) (vs : List Nat) : wipe (wipe σ vs) vs = wipe σ vs := by
  apply List.ext_getElem?
  intro j
  rw [wipe_get]
  by_cases hj : j ∈ vs
  · rw [if_pos hj, wipe_get, if_pos hj, wipe_length]
  · rw [if_neg hj]
theorem tI_lc {own : List Nat} {m : IM} {g : GD} {sl : List Nat} {t : TM} {e : EM} {Q : VK} (hsl : ∀ i ∈ sl, i ∈ own) (h : tI G E (evLc own m g t e) σ H Q) :
    tLc (tIt G E m) (tG G g sl) (tT G E0w t) (tI G E0w e) own σ H Q := by
  obtain ⟨as, st, env, s, er, p⟩ := h
  refine ⟨as, st, env, s, er, (p.bind s.len).mono fun iv as1 st1 H1 e1 s1 p1 J SJ Dl hD => ?_⟩
  have er1 := er.ext e1 s.len
  have eD : Ext as1 st1 H1 as1 st1 (upd H1 Dl (.lst [])) := Ext.lay hD
  have sD := s1.lay (o := .lst []) hD
  have cD : CellR G as1 (fun b => Live as1 st1 b ∨ b = Dl) (upd H1 Dl (.lst [])) Dl (.lst []) := ⟨[], upd_same, .nil⟩
  have sR := sD.reg (notLive s1 hD) cD
  have eR : Ext as1 st1 H1 (as1 ++ [Dl]) (st1 ++ [some (.lst [])]) (upd H1 Dl (.lst [])) := eD.regAt s1.len s1.len hD
  have hk : (as1 ++ [Dl])[st1.length]? = some Dl := by
    rw [List.getElem?_append_right (by have := s1.len; omega), show st1.length - as1.length = 0 by have := s1.len; omega]; rfl
  let Rf : List D → Store → Prop := fun acc st3 => Post G (eAt E σ) as1 st1 H1 (if cutOk st1 st3 = true ∧ refsLts st1.length acc = true then Res.ok (Wv.new (.lst acc)) (st3.take st1.length) else .stuck) fun w as4 st4 H4 => ∀ v, RelW G H as4 st4 H4 w v → Q v H4
  refine ⟨fun i m' H' => i ≤ iv.items.length ∧ m' = iv.items.length - i ∧ ∃ as2 st2 acc, Ext as1 st1 H1 as2 st2 H' ∧ StR G as2 st2 H' ∧ as2[st1.length]? = some Dl ∧
      Post G (eAt E σ) as2 st2 H' (lcGo iv g t e st1.length (iv.items.drop i) acc (wipeD env own) st2) fun acc as3 st3 H3 => Rf acc st3, ?_, ?_⟩
  · refine ⟨iv.items.length, by omega, by omega, _, _, [], eR, sR, hk, ?_⟩
    rw [List.drop_zero]
    cases qr : lcGo iv g t e st1.length iv.items [] (wipeD env own) (st1 ++ [some (.lst [])]) with
    | ok acc st2 =>
      rw [qr] at p1
      intro as3 H3 e3 s3
      exact p1
    | exc x st2 =>
      rw [qr] at p1
      intro as3 H3 cv xd e3 s3 r3
      exact p1 as3 H3 cv xd (eR.trans e3 s1.len) s3 r3
    | stuck => rw [qr] at p1; exact p1
  · rintro i m' H' ⟨hi, rfl, as2, st2, acc, e2, s2, hk2, p2⟩
    have erw : ∀ {as3 st3 H3}, Ext as1 st1 H1 as3 st3 H3 → EnvR G as3 (Live as3 st3) H3 (wipeD env own) (wipe σ own) := fun e3 => (er1.ext e3 s1.len).wipe own
    by_cases hlt : i < iv.items.length
    · rw [List.drop_eq_getElem_cons hlt] at p2
      unfold lcGo at p2
      by_cases ok : srcOk iv st2 = true ∧ st2[st1.length]? = some (some (.lst acc))
      · rw [if_pos ok] at p2
        obtain ⟨hgo, hy⟩ := SJ.go as2 st2 H' e2 s2 ok.1 i iv.items[i] (List.getElem?_eq_getElem hlt)
        refine .inr ⟨hgo, fun H3 => ∃ as3 st3 acc3, Ext as1 st1 H1 as3 st3 H3 ∧ StR G as3 st3 H3 ∧ as3[st1.length]? = some Dl ∧
          Post G (eAt E σ) as3 st3 H3 (lcGo iv g t e st1.length (iv.items.drop (i + 1)) acc3 (wipeD env own) st3) fun acc as3 st3 H3 => Rf acc st3,
          fun H3 ⟨as3, st3, acc3, q⟩ => ⟨iv.items.length - (i + 1), by omega, by omega, rfl, as3, st3, acc3, q⟩, fun x H2 hx => ?_⟩
        obtain ⟨e3, s3, r3⟩ := hy x H2 hx
        cases q : g iv.items[i] (wipeD env own) with
        | none => simp only [q] at p2; exact p2.elim
        | some env3 =>
          simp only [q] at p2
          have e12 := e2.trans e3 s1.len
          refine ⟨as2, st2, wipeD env own, iv.items[i], env3, s3, erw e12, r3, q, fun σ3 er3 sb => ⟨(sb own hsl).trans (wipe_twice σ own), as2, st2, env3, s3, er3, ?_⟩⟩
          have p3 := (Post.at e3 s2.len p2)
          refine (Post.noX (p3.bind s3.len)).mono fun b as4 st4 H4 e4 s4 p4 => ?_
          have hk4 : as4[st1.length]? = some Dl := pre_get e4.pre hk2
          cases b with
          | false =>
            rw [if_neg Bool.false_ne_true] at p4
            exact ⟨as4, st4, acc, e12.trans e4 s1.len, s4, hk4, p4⟩
          | true =>
            rw [if_pos rfl] at p4
            show tI G E0w e σ3 H4 _
            refine ⟨as4, st4, env3, s4, er3.ext e4 s3.len, (Post.noX (p4.bind s4.len)).mono fun w as5 st5 H5 e5 s5 p5 v5 r5 => ?_⟩
            have hk5 : as5[st1.length]? = some Dl := pre_get e5.pre hk4
            by_cases c : st5[st1.length]? = some (some (.lst acc)) ∧ acc.length < 100000
            · rw [if_pos c] at p5
              obtain ⟨a, ha, vs, hv, rv⟩ := s5.cells _ _ c.1
              rw [hk5] at ha; cases ha
              refine ⟨vs, hv, ?_, ?_⟩
              · rw [← rv.length]; exact Nat.lt_of_lt_of_le c.2 (by decide)
              · have live : Live as5 st5 Dl := ⟨_, _, hk5, c.1⟩
                have kp : ∀ b o, H5 b = some o → (¬ Live as5 st5 b ∨ notMut o = true) → upd H5 Dl (.lst (vs ++ [v5])) b = some o := fun b o eb k => by
                  have ne : b ≠ Dl := fun z => by
                    subst z
                    rcases k with k | k
                    · exact k live
                    · rw [hv] at eb; cases eb; cases k
                  rw [upd_ne ne]; exact eb
                have r5' : RelD G as5 (Live as5 st5) (upd H5 Dl (.lst (vs ++ [v5]))) w.d v5 := r5.d.mono (List.prefix_refl _) (fun _ _ n => n) kp
                have rv' : RelDs G as5 (Live as5 st5) (upd H5 Dl (.lst (vs ++ [v5]))) acc vs := rv.mono (List.prefix_refl _) (fun _ _ n => n) kp
                obtain ⟨a1, a2⟩ := s5.write (d := .lst (acc ++ [w.d])) (o := .lst (vs ++ [v5])) c.1 hk5 ⟨_, upd_same, rv'.append (.cons r5' .nil)⟩
                exact ⟨as5, _, _, ((e12.trans e4 s1.len).trans e5 s1.len).trans a2 s1.len, a1, hk5, Post.at a2 s5.len p5⟩
            · rw [if_neg c] at p5; exact p5.elim
      · rw [if_neg ok] at p2; exact p2.elim
    · rw [List.drop_of_length_le (by omega)] at p2
      unfold lcGo at p2
      by_cases ok : srcOk iv st2 = true ∧ st2[st1.length]? = some (some (.lst acc))
      · rw [if_pos ok] at p2
        refine .inl ⟨SJ.stop as2 st2 H' e2 s2 ok.1 i (by omega), ?_⟩
        have p3 : Rf acc st2 := p2.now s2
        by_cases c : cutOk st1 st2 = true ∧ refsLts st1.length acc = true
        · simp only [Rf, if_pos c] at p3
          obtain ⟨a, ha, cr⟩ := s2.cells _ _ ok.2
          rw [hk2] at ha; cases ha
          have q : refsLt st1.length (.lst acc) = true := by simp only [refsLt]; exact c.2
          have sc := s1.cut s2 c.1
          have la : Live as2 st2 Dl := ⟨_, _, hk2, ok.2⟩
          refine p3 (as2.take st1.length) H' (e2.cut s1) (sc.less fun b z => live_cut z) (.ref Dl) ⟨Dl, rfl, e1.fresh hD, fun i hi => ?_, (cr.cut q).lessL fun b z => z.elim live_cut fun z => z ▸ la, sc.less fun b z => z.elim live_cut fun z => z ▸ la⟩
          by_cases hk : i < st1.length
          · rw [List.getElem?_take_of_lt hk] at hi
            obtain ⟨h1, e1'⟩ := List.getElem?_eq_some_iff.mp hk2
            obtain ⟨h2, e2'⟩ := List.getElem?_eq_some_iff.mp hi
            have := (List.getElem_inj s2.nd).mp (e1'.trans e2'.symm)
            omega
          · rw [List.getElem?_take_eq_none (by omega)] at hi; cases hi
        · simp only [Rf, if_neg c] at p3; exact p3.elim
      · rw [if_neg ok] at p2; exact p2.elim
theorem pI_lc {elt tg iter : Expr} {ifs : List Expr} {scope : Scope} {own : List (Str × Nat)} {pos : Pos} {m : IM} {g : GD} {sl : List Nat} {t : TM} {e : EM} (hc : X.calm = true) (hN : X.N.Nodup) (hi : PI X tg iter (tIt G E m)) (ok : BlkOk X.N X.env.scope scope own)
    (hg : ∀ (s : Shared) (H : Hp) (C : Addr) (cl : List (Str × Addr)) (fp : List Addr), PG (X.blk s H scope (compEnvC scope cl C X.env) fp) tg (tG G g sl)) (ht : ∀ (s : Shared) (H : Hp) (C : Addr) (cl : List (Str × Addr)) (fp : List Addr), PTs (X.blk s H scope (compEnvC scope cl C X.env) fp) ifs (tT G E0w t))
    (he : ∀ (s : Shared) (H : Hp) (C : Addr) (cl : List (Str × Addr)) (fp : List Addr), PE (X.blk s H scope (compEnvC scope cl C X.env) fp) elt (tI G E0w e)) (hsl : ∀ i ∈ sl, i ∈ own.map (·.2)) (hs : ∀ x, foldedSetIterable iter X.env x = pure x := by intro _; rfl) :
    PE X (.ListComp elt [⟨tg, iter, ifs, 0⟩] scope pos) (tI G E (evLc (own.map (·.2)) m g t e)) := (pe_lc hc hN hi ok hg ht he hs).vi fun _ _ _ => tI_lc hsl
theorem pTs_nil : PTs X [] (tT G E tvYes) := ⟨fun pins s σ H Q I h => pts_nil.run pins s σ H Q I (by
  obtain ⟨as, st, env, sr, er, p⟩ := h
  exact p.now sr)⟩
theorem pTs_one {c : Expr} {t : TM} (h : PT X c (tT G E t)) : PTs X [c] (tT G E t) := pts_one h
end
end VI
namespace VI
open PySem PySem.Spec PyProof.Rows L2
/-! ### machine-level rules that the layer lacks -/
section
variable {X : Cx}
def rCatL (K : PySem.W.Frag) : R2 := fun x y H Q => ∃ l b xs zs, x = .ref l ∧ y = .ref b ∧ SqL K H l xs ∧ SqL K H b zs ∧ xs.length + zs.length ≤ sizeLine ∧ ∀ p, H p = none → Q (.ref p) (upd H p (.lst (xs ++ zs)))
theorem op_catL : OpR X (binaryOp .Add) (rCatL X.K) := by
  intro pins s σ H x y v u Q I rx ry h
  obtain ⟨l, b, xs, zs, rfl, rfl, hH, hB, hz, q⟩ := h
  cases rx
  cases ry
  obtain ⟨its, r, ⟨⟨c1, d1, t1, s1⟩, n1, e1, ec1, ed1, et1⟩, z1⟩ := I.list hH
  obtain ⟨its2, r2, ⟨⟨c2, d2, t2, s2⟩, n2, e2, ec2, ed2, et2⟩, z2⟩ := I.list hB
  simp only at ec1 ed1 et1 ec2 ed2 et2
  subst ec1 ed1 et1 ec2 ed2 et2
  have ea : its.toArray ++ its2.toArray = (its ++ its2).toArray := by simp
  refine concat_meets ⟨_, e1, rfl⟩ ⟨_, e2, rfl⟩ noFill_list_add seq_list_add PySem.F.slot_list_add PySem.F.entry_list_add (PySem.F.args_list_add_2 _ _) (list_addW l b its.toArray its2.toArray n1 n2 none none s1 s2 (by rw [List.size_toArray, List.size_toArray, ← r.length, ← r2.length]; exact hz)) ⟨e1, e2, ?_⟩
  rw [ea]
  exact ⟨.ref _, _, I.lnew (t' := s.toks) (r.append r2) (by rw [List.length_append]; omega), rfl, q _ I.fresh⟩
end

/-! ### pure data, compared -/
mutual
def toPy : D → PyData
  | .non => .none
  | .bl b => .bool b
  | .int i => .int i
  | .str x => .str x
  | .tup ds => .tuple (toPys ds)
  | .lst ds => .list (toPys ds)
  | _ => .none
def toPys : List D → List PyData
  | [] => []
  | d :: ds => toPy d :: toPys ds
end
mutual
/-- none, truths, numbers, texts, tuples and lists of such -/
def isPy : D → Bool
  | .non => true
  | .bl _ => true
  | .int _ => true
  | .str _ => true
  | .tup ds => isPys ds
  | .lst ds => isPys ds
  | _ => false
def isPys : List D → Bool
  | [] => true
  | d :: ds => isPy d && isPys ds
end
def eqD (a b : D) : Bool := PyData.eqv (toPy a) (toPy b)
section
variable {G : Gx} {E : WX} {as as' : List Addr} {st st' : Store} {H : Hp} {L : Addr → Prop}
mutual
theorem RelD.dp : ∀ {d : D} {v : V}, RelD G as L H d v → isPy d = true → Dp G.K H v (toPy d)
  | _, _, .non, _ => by simp only [toPy]; exact .non
  | _, _, .bl b, _ => by simp only [toPy]; exact .bl b
  | _, _, .int i, _ => by simp only [toPy]; exact .int i
  | _, _, .str x, _ => by simp only [toPy]; exact .str x
  | _, _, .ty n, q => by simp [isPy] at q
  | _, _, .cl h, q => by simp [isPy] at q
  | _, _, .ref h, q => by simp [isPy] at q
  | _, _, .tup h r, q => by simp only [toPy]; exact .tup h (RelDs.dp r (by simpa only [isPy] using q))
  | _, _, .lst h n r, q => by simp only [toPy]; exact .lst (.inl h) (RelDs.dp r (by simpa only [isPy] using q))
  | _, _, .lstK h r, q => by simp only [toPy]; exact .lst (.inr h) (RelDs.dp r (by simpa only [isPy] using q))
  | _, _, .err c h n, q => by simp [isPy] at q
  | _, _, .errR c h n hp np r, q => by simp [isPy] at q
  | _, _, .dic h n, q => by simp [isPy] at q
  | _, _, .obj c h1 h2 n r, q => by simp [isPy] at q
theorem RelDs.dp : ∀ {d : List D} {v : List V}, RelDs G as L H d v → isPys d = true → DpAll G.K H v (toPys d)
  | _, _, .nil, _ => by simp only [toPys]; exact .nil
  | _, _, .cons r t, q => by
    simp only [isPys, Bool.and_eq_true] at q
    simp only [toPys]; exact .cons (RelD.dp r q.1) (RelDs.dp t q.2)
end
mutual
theorem toPy_plain : ∀ d : D, (toPy d).plain = true
  | .non => by simp [toPy, PyData.plain]
  | .bl _ => by simp [toPy, PyData.plain]
  | .int _ => by simp [toPy, PyData.plain]
  | .str _ => by simp [toPy, PyData.plain]
  | .ty _ => by simp [toPy, PyData.plain]
  | .cl _ => by simp [toPy, PyData.plain]
  | .ref _ => by simp [toPy, PyData.plain]
  | .tup ds => by simp only [toPy, PyData.plain]; exact toPys_plain ds
  | .lst ds => by simp only [toPy, PyData.plain]; exact toPys_plain ds
  | .dic _ => by simp [toPy, PyData.plain]
  | .obj _ _ => by simp [toPy, PyData.plain]
theorem toPys_plain : ∀ ds : List D, PyData.plainAll (toPys ds) = true
  | [] => by simp [toPys, PyData.plainAll]
  | d :: ds => by simp only [toPys, PyData.plainAll, toPy_plain d, toPys_plain ds, Bool.and_self]
end
/-- a value, a cell's list as the list -/
def unref (d : D) (st : Store) : D := match d with
  | .ref n => match st[n]? with
    | some (some (.lst ds)) => .lst ds
    | _ => .ref n
  | d => d
theorem unref_dp (s : StR G as st H) {d : D} {v : V} (r : RelD G as (Live as st) H d v) (q : isPy (unref d st) = true) : Dp G.K H v (toPy (unref d st)) := by
  cases d with
  | ref n =>
    cases e : st[n]? with
    | none => simp [unref, e, isPy] at q
    | some o =>
      cases o with
      | none => simp [unref, e, isPy] at q
      | some d =>
        cases d with
        | lst ds =>
          simp only [unref, e] at q ⊢
          cases r with
          | @ref _ a ha =>
            obtain ⟨a', ha', vs, hv, rr⟩ := s.cells n _ e
            rw [ha] at ha'; cases ha'
            simp only [toPy]
            exact .lst (.inl (.inl hv)) (rr.dp (by simpa only [isPy] using q))
        | _ => simp [unref, e, isPy] at q
  | _ => exact r.dp q
end
def shallow (a b : D) : Bool := decide (min (toPy a).depth (toPy b).depth ≤ 60)
def fEq (neg : Bool) (a b : D) (st : Store) : Res Wv :=
  if (isPy (unref a st) && isPy (unref b st) && shallow (unref a st) (unref b st)) = true then .ok (.val (.bl (if neg then !eqD (unref a st) (unref b st) else eqD (unref a st) (unref b st)))) st else .stuck
def rEqP (K : PySem.W.Frag) (neg : Bool) : R2 := fun x y H Q => ∃ d e, Dp K H x d ∧ Dp K H y e ∧ d.plain = true ∧ e.plain = true ∧ min d.depth e.depth ≤ 60 ∧ Q (.bl (if neg then !PyData.eqv d e else PyData.eqv d e)) H
section
variable {X : Cx} {G : Gx} {E : WX}
theorem op_eqP (hu : X.A.units + 64 < cLine) : OpR X (compareOp .Eq) (rEqP X.K false) := by
  intro pins s σ H x y v u Q I rx ry h
  obtain ⟨d, e, hd, he, sd, se, hm, q⟩ := h
  obtain ⟨as, r1⟩ := Dp.reads I d x v hd rx
  obtain ⟨bs, r2⟩ := Dp.reads I e y u he ry
  exact SeqAt.eq_plain r1 r2 sd se (by omega) ⟨.bl _, H, I, rfl, q⟩
theorem op_neP (hu : X.A.units + 64 < cLine) : OpR X (compareOp .NotEq) (rEqP X.K true) := by
  intro pins s σ H x y v u Q I rx ry h
  obtain ⟨d, e, hd, he, sd, se, hm, q⟩ := h
  obtain ⟨as, r1⟩ := Dp.reads I d x v hd rx
  obtain ⟨bs, r2⟩ := Dp.reads I e y u he ry
  exact SeqAt.ne_plain r1 r2 sd se (by omega) ⟨.bl _, H, I, rfl, q⟩
theorem opS_eq {neg : Bool} : OpS G E (fEq neg) (rEqP G.K neg) := by
  intro E' as st H d1 d2 x y Q s r1 r2 p
  unfold fEq at p
  split at p
  · rename_i c
    simp only [Bool.and_eq_true, shallow, decide_eq_true_eq] at c
    exact ⟨_, _, unref_dp s r1 c.1.1, unref_dp s r2 c.1.2, toPy_plain _, toPy_plain _, c.2, p.now s _ (.bl _)⟩
  · exact p.elim

/-! ### + -/
def catOk {α : Type} (a b : List α) : Bool := decide (a.length + b.length ≤ 100000)
def fAdd (a b : D) (st : Store) : Res Wv := match a, b with
  | .int i, .int j => .ok (.val (.int (i + j))) st
  | .str x, .str y => if x.length + y.length ≤ 100000 then .ok (.val (.str (x ++ y))) st else .stuck
  | .tup x, .tup y => if catOk x y = true then .ok (.val (.tup (x ++ y))) st else .stuck
  | a, b => match lstOf a st, lstOf b st with
    | some (x, _), some (y, _) => if catOk x y = true then .ok (.new (.lst (x ++ y))) st else .stuck
    | _, _ => .stuck
def rAddA (K : PySem.W.Frag) : R2 := fun x y H Q => (∃ i j, x = .int i ∧ y = .int j ∧ Q (.int (i + j)) H) ∨ (∃ i j, x = .str i ∧ y = .str j ∧ i.length + j.length ≤ sizeLine ∧ Q (.str (i ++ j)) H) ∨ rCatA K x y H Q ∨ rCatL K x y H Q
theorem op_addA : OpR X (binaryOp .Add) (rAddA X.K) := OpR.or op_add (OpR.or op_add_str (OpR.or op_catA op_catL))
theorem catOk_len {α : Type} {a b : List α} (h : catOk a b = true) : a.length + b.length ≤ sizeLine := szl (by simpa [catOk] using h)
theorem opS_add : OpS G E fAdd (rAddA G.K) := by
  intro E' as st H d1 d2 x y Q s r1 r2 p
  unfold fAdd at p
  split at p
  · cases r1; cases r2
    exact .inl ⟨_, _, rfl, rfl, p.now s _ (.int _)⟩
  · cases r1; cases r2
    split at p
    · rename_i h
      exact .inr (.inl ⟨_, _, rfl, rfl, szl h, p.now s _ (.str _)⟩)
    · exact p.elim
  · split at p
    · rename_i h
      cases r1 with
      | @tup a p1 vs h1 hr1 =>
      cases r2 with
      | @tup b p2 ws h2 hr2 =>
      have hl := catOk_len h
      rw [hr1.length, hr2.length] at hl
      refine .inr (.inr (.inl ⟨p1, p2, vs, ws, rfl, rfl, h1, h2, hl, fun e => ?_, fun e1 e => ?_, fun e1 e2 t ht => ?_⟩))
      · subst e
        cases hr1
        exact p.now s _ (.tup h2 hr2)
      · subst e
        cases hr2
        rw [List.append_nil] at p
        exact p.now s _ (.tup h1 hr1)
      · exact p as _ (Ext.lay ht) (s.laid ht) _ (RelD.newTup s (hr1.append hr2) ht)
    · exact p.elim
  · cases q1 : lstOf d1 st with
    | none => simp only [q1] at p; exact p.elim
    | some o1 =>
      obtain ⟨a, sa⟩ := o1
      cases q2 : lstOf d2 st with
      | none => simp only [q1, q2] at p; exact p.elim
      | some o2 =>
        obtain ⟨b, sb⟩ := o2
        simp only [q1, q2] at p
        split at p
        · rename_i h
          obtain ⟨p1, vs, rfl, h1, hr1⟩ := lstOf_sq s r1 q1
          obtain ⟨p2, ws, rfl, h2, hr2⟩ := lstOf_sq s r2 q2
          have hl := catOk_len h
          rw [hr1.length, hr2.length] at hl
          exact .inr (.inr (.inr ⟨p1, p2, vs, ws, rfl, rfl, h1, h2, hl, fun t ht => p as _ (Ext.lay ht) (s.laid ht) _ (RelW.newLst s (hr1.append hr2) ht)⟩))
        · exact p.elim

/-! ### ints -/
def fSub (a b : D) (st : Store) : Res Wv := match a, b with
  | .int i, .int j => .ok (.val (.int (i - j))) st
  | _, _ => .stuck
def smallF (i : Int) : Bool := decide (-(2 ^ 64) < i) && decide (i < 2 ^ 64)
def fMod (a b : D) (st : Store) : Res Wv := match a, b with
  | .int i, .int j => if 0 < j then .ok (.val (.int (i % j))) st else .stuck
  | _, _ => .stuck
def fDiv (a b : D) (st : Store) : Res Wv := match a, b with
  | .int i, .int j => if 0 < j ∧ j < 1073741824 then .ok (.val (.int (i / j))) st else .stuck
  | _, _ => .stuck
def fPow (a b : D) (st : Store) : Res Wv := match a, b with
  | .int i, .int j => if 0 ≤ j ∧ j ≤ 1000000 ∧ i.natAbs < 2 ^ 64 then .ok (.val (.int (i ^ j.toNat))) st else .stuck
  | _, _ => .stuck
def fNeg (a : D) (st : Store) : Res Wv := match a with
  | .int i => .ok (.val (.int (-i))) st
  | _ => .stuck
theorem opS_sub : OpS G E fSub (rI0 fun i j => .int (i - j)) := by
  intro E' as st H d1 d2 x y Q s r1 r2 p
  unfold fSub at p
  split at p
  · cases r1; cases r2
    exact ⟨_, _, rfl, rfl, p.now s _ (.int _)⟩
  · exact p.elim
theorem opS_mod : OpS G E fMod (rI (fun _ j => 0 < j) fun i j => .int (i % j)) := by
  intro E' as st H d1 d2 x y Q s r1 r2 p
  unfold fMod at p
  split at p
  · cases r1; cases r2
    split at p
    · rename_i h
      exact ⟨_, _, rfl, rfl, h, p.now s _ (.int _)⟩
    · exact p.elim
  · exact p.elim
theorem opS_div : OpS G E fDiv (rI CDiv fun i j => .int (i / j)) := by
  intro E' as st H d1 d2 x y Q s r1 r2 p
  unfold fDiv at p
  split at p
  · cases r1; cases r2
    split at p
    · rename_i h
      exact ⟨_, _, rfl, rfl, h, p.now s _ (.int _)⟩
    · exact p.elim
  · exact p.elim
theorem opS_pow : OpS G E fPow (rI CPow fun i j => .int (i ^ j.toNat)) := by
  intro E' as st H d1 d2 x y Q s r1 r2 p
  unfold fPow at p
  split at p
  · cases r1; cases r2
    split at p
    · rename_i h
      exact ⟨_, _, rfl, rfl, h, p.now s _ (.int _)⟩
    · exact p.elim
  · exact p.elim
theorem unS_neg : UnS G E fNeg (rU fun i => .int (-i)) := by
  intro E' as st H d x Q s r p
  unfold fNeg at p
  split at p
  · cases r
    exact ⟨_, rfl, p.now s _ (.int _)⟩
  · exact p.elim
/-! ### * : ints (one small), a list or a tuple or a text times an int -/
def fMul (a b : D) (st : Store) : Res Wv := match a, b with
  | .int i, .int j => if (smallF i || smallF j) = true then .ok (.val (.int (i * j))) st else .stuck
  | _, _ => .stuck
theorem opS_mul : OpS G E fMul (rI CMul fun i j => .int (i * j)) := by
  intro E' as st H d1 d2 x y Q s r1 r2 p
  unfold fMul at p
  split at p
  · cases r1; cases r2
    split at p
    · rename_i h
      simp only [smallF, Bool.or_eq_true, Bool.and_eq_true, decide_eq_true_eq] at h
      exact ⟨_, _, rfl, rfl, h, p.now s _ (.int _)⟩
    · exact p.elim
  · exact p.elim
/-! ### order of ints -/
def fCmp (f : Int → Int → Bool) (a b : D) (st : Store) : Res Wv := match a, b with
  | .int i, .int j => .ok (.val (.bl (f i j))) st
  | _, _ => .stuck
abbrev fLt := fCmp fun i j => decide (i < j)
abbrev fLe := fCmp fun i j => decide (i ≤ j)
abbrev fGt := fCmp fun i j => decide (j < i)
abbrev fGe := fCmp fun i j => decide (j ≤ i)
theorem opS_cmp {f : Int → Int → Bool} : OpS G E (fCmp f) (rI0 fun i j => .bl (f i j)) := by
  intro E' as st H d1 d2 x y Q s r1 r2 p
  unfold fCmp at p
  split at p
  · cases r1; cases r2
    exact ⟨_, _, rfl, rfl, p.now s _ (.bl _)⟩
  · exact p.elim
/-! ### is -/
def fIsB (a b : D) (st : Store) : Res Wv := match a, b with
  | .bl i, .bl j => .ok (.val (.bl (decide (i = j)))) st
  | _, _ => .stuck
theorem opS_isB : OpS G E fIsB (fun x y H Q => ∃ a b, x = .bl a ∧ y = .bl b ∧ Q (.bl (decide (a = b))) H) := by
  intro E' as st H d1 d2 x y Q s r1 r2 p
  unfold fIsB at p
  split at p
  · cases r1; cases r2
    exact ⟨_, _, rfl, rfl, p.now s _ (.bl _)⟩
  · exact p.elim
def noneD : D → Bool
  | .non => true
  | _ => false
def fIsN (neg : Bool) (a b : D) (st : Store) : Res Wv := match b with
  | .non => .ok (.val (.bl (if neg then !noneD a else noneD a))) st
  | _ => .stuck
theorem RelD.isNon_eq {as : List Addr} {L : Addr → Prop} {H : Hp} {d : D} {v : V} (r : RelD G as L H d v) : decide (v = .non) = noneD d := by
  cases r <;> simp [noneD]
theorem opS_isN : OpS G E (fIsN false) (fun x y H Q => y = .non ∧ Q (.bl (decide (x = .non))) H) := by
  intro E' as st H d1 d2 x y Q s r1 r2 p
  unfold fIsN at p
  split at p
  · cases r2
    refine ⟨rfl, ?_⟩
    rw [r1.isNon_eq]
    exact p.now s _ (.bl _)
  · exact p.elim
theorem opS_isNn : OpS G E (fIsN true) (fun x y H Q => y = .non ∧ Q (.bl (!decide (x = .non))) H) := by
  intro E' as st H d1 d2 x y Q s r1 r2 p
  unfold fIsN at p
  split at p
  · cases r2
    refine ⟨rfl, ?_⟩
    rw [r1.isNon_eq]
    exact p.now s _ (.bl _)
  · exact p.elim
end
end VI
namespace VI
open PySem PySem.Spec PyProof.Rows L2
/-! ### in -/
section
variable {X : Cx} {G : Gx} {E : WX}
def rInP (K : PySem.W.Frag) (neg : Bool) : R2 := fun x y H Q => ∃ d ds, Dp K H x d ∧ (Dp K H y (.list ds) ∨ Dp K H y (.tuple ds)) ∧ d.plain = true ∧ PyData.plainAll ds = true ∧ min (PyData.depthAll ds) d.depth ≤ 60 ∧ Q (.bl (if neg then !(ds.any fun z => PyData.eqv z d) else ds.any fun z => PyData.eqv z d)) H
theorem op_inP (hu : X.A.units + 64 < cLine) : OpR X (compareOp .In) (rInP X.K false) := by
  intro pins s σ H x y v u Q I rx ry h
  obtain ⟨d, ds, hd, he, sd, se, hm, q⟩ := h
  obtain ⟨as, r1⟩ := Dp.reads I d x v hd rx
  rcases he with he | he
  · obtain ⟨bs, r2⟩ := Dp.reads I _ y u he ry
    exact SeqAt.in_list_data r2 r1 se sd (by omega) ⟨.bl _, H, I, rfl, q⟩
  · obtain ⟨bs, r2⟩ := Dp.reads I _ y u he ry
    exact SeqAt.in_tuple_data r2 r1 se sd (by omega) ⟨.bl _, H, I, rfl, q⟩
theorem op_ninP (hu : X.A.units + 64 < cLine) : OpR X (compareOp .NotIn) (rInP X.K true) := by
  intro pins s σ H x y v u Q I rx ry h
  obtain ⟨d, ds, hd, he, sd, se, hm, q⟩ := h
  obtain ⟨as, r1⟩ := Dp.reads I d x v hd rx
  rcases he with he | he
  · obtain ⟨bs, r2⟩ := Dp.reads I _ y u he ry
    exact SeqAt.notIn_list_data r2 r1 se sd (by omega) ⟨.bl _, H, I, rfl, q⟩
  · obtain ⟨bs, r2⟩ := Dp.reads I _ y u he ry
    exact SeqAt.notIn_tuple_data r2 r1 se sd (by omega) ⟨.bl _, H, I, rfl, q⟩
def strIn (i j : Str) : Bool := !(Builtin.Str.occurrences j i 0 j.length 1).isEmpty
def inDs (d : D) (ds : List D) : Bool := ds.any fun z => eqD z d
def shallowIn (d : D) (ds : List D) : Bool := decide (min (PyData.depthAll (toPys ds)) (toPy d).depth ≤ 60)
theorem toPys_map : ∀ ds : List D, toPys ds = ds.map toPy
  | [] => by simp [toPys]
  | d :: ds => by simp only [toPys, List.map_cons, toPys_map ds]
theorem inDs_py (d : D) (ds : List D) : ((toPys ds).any fun z => PyData.eqv z (toPy d)) = inDs d ds := by
  rw [toPys_map, List.any_map]; rfl
def fIn (neg : Bool) (a b : D) (st : Store) : Res Wv := match a, b with
  | .str i, .str j => .ok (.val (.bl (if neg then !strIn i j else strIn i j))) st
  | a, b => match unref b st with
    | .lst ds => if (isPy a && isPys ds && shallowIn a ds) = true then .ok (.val (.bl (if neg then !inDs a ds else inDs a ds))) st else .stuck
    | .tup ds => if (isPy a && isPys ds && shallowIn a ds) = true then .ok (.val (.bl (if neg then !inDs a ds else inDs a ds))) st else .stuck
    | _ => .stuck
def rInA (K : PySem.W.Frag) (neg : Bool) : R2 := fun x y H Q => (∃ i j, x = .str i ∧ y = .str j ∧ Q (.bl (if neg then !strIn i j else strIn i j)) H) ∨ rInP K neg x y H Q
theorem op_inA (hu : X.A.units + 64 < cLine) : OpR X (compareOp .In) (rInA X.K false) := OpR.or op_in_str (op_inP hu)
theorem op_ninA (hu : X.A.units + 64 < cLine) : OpR X (compareOp .NotIn) (rInA X.K true) := OpR.or op_notin_str (op_ninP hu)
theorem opS_in {neg : Bool} : OpS G E (fIn neg) (rInA G.K neg) := by
  intro E' as st H d1 d2 x y Q s r1 r2 p
  unfold fIn at p
  split at p
  · cases r1; cases r2
    exact .inl ⟨_, _, rfl, rfl, p.now s _ (.bl _)⟩
  · refine .inr ?_
    split at p
    · rename_i ds e
      split at p
      · rename_i c
        simp only [Bool.and_eq_true, shallowIn, decide_eq_true_eq] at c
        have h := unref_dp s r2 (by rw [e]; simp only [isPy]; exact c.1.2)
        rw [e] at h
        simp only [toPy] at h
        refine ⟨toPy d1, toPys ds, r1.dp c.1.1, .inl h, toPy_plain _, toPys_plain _, c.2, ?_⟩
        rw [inDs_py]
        exact p.now s _ (.bl _)
      · exact p.elim
    · rename_i ds e
      split at p
      · rename_i c
        simp only [Bool.and_eq_true, shallowIn, decide_eq_true_eq] at c
        have h := unref_dp s r2 (by rw [e]; simp only [isPy]; exact c.1.2)
        rw [e] at h
        simp only [toPy] at h
        refine ⟨toPy d1, toPys ds, r1.dp c.1.1, .inr h, toPy_plain _, toPys_plain _, c.2, ?_⟩
        rw [inDs_py]
        exact p.now s _ (.bl _)
      · exact p.elim
    · exact p.elim
end
/-! ### x[i], x[a:b] -/
def cutD {α : Type} (xs : List α) (lo hi : Option Int) : List α := (xs.drop (HT.sIx xs.length 0 lo)).take (HT.sIx xs.length xs.length hi - HT.sIx xs.length 0 lo)
def fIx (a b : D) (st : Store) : Res Wv := match a, b with
  | .str z, .int i => if z.length ≤ 100000 then (match atI z.cps.toList i with
    | some c => .ok (.val (.str ⟨#[c]⟩)) st
    | none => .stuck) else .stuck
  | .tup ds, .int i => match atI ds i with
    | some d => .ok (.val d) st
    | none => .stuck
  | a, .int i => match lstOf a st with
    | some (ds, _) => match atI ds i with
      | some d => .ok (.val d) st
      | none => .stuck
    | none => .stuck
  | _, _ => .stuck
def fSl (a : D) (lo hi : Option Int) (st : Store) : Res Wv := match a with
  | .str z => if z.length ≤ 100000 then .ok (.val (.str (cutS z lo hi))) st else .stuck
  | .tup ds => .ok (.val (.tup (cutD ds lo hi))) st
  | a => match lstOf a st with
    | some (ds, _) => .ok (.new (.lst (cutD ds lo hi))) st
    | none => .stuck
abbrev BM := DEnv → Store → Res (Option Int)
def bNone : BM := fun _ st => .ok none st
def bSome (m : EM) : BM := fun env st => (m env st).bind fun w st1 => match w.d with
  | .int i => .ok (some i) st1
  | _ => .stuck
def evSl (e : EM) (lo hi : BM) : EM := fun env st => (e env st).bind fun w st1 => (lo env st1).bind fun l st2 => (hi env st2).bind fun h st3 => fSl w.d l h st3
def tOI (G : Gx) (E : WX) (m : BM) : TO := fun σ H Q => ∃ as st env, StR G as st H ∧ EnvR G as (Live as st) H env σ ∧ Post G (eAt E σ) as st H (m env st) fun o as' st' H' => Q o H'
theorem _root_.L2.PO.vi {X : Cx} {e : Option Expr} {t t' : TO} (h : PO X e t) (k : ∀ σ H Q, t' σ H Q → t σ H Q) : PO X e t' := ⟨fun pins s σ H Q I q => h.run pins s σ H Q I (k σ H Q q)⟩
section
variable {X : Cx} {G : Gx} {E : WX} {as as' : List Addr} {st st' : Store} {H : Hp} {L : Addr → Prop}
theorem RelDs.take : ∀ {ds : List D} {vs : List V} (n : Nat), RelDs G as L H ds vs → RelDs G as L H (ds.take n) (vs.take n)
  | _, _, 0, _ => .nil
  | _, _, _ + 1, .nil => .nil
  | _, _, n + 1, .cons r t => .cons r (RelDs.take n t)
theorem RelDs.drop : ∀ {ds : List D} {vs : List V} (n : Nat), RelDs G as L H ds vs → RelDs G as L H (ds.drop n) (vs.drop n)
  | _, _, 0, r => r
  | _, _, _ + 1, .nil => .nil
  | _, _, n + 1, .cons _ t => RelDs.drop n t
theorem RelDs.cutV {ds : List D} {vs : List V} {lo hi : Option Int} (r : RelDs G as L H ds vs) : RelDs G as L H (cutD ds lo hi) (cutV vs lo hi) := by
  unfold cutD L2.cutV
  rw [r.length]
  exact (r.drop _).take _
theorem RelDs.atI {ds : List D} {vs : List V} {i : Int} {d : D} (r : RelDs G as L H ds vs) (h : L2.atI ds i = some d) : ∃ v, L2.atI vs i = some v ∧ RelD G as L H d v := by
  unfold L2.atI at h ⊢
  rw [r.length] at h
  cases q : ixN vs.length i with
  | none => rw [q] at h; cases h
  | some j =>
    rw [q] at h
    exact r.get h
theorem opS_ix : OpS G E fIx (rIx G.K) := by
  intro E' as st H d1 d2 x y Q s r1 r2 p
  unfold fIx at p
  split at p
  · cases r1; cases r2
    split at p
    · rename_i hl
      split at p
      · rename_i c hc
        exact .inr (.inr ⟨_, _, _, rfl, rfl, szl hl, hc, p.now s _ (.str _)⟩)
      · exact p.elim
    · exact p.elim
  · cases r2
    cases r1 with
    | @tup ds pa vs h1 hr =>
    split at p
    · rename_i d hd
      obtain ⟨v, hv, rv⟩ := hr.atI hd
      exact .inr (.inl ⟨_, _, _, _, rfl, rfl, h1, hv, p.now s _ rv⟩)
    · exact p.elim
  · cases r2
    split at p
    · rename_i ds src hl
      split at p
      · rename_i d hd
        obtain ⟨pa, vs, rfl, h1, hr⟩ := lstOf_sq s r1 hl
        obtain ⟨v, hv, rv⟩ := hr.atI hd
        exact .inl ⟨_, _, _, _, rfl, rfl, h1, hv, p.now s _ rv⟩
      · exact p.elim
    · exact p.elim
  · exact p.elim
def rSl (K : PySem.W.Frag) : V → Option Int → Option Int → Hp → VK → Prop := fun x lo hi H Q => rSlS x lo hi H Q ∨ rSlA K x lo hi H Q ∨ rSlL K x lo hi H Q
theorem sl_all : SlR X (rSl X.K) := SlR.or sl_str (SlR.or sl_tupA sl_list)
theorem slS {d : D} {x : V} {lo hi : Option Int} {Q : VK} (s : StR G as st H) (r : RelD G as (Live as st) H d x) {E' : XK} (p : Post G E' as st H (fSl d lo hi st) (fun w as' st' H' => ∀ v, RelW G H as' st' H' w v → Q v H')) : rSl G.K x lo hi H Q := by
  unfold fSl at p
  split at p
  · cases r
    split at p
    · rename_i hl
      exact .inl ⟨_, rfl, szl hl, p.now s _ (.str _)⟩
    · exact p.elim
  · rename_i dd
    cases r with
    | @tup _ pa vs h1 hr =>
    refine .inr (.inl ⟨_, _, rfl, h1, fun ⟨e1, e2⟩ => ?_, fun _ t ht => p as _ (Ext.lay ht) (s.laid ht) _ (RelD.newTup s hr.cutV ht)⟩)
    have e : cutD dd lo hi = dd := by
      unfold cutD
      rw [hr.length, e1, e2]
      simp [← hr.length]
    rw [e] at p
    exact p.now s _ (.tup h1 hr)
  · split at p
    · rename_i ds src hl
      obtain ⟨pa, vs, rfl, h1, hr⟩ := lstOf_sq s r hl
      exact .inr (.inr ⟨_, _, rfl, h1, fun t ht => p as _ (Ext.lay ht) (s.laid ht) _ (RelW.newLst s hr.cutV ht)⟩)
    · exact p.elim
theorem pO_none : PO X none (tOI G E bNone) := po_none.vi fun σ H Q ⟨as, st, env, s, er, p⟩ => p.now s
theorem pO_some {e : Expr} {m : EM} (h : PE X e (tI G E m)) : PO X (some e) (tOI G E (bSome m)) := (po_some h).vi fun σ H Q ⟨as, st, env, s, er, p⟩ =>
  ⟨as, st, env, s, er, (p.bind s.len).mono fun w as1 st1 H1 e1 s1 p1 v1 r1 => by
    have r := r1.d
    cases q : w.d with
    | int b =>
      simp only [q] at p1
      rw [q] at r
      exact ⟨b, r.isInt, p1.now s1⟩
    | _ => simp only [q] at p1; exact p1.elim⟩
theorem pI_slice {e : Expr} {lo hi : Option Expr} {pos p2 : Pos} {m : EM} {bl bh : BM} (he : PE X e (tI G E m)) (hl : PO X lo (tOI G E bl)) (hh : PO X hi (tOI G E bh)) (hK : G.K = X.K) : PE X (.Subscript e (.Slice lo hi none p2) pos) (tI G E (evSl m bl bh)) := by
  refine (pe_slice sl_all he hl hh).vi fun σ H Q h => ?_
  obtain ⟨as, st, env, s, er, p⟩ := h
  refine ⟨as, st, env, s, er, (p.bind s.len).mono fun w as1 st1 H1 e1 s1 p1 v r => ?_⟩
  refine ⟨as1, st1, env, s1, er.ext e1 s.len, (p1.bind s1.len).mono fun o as2 st2 H2 e2 s2 p2 => ?_⟩
  refine ⟨as2, st2, env, s2, (er.ext e1 s.len).ext e2 s1.len, (p2.bind s2.len).mono fun o2 as3 st3 H3 e3 s3 p3 => ?_⟩
  rw [← hK]
  exact slS s3 ((r.d.ext e2 s1.len).ext e3 s2.len) (p3.mono fun w as4 st4 H4 e4 s4 q v rv => q v (rv.from fun x hx => e1.fresh (e2.fresh (e3.fresh hx))))
end
/-! ### built-in functions -/
def fLen (ds : List D) (st : Store) : Res Wv := match ds with
  | [.str z] => if z.length ≤ 100000 then .ok (.val (.int z.length)) st else .stuck
  | [.tup ds] => .ok (.val (.int ds.length)) st
  | [d] => match lstOf d st with
    | some (ds, _) => .ok (.val (.int ds.length)) st
    | none => .stuck
  | _ => .stuck
def fAbs (ds : List D) (st : Store) : Res Wv := match ds with
  | [.int i] => .ok (.val (.int (if i < 0 then -i else i))) st
  | _ => .stuck
def blsOf : List D → Option (List Bool)
  | [] => some []
  | .bl b :: ds => (blsOf ds).map fun bs => b :: bs
  | _ => none
def fAll (ds : List D) (st : Store) : Res Wv := match ds with
  | [d] => match lstOf d st with
    | some (ds, _) => match blsOf ds with
      | some bs => .ok (.val (.bl (bs.all id))) st
      | none => .stuck
    | none => .stuck
  | _ => .stuck
def fAny (ds : List D) (st : Store) : Res Wv := match ds with
  | [d] => match lstOf d st with
    | some (ds, _) => match blsOf ds with
      | some bs => .ok (.val (.bl (bs.any id))) st
      | none => .stuck
    | none => .stuck
  | _ => .stuck
def fList (ds : List D) (st : Store) : Res Wv := match ds with
  | [.tup ds] => .ok (.new (.lst ds)) st
  | [d] => match lstOf d st with
    | some (ds, _) => .ok (.new (.lst ds)) st
    | none => .stuck
  | _ => .stuck
def fTuple (ds : List D) (st : Store) : Res Wv := match ds with
  | [.tup ds] => .ok (.val (.tup ds)) st
  | [d] => match lstOf d st with
    | some (ds, _) => .ok (.val (.tup ds)) st
    | none => .stuck
  | _ => .stuck
section
variable {X : Cx} {G : Gx} {E : WX} {as as' : List Addr} {st st' : Store} {H : Hp} {L : Addr → Prop}
theorem callS_len : CallS G E fLen (fun xs H Q => ∃ x n, xs = [x] ∧ LenV G.K x H n ∧ Q (.int n) H) := by
  intro E' as st H ds xs Q s r p
  unfold fLen at p
  split at p
  · cases r with
    | cons r t =>
    cases t; cases r
    split at p
    · rename_i h
      exact ⟨_, _, rfl, ⟨szl h, rfl⟩, p.now s _ (.int _)⟩
    · exact p.elim
  · cases r with
    | cons r t =>
    cases t
    cases r with
    | @tup ds pa vs h1 hr =>
    refine ⟨_, vs.length, rfl, .inr ⟨vs, h1, rfl⟩, ?_⟩
    rw [← hr.length]
    exact p.now s _ (.int _)
  · cases r with
    | cons r t =>
    cases t
    split at p
    · rename_i ds src hl
      obtain ⟨pa, vs, rfl, h1, hr⟩ := lstOf_sq s r hl
      refine ⟨_, vs.length, rfl, .inl ⟨vs, h1, rfl⟩, ?_⟩
      rw [← hr.length]
      exact p.now s _ (.int _)
    · exact p.elim
  · exact p.elim
theorem callS_abs : CallS G E fAbs (fun xs H Q => ∃ i, xs = [.int i] ∧ Q (.int (if i < 0 then -i else i)) H) := by
  intro E' as st H ds xs Q s r p
  unfold fAbs at p
  split at p
  · cases r with
    | cons r t =>
    cases t; cases r
    exact ⟨_, rfl, p.now s _ (.int _)⟩
  · exact p.elim
theorem blsOf_rel : ∀ {ds : List D} {vs : List V} {bs : List Bool}, RelDs G as L H ds vs → blsOf ds = some bs → vs = bs.map V.bl
  | _, _, _, .nil, h => by cases h; rfl
  | _, _, bs, .cons (ds := ds) r t, h => by
    cases r with
    | bl b =>
      simp only [blsOf] at h
      cases q : blsOf ds with
      | none => rw [q] at h; cases h
      | some bs' =>
        rw [q] at h
        cases h
        rw [blsOf_rel t q]; rfl
    | _ => simp only [blsOf] at h; cases h
theorem callS_all : CallS G E fAll (rAll G.K) := by
  intro E' as st H ds xs Q s r p
  unfold fAll at p
  split at p
  · cases r with
    | cons r t =>
    cases t
    split at p
    · rename_i ds src hl
      split at p
      · rename_i bs hb
        obtain ⟨pa, vs, rfl, h1, hr⟩ := lstOf_sq s r hl
        rw [blsOf_rel hr hb] at h1
        exact ⟨pa, bs, rfl, h1, p.now s _ (.bl _)⟩
      · exact p.elim
    · exact p.elim
  · exact p.elim
theorem callS_any : CallS G E fAny (rAny G.K) := by
  intro E' as st H ds xs Q s r p
  unfold fAny at p
  split at p
  · cases r with
    | cons r t =>
    cases t
    split at p
    · rename_i ds src hl
      split at p
      · rename_i bs hb
        obtain ⟨pa, vs, rfl, h1, hr⟩ := lstOf_sq s r hl
        rw [blsOf_rel hr hb] at h1
        exact ⟨pa, bs, rfl, h1, p.now s _ (.bl _)⟩
      · exact p.elim
    · exact p.elim
  · exact p.elim
theorem callS_list : CallS G E fList (fun xs H Q => ∃ p ys, xs = [.ref p] ∧ (SqL G.K H p ys ∨ SqT G.K H p ys) ∧ ∀ l, H l = none → Q (.ref l) (upd H l (.lst ys))) := by
  intro E' as st H ds xs Q s r p
  unfold fList at p
  split at p
  · cases r with
    | cons r t =>
    cases t
    cases r with
    | @tup ds pa vs h1 hr =>
    exact ⟨_, vs, rfl, .inr h1, fun t ht => p as _ (Ext.lay ht) (s.laid ht) _ (RelW.newLst s hr ht)⟩
  · cases r with
    | cons r t =>
    cases t
    split at p
    · rename_i ds src hl
      obtain ⟨pa, vs, rfl, h1, hr⟩ := lstOf_sq s r hl
      exact ⟨_, vs, rfl, .inl h1, fun t ht => p as _ (Ext.lay ht) (s.laid ht) _ (RelW.newLst s hr ht)⟩
    · exact p.elim
  · exact p.elim
theorem callS_tuple : CallS G E fTuple (fun xs H Q => ∃ p ys, xs = [.ref p] ∧ ((SqL G.K H p ys ∧ ∀ l, H l = none → Q (.ref l) (upd H l (.tup ys))) ∨ (SqT G.K H p ys ∧ Q (.ref p) H))) := by
  intro E' as st H ds xs Q s r p
  unfold fTuple at p
  split at p
  · cases r with
    | cons r t =>
    cases t
    cases r with
    | @tup ds pa vs h1 hr => exact ⟨_, vs, rfl, .inr ⟨h1, p.now s _ (.tup h1 hr)⟩⟩
  · cases r with
    | cons r t =>
    cases t
    split at p
    · rename_i ds src hl
      obtain ⟨pa, vs, rfl, h1, hr⟩ := lstOf_sq s r hl
      exact ⟨_, vs, rfl, .inl ⟨h1, fun t ht => p as _ (Ext.lay ht) (s.laid ht) _ (RelD.newTup s hr ht)⟩⟩
    · exact p.elim
  · exact p.elim
end
/-! ### isinstance of built-in classes -/
/-- a dict whose keys are ints and texts -/
def kKeys (kvs : List (D × D)) : Bool := kvs.all fun kv => match kv.1 with
  | .int _ => true
  | .str _ => true
  | _ => false
theorem DicR.isK {G : Gx} {as : List Addr} {L : Addr → Prop} {H : Hp} {kvs : List (D × D)} {a : Addr} (h : DicR G as L H kvs a) (q : kKeys kvs = true) : ∃ ws, H a = some (.dK ws) := by
  cases h with
  | k e _ _ => exact ⟨_, e⟩
  | @n kvs xs vs a e z k r1 _ _ =>
    exfalso
    cases kvs with
    | nil => exact z rfl
    | cons kv kvs =>
      cases xs with
      | nil => simp at k
      | cons x xs =>
        simp only [List.map_cons, List.cons.injEq] at k
        obtain ⟨kd, vd⟩ := kv
        cases r1 with
        | cons r _ =>
          have r : RelD G as L H kd (.ref x.2.1) := r
          simp only [kKeys, List.all_cons, Bool.and_eq_true] at q
          have q1 := q.1
          cases kd with
          | int i => cases r
          | str z => cases r
          | _ => cases q1
def tyD (d : D) (st : Store) : Option String := match d with
  | .non => some "NoneType"
  | .bl _ => some "bool"
  | .int _ => some "int"
  | .str _ => some "str"
  | .tup _ => some "tuple"
  | .lst _ => some "list"
  | .dic kvs => if kKeys kvs = true then some "dict" else none
  | .ref n => match st[n]? with
    | some (some (.lst _)) => some "list"
    | some (some (.dic kvs)) => if kKeys kvs = true then some "dict" else none
    | _ => none
  | _ => none
def isiTab (a T : String) : Bool := a == T || (a == "bool" && T == "int")
def knownTy : List String := ["NoneType", "bool", "int", "str", "tuple", "list", "dict"]
theorem isiTab_kit : (knownTy.all fun a => ["bool", "int", "str", "tuple", "list", "dict"].all fun T => decide (kitB a T = some (isiTab a T))) = true := by decide +kernel
def okTy (T : String) : Bool := ["bool", "int", "str", "tuple", "list", "dict"].contains T
theorem tyD_known {d : D} {st : Store} {a : String} (h : tyD d st = some a) : a ∈ knownTy := by
  cases d with
  | ref n =>
    simp only [tyD] at h
    split at h
    · cases h; simp [knownTy]
    · split at h
      · cases h; simp [knownTy]
      · cases h
    · cases h
  | dic kvs =>
    simp only [tyD] at h
    split at h
    · cases h; simp [knownTy]
    · cases h
  | _ => simp only [tyD] at h <;> cases h <;> simp [knownTy]
theorem kit_known {a T : String} (ha : a ∈ knownTy) (hT : okTy T = true) : kitB a T = some (isiTab a T) := by
  have h := isiTab_kit
  rw [List.all_eq_true] at h
  have h2 := h a ha
  rw [List.all_eq_true] at h2
  exact of_decide_eq_true (h2 T (by simpa [okTy] using hT))
def tysOf : List D → Option (List String)
  | [] => some []
  | .ty T :: ds => if okTy T = true then (tysOf ds).map fun ts => T :: ts else none
  | _ => none
def fIsi (ds : List D) (st : Store) : Res Wv := match ds with
  | [d, .ty T] => match tyD d st with
    | some a => if okTy T = true then .ok (.val (.bl (isiTab a T))) st else .stuck
    | none => .stuck
  | [d, .tup cs] => match tyD d st, tysOf cs with
    | some a, some ts => .ok (.val (.bl (ts.any fun T => isiTab a T))) st
    | _, _ => .stuck
  | _ => .stuck
def rIsiS (K : PySem.W.Frag) : List V → Hp → VK → Prop := fun xs H Q => ∃ (x : V) (tp : Addr) (cs : List V) (t : Value) (us : List Value) (b : Bool), xs = [x, .ref tp] ∧ SqT K H tp cs ∧ Paired ClsV cs us ∧ TyX K H x t ∧ PySem.W.kitAny K t us = some b ∧ Q (.bl b) H
theorem call_isiS {X : Cx} : CallR X (.builtin "isinstance") (rIsiS X.K) := by
  intro pins s σ H xs us Q I r h
  obtain ⟨x, tp, cs, t, ws, b, rfl, hT, k, ty, e, q⟩ := h
  obtain ⟨u1, u2, rfl, r1, r2⟩ : ∃ u1 u2, us = [u1, u2] ∧ RelV x u1 ∧ RelV (V.ref tp) u2 := by
    cases r with
    | cons r1 r =>
    cases r with
    | cons r2 r =>
    cases r
    exact ⟨_, _, rfl, r1, r2⟩
  cases (show u2 = Value.ref tp from r2)
  obtain ⟨P, Z, p, hx⟩ := kit_of I r1 ty
  obtain ⟨its, rv, ⟨o, h1, h2, n, h3⟩, _⟩ := I.tuple hT
  have e3 := ClsV.all k rv
  subst e3
  obtain ⟨oc, od, dt, sl⟩ := o
  simp only at h2 h3
  subst h2 h3
  exact PySem.W.kia_tup Z I.kIn p h1 e hx fun tk => ⟨.bl b, H, I.tok tk, rfl, q⟩
def rIsi2 (K : PySem.W.Frag) : List V → Hp → VK → Prop := fun xs H Q => rIsi K xs H Q ∨ rIsiS K xs H Q
section
variable {X : Cx} {G : Gx} {E : WX} {as as' : List Addr} {st st' : Store} {H : Hp} {L : Addr → Prop}
theorem call_isi2 : CallR X (.builtin "isinstance") (rIsi2 X.K) := CallR.or call_isi call_isiS
theorem tyD_x (s : StR G as st H) {d : D} {v : V} {a : String} (r : RelD G as (Live as st) H d v) (h : tyD d st = some a) : TyX G.K H v (.type a) := by
  cases r with
  | non => cases h; exact .base .non
  | bl b => cases h; exact .base (.bl b)
  | int b => cases h; exact .base (.int b)
  | str b => cases h; exact .base (.str b)
  | ty n => cases h
  | cl _ => cases h
  | @ref n ad ha =>
    simp only [tyD] at h
    split at h
    · rename_i ds e
      cases h
      obtain ⟨a', ha', vs, hv, _⟩ := s.cells _ _ e
      rw [ha] at ha'; cases ha'
      exact .base (.lst hv)
    · rename_i kvs e
      split at h
      · rename_i hk
        cases h
        obtain ⟨a', ha', c⟩ := s.cells _ _ e
        rw [ha] at ha'; cases ha'
        obtain ⟨ws, c⟩ := (show DicR G as _ H kvs ad from c).isK hk
        exact .base (.dK c)
      · cases h
    · cases h
  | tup h1 _ =>
    cases h
    rcases h1 with (h1 | ⟨o, h1⟩) | ⟨o, its, n, hk, hc, _⟩
    · exact .base (.tup h1)
    · exact .fTuple h1
    · exact .kTuple hk hc
  | lst h1 _ _ =>
    cases h
    rcases h1 with h1 | ⟨o, h1⟩
    · exact .base (.lst h1)
    · exact .base (.frz h1)
  | lstK h1 _ =>
    cases h
    obtain ⟨o, its, n, hk, hc, _⟩ := h1
    exact .kList hk hc
  | err _ _ _ => simp [tyD, kKeys] at h
  | errR _ _ _ _ _ _ => simp [tyD, kKeys] at h
  | dic h1 _ =>
    simp only [tyD] at h
    split at h
    · rename_i hk
      cases h
      obtain ⟨ws, c⟩ := h1.isK hk
      exact .base (.dK c)
    · cases h
  | obj _ _ _ _ _ => cases h
theorem tysOf_rel : ∀ {ds : List D} {vs : List V} {ts : List String}, RelDs G as L H ds vs → tysOf ds = some ts → vs = ts.map V.ty ∧ ∀ T ∈ ts, okTy T = true
  | _, _, _, .nil, h => by cases h; exact ⟨rfl, by simp⟩
  | _, _, ts, .cons (ds := ds) r t, h => by
    cases r with
    | ty T =>
      simp only [tysOf] at h
      split at h
      · rename_i ok
        cases q : tysOf ds with
        | none => rw [q] at h; cases h
        | some ts' =>
          rw [q] at h
          cases h
          obtain ⟨e, a⟩ := tysOf_rel t q
          refine ⟨by rw [e]; rfl, fun U hU => ?_⟩
          rcases List.mem_cons.mp hU with rfl | hU
          · exact ok
          · exact a U hU
      · cases h
    | _ => simp only [tysOf] at h; cases h
theorem paired_ty : ∀ ts : List String, Paired ClsV (ts.map V.ty) (ts.map Value.type)
  | [] => .nil
  | T :: ts => .cons (.ty T) (paired_ty ts)
theorem kitAny_ty {K : PySem.W.Frag} {a : String} (ha : a ∈ knownTy) : ∀ ts : List String, (∀ T ∈ ts, okTy T = true) → PySem.W.kitAny K (.type a) (ts.map Value.type) = some (ts.any fun T => isiTab a T)
  | [], _ => rfl
  | T :: ts, h => by
    have h1 : PySem.W.kitOne K (.type a) (.type T) = some (isiTab a T) := kit_ty (kit_known ha (h T List.mem_cons_self))
    have h2 := kitAny_ty (K := K) ha ts fun U hU => h U (List.mem_cons_of_mem _ hU)
    show PySem.W.kitAny K (.type a) (Value.type T :: ts.map Value.type) = _
    unfold PySem.W.kitAny
    rw [h1]
    cases q : isiTab a T with
    | true => simp [q]
    | false => simp only [List.any_cons, q, Bool.false_or]; exact h2
theorem callS_isi : CallS G E fIsi (rIsi2 G.K) := by
  intro E' as st H ds xs Q s r p
  unfold fIsi at p
  split at p
  · cases r with
    | cons r t =>
    cases t with
    | cons r2 t =>
    cases t; cases r2
    split at p
    · rename_i a ha
      split at p
      · rename_i ok
        exact .inl ⟨_, _, _, _, _, rfl, .ty _, tyD_x s r ha, kit_ty (kit_known (tyD_known ha) ok), p.now s _ (.bl _)⟩
      · exact p.elim
    · exact p.elim
  · cases r with
    | cons r t =>
    cases t with
    | cons r2 t =>
    cases t
    split at p
    · rename_i a ts ha hts
      cases r2 with
      | @tup cs pa vs h1 hr =>
      obtain ⟨e, ok⟩ := tysOf_rel hr hts
      subst e
      exact .inr ⟨_, pa, _, _, _, _, rfl, h1, paired_ty ts, tyD_x s r ha, kitAny_ty (tyD_known ha) ts ok, p.now s _ (.bl _)⟩
    · exact p.elim
  · exact p.elim
end
end VI
namespace VI
open PySem PySem.Spec PyProof.Rows L2
/-! ### methods of built-in types -/
def evMt (T : String) (f : D → List D → Store → Res Wv) (o : EM) (a : AM) : EM := fun env st => (o env st).bind fun w st1 => if tyD w.d st1 = some T ∧ (T = "str" ∨ T = "list" ∨ T = "dict") then (a env st1).bind fun ds st2 => f w.d ds st2 else .stuck
def fAppend (o : D) (ds : List D) (st : Store) : Res Wv := match o, ds with
  | .ref n, [d] => match st[n]? with
    | some (some (.lst xs)) => if xs.length < 100000 then .ok (.val .non) (st.set n (some (.lst (xs ++ [d])))) else .stuck
    | _ => .stuck
  | _, _ => .stuck
def strsOf : List D → Option (List Str)
  | [] => some []
  | .str x :: ds => (strsOf ds).map fun xs => x :: xs
  | _ => none
def fJoin (o : D) (ds : List D) (st : Store) : Res Wv := match o, ds with
  | .str a, [.tup ds] => match strsOf ds with
    | some ys => if (ys.map (·.length)).sum + ys.length * a.length ≤ 100000 then .ok (.val (.str (Txt.join a ys))) st else .stuck
    | none => .stuck
  | .str a, [d] => match lstOf d st with
    | some (ds, _) => match strsOf ds with
      | some ys => if (ys.map (·.length)).sum + ys.length * a.length ≤ 100000 then .ok (.val (.str (Txt.join a ys))) st else .stuck
      | none => .stuck
    | none => .stuck
  | _, _ => .stuck
section
variable {X : Cx} {G : Gx} {E : WX} {as as' : List Addr} {st st' : Store} {H : Hp} {L : Addr → Prop}
theorem tyD_v (s : StR G as st H) {d : D} {v : V} {T : String} (r : RelD G as (Live as st) H d v) (h : tyD d st = some T) (hT : T = "str" ∨ T = "list" ∨ T = "dict") : tyV G.K T v H := by
  cases r with
  | non => cases h; simp at hT
  | bl b => cases h; simp at hT
  | int b => cases h; simp at hT
  | str b => cases h; exact rfl
  | ty n => cases h
  | cl _ => cases h
  | @ref n ad ha =>
    simp only [tyD] at h
    split at h
    · rename_i ds e
      cases h
      obtain ⟨a', ha', vs, hv, _⟩ := s.cells _ _ e
      rw [ha] at ha'; cases ha'
      exact .inl ⟨rfl, vs, .inl (.inl hv)⟩
    · rename_i kvs e
      split at h
      · rename_i hk
        cases h
        obtain ⟨a', ha', c⟩ := s.cells _ _ e
        rw [ha] at ha'; cases ha'
        obtain ⟨ws, c⟩ := (show DicR G as _ H kvs _ from c).isK hk
        exact .inr (.inr (.inl ⟨rfl, .inl ⟨ws, c⟩⟩))
      · cases h
    · cases h
  | tup h1 _ => cases h; simp at hT
  | @lst ds p vs h1 _ _ => cases h; exact .inl ⟨rfl, vs, .inl h1⟩
  | @lstK ds p vs h1 _ => cases h; exact .inl ⟨rfl, vs, .inr h1⟩
  | err _ _ _ => simp [tyD, kKeys] at h
  | errR _ _ _ _ _ _ => simp [tyD, kKeys] at h
  | dic h1 _ =>
    simp only [tyD] at h
    split at h
    · rename_i hk
      cases h
      obtain ⟨ws, c⟩ := h1.isK hk
      exact .inr (.inr (.inl ⟨rfl, .inl ⟨ws, c⟩⟩))
    · cases h
  | obj _ _ _ _ _ => cases h
theorem tI_evMt {T : String} {f : D → List D → Store → Res Wv} {r : V → List V → Hp → VK → Prop} {mo : EM} {ma : AM} {σ : L2.St} {Q : VK} (hs : MtS' G E f r) (h : tI G E (evMt T f mo ma) σ H Q) : tBM G.K T r (tI G E mo) (tAr G E ma) σ H Q := by
  obtain ⟨as, st, env, s, er, p⟩ := h
  refine ⟨as, st, env, s, er, (p.bind s.len).mono fun w as1 st1 H1 e1 s1 p1 v1 r1 => ?_⟩
  split at p1
  · rename_i c
    refine ⟨tyD_v s1 r1.d c.1 c.2, as1, st1, env, s1, er.ext e1 s.len, (p1.bind s1.len).mono fun ds as2 st2 H2 e2 s2 p2 vs r2 => ?_⟩
    exact hs _ as2 st2 H2 _ _ _ _ _ s2 (r1.d.ext e2 s1.len) r2 (p2.mono fun w as3 st3 H3 e3 s3 q v rv => q v (rv.from fun x hx => e1.fresh (e2.fresh hx)))
  · exact p1.elim
theorem pI_bm {T id : String} {o e : Expr} {es : List Expr} {name : Str} {apos cpos : Pos} {f : D → List D → Store → Res Wv} {r : V → List V → Hp → VK → Prop} {mo : EM} {ma : AM} (hK : G.K = X.K) (pa : PlainAttrs T) (slot : Slot T name id) (hty : typeOf (.builtin id) = pure (.type "method_descriptor")) (hm : MtR X id r) (hs : MtS' G E f r) (ho : PE X o (tI G E mo)) (ha : PA X (e :: es) (tAr G E ma))
    (hbase : attributeBase o name X.env (eval o X.env) = eval o X.env := by rfl)
    (hfew : ((backTo cpos (starEach (e :: es) X.env)).all (fun x => !x.1) && (backToKw cpos (keywordEach [] X.env)).all (fun x => x.1.isSome)
      && decide ((e :: es).length + ([] : List Keyword).length + (if ([] : List Keyword).isEmpty then 0 else 1) < 30)) = true := by rfl)
    (hline : (apos.endLine == cpos.line) = true := by rfl) (hst : starEach (e :: es) X.env = (false, eval e X.env) :: starEach es X.env := by rfl) (hplain : (backTo cpos (starEach es X.env)).any (·.1) = false := by rfl) :
    PE X (.Call (.Attribute o name apos) (e :: es) [] cpos) (tI G E (evMt T f mo ma)) :=
  (pe_bm pa slot hty hm ho ha hbase hfew hline hst hplain).vi fun σ H Q h => by rw [← hK]; exact tI_evMt hs h
theorem mtS_append : MtS' G E fAppend rAppend := by
  intro E' as st H d ds x xs Q s r rs p
  unfold fAppend at p
  split at p
  · cases rs with
    | cons r2 t =>
    cases t
    split at p
    · rename_i zs e
      split at p
      · rename_i hl
        cases r with
        | @ref _ a ha =>
        obtain ⟨a', ha', vs, hv, rr⟩ := s.cells _ _ e
        rw [ha] at ha'; cases ha'
        have live : Live as st a := ⟨_, _, ha, e⟩
        refine ⟨a, vs, _, rfl, rfl, hv, Nat.lt_of_lt_of_le (by rw [← rr.length]; exact hl) (by decide : 100000 ≤ sizeLine), ?_⟩
        have kp : ∀ b o, H b = some o → (¬ Live as st b ∨ notMut o = true) → ∀ u, upd H a u b = some o := fun b o eb k u => by
          have ne : b ≠ a := fun z => by
            subst z
            rcases k with k | k
            · exact k live
            · rw [hv] at eb; cases eb; cases k
          rw [upd_ne ne]; exact eb
        obtain ⟨a1, a2⟩ := s.write (d := .lst (zs ++ [_])) (o := .lst (vs ++ [_])) e ha ⟨_, upd_same, (rr.mono (List.prefix_refl _) (fun _ _ n => n) fun b o eb k => kp b o eb k _).append (.cons (r2.mono (List.prefix_refl _) (fun _ _ n => n) fun b o eb k => kp b o eb k _) .nil)⟩
        exact p _ _ a2 a1 _ .non
      · exact p.elim
    · exact p.elim
  · exact p.elim
theorem strsOf_rel : ∀ {ds : List D} {vs : List V} {ys : List Str}, RelDs G as L H ds vs → strsOf ds = some ys → vs = ys.map V.str
  | _, _, _, .nil, h => by cases h; rfl
  | _, _, bs, .cons (ds := ds) r t, h => by
    cases r with
    | str b =>
      simp only [strsOf] at h
      cases q : strsOf ds with
      | none => rw [q] at h; cases h
      | some bs' =>
        rw [q] at h
        cases h
        rw [strsOf_rel t q]; rfl
    | _ => simp only [strsOf] at h; cases h
theorem mtS_join : MtS' G E fJoin (fun x xs H Q => ∃ a p, ∃ ys : List Str, x = .str a ∧ xs = [.ref p] ∧ (SqL G.K H p (ys.map V.str) ∨ SqT G.K H p (ys.map V.str)) ∧ (ys.map (·.length)).sum + ys.length * a.length ≤ 16777216 ∧ Q (.str (Txt.join a ys)) H) := by
  intro E' as st H d ds x xs Q s r rs p
  unfold fJoin at p
  split at p
  · cases r
    cases rs with
    | cons r2 t =>
    cases t
    split at p
    · rename_i ys e
      split at p
      · rename_i hl
        cases r2 with
        | @tup _ pa vs h1 hr =>
        rw [strsOf_rel hr e] at h1
        exact ⟨_, pa, ys, rfl, rfl, .inr h1, by omega, p.now s _ (.str _)⟩
      · exact p.elim
    · exact p.elim
  · cases r
    cases rs with
    | cons r2 t =>
    cases t
    split at p
    · rename_i zs src hz
      split at p
      · rename_i ys e
        split at p
        · rename_i hl
          obtain ⟨pa, vs, rfl, h1, hr⟩ := lstOf_sq s r2 hz
          rw [strsOf_rel hr e] at h1
          exact ⟨_, pa, ys, rfl, rfl, .inl h1, by omega, p.now s _ (.str _)⟩
        · exact p.elim
      · exact p.elim
    · exact p.elim
  · exact p.elim
end
/-! ### x[i] = e -/
def fSetL (o i v : D) (st : Store) : Option Store := match o, i with
  | .ref n, .int k => match st[n]? with
    | some (some (.lst xs)) => (ixN xs.length k).map fun j => st.set n (some (.lst (xs.set j v)))
    | _ => none
  | _, _ => none
def sSetIx (f : D → D → D → Store → Option Store) (e o i : EM) : SM := fun env st => SRes.of env (e env st) fun w1 st1 => SRes.of env (o env st1) fun w2 st2 => SRes.of env (i env st2) fun w3 st3 => match f w2.d w3.d w1.d st3 with
  | some st4 => .nx env st4
  | none => .stuck
def SetS (G : Gx) (f : D → D → D → Store → Option Store) (t : TSet) : Prop := ∀ as st H d1 d2 d3 x y z Q st4, StR G as st H → RelD G as (Live as st) H d1 x → RelD G as (Live as st) H d2 y → RelD G as (Live as st) H d3 z → f d1 d2 d3 st = some st4 →
  (∀ as' H', Ext as st H as' st4 H' → StR G as' st4 H' → Q H') → t x y z H Q
section
variable {X : Cx} {G : Gx} {E : WX} {De : Ends} {as as' : List Addr} {st st' : Store} {H : Hp} {L : Addr → Prop} {σ : L2.St} {pos : Pos}
theorem RelDs.set : ∀ {ds : List D} {vs : List V} {d : D} {v : V} (i : Nat), RelDs G as L H ds vs → RelD G as L H d v → RelDs G as L H (ds.set i d) (vs.set i v)
  | _, _, _, _, _, .nil, _ => .nil
  | _, _, _, _, 0, .cons _ t, r => .cons r t
  | _, _, _, _, i + 1, .cons q t, r => .cons q (RelDs.set i t r)
theorem setS_list : SetS G fSetL rSetL := by
  intro as st H d1 d2 d3 x y z Q st4 s r1 r2 r3 h k
  unfold fSetL at h
  split at h
  · cases r2
    cases r1 with
    | @ref _ a ha =>
    split at h
    · rename_i xs e
      cases q : ixN xs.length _ with
      | none => rw [q] at h; cases h
      | some j =>
        rw [q] at h
        cases h
        obtain ⟨a', ha', vs, hv, rr⟩ := s.cells _ _ e
        rw [ha] at ha'; cases ha'
        have live : Live as st a := ⟨_, _, ha, e⟩
        rw [rr.length] at q
        have kp : ∀ b o, H b = some o → (¬ Live as st b ∨ notMut o = true) → ∀ u, upd H a u b = some o := fun b o eb k u => by
          have ne : b ≠ a := fun z => by
            subst z
            rcases k with k | k
            · exact k live
            · rw [hv] at eb; cases eb; cases k
          rw [upd_ne ne]; exact eb
        obtain ⟨a1, a2⟩ := s.write (d := .lst (xs.set j d3)) (o := .lst (vs.set j z)) e ha ⟨_, upd_same, (rr.mono (List.prefix_refl _) (fun _ _ n => n) fun b o eb k => kp b o eb k _).set j (r3.mono (List.prefix_refl _) (fun _ _ n => n) fun b o eb k => kp b o eb k _)⟩
        exact ⟨a, vs, _, j, rfl, rfl, hv, q, k _ _ a2 a1⟩
    · cases h
  · cases h
theorem tS_setIx {f : D → D → D → Store → Option Store} {t : TSet} {e o i : EM} (hs : SetS G f t) (h : tS G E (sSetIx f e o i) De σ H) : tAsg (tI G E e) (gSub (tI G E o) (tI G E i) t) De σ H := by
  obtain ⟨as, st, env, s, er, p⟩ := h
  refine ⟨as, st, env, s, er, (SPost.of s.len er p).mono fun w as1 st1 H1 e1 s1 p1 v1 r1 => ?_⟩
  have p1 := p1.from s.len e1
  refine ⟨as1, st1, env, s1, er.ext e1 s.len, (SPost.of (σ := σ) s1.len (er.ext e1 s.len) p1).mono fun w2 as2 st2 H2 e2 s2 p2 v2 r2 => ?_⟩
  have p2 := p2.from s1.len e2
  refine ⟨as2, st2, env, s2, (er.ext e1 s.len).ext e2 s1.len, (SPost.of (σ := σ) s2.len ((er.ext e1 s.len).ext e2 s1.len) p2).mono fun w3 as3 st3 H3 e3 s3 p3 v3 r3 => ?_⟩
  have p3 := p3.from s2.len e3
  cases q : f w2.d w3.d w.d st3 with
  | none => simp only [q] at p3; exact p3.elim
  | some st4 =>
    simp only [q] at p3
    exact hs as3 st3 H3 _ _ _ _ _ _ _ st4 s3 (r2.d.ext e3 s2.len) r3.d ((r1.d.ext e2 s1.len).ext e3 s2.len) q fun as4 H4 e4 s4 => p3 as4 H4 σ e4 s4 ((((er.ext e1 s.len).ext e2 s1.len).ext e3 s2.len).ext e4 s3.len)
/-! ### statements -/
theorem pSs_nil : PSs X [] (tS G E sNext) := pss_nil.vi fun _ _ _ => tS_next
theorem pSs_cons {st : Stmt} {rest : List Stmt} {a b : SM} (h1 : PS X st (tS G E a)) (h2 : PSs X rest (tS G E b)) : PSs X (st :: rest) (tS G E (sSeq a b)) := (pss_cons h1 h2).vi fun _ _ _ => tS_seq
theorem pSs_one {st : Stmt} {a : SM} (h1 : PS X st (tS G E a)) : PSs X [st] (tS G E a) := pss_one h1
theorem pS_pass : PS X (.Pass pos) (tS G E sNext) := ps_pass.vi fun _ _ _ => tS_next
theorem pS_break : PS X (.Break pos) (tS G E sBreak) := ps_break.vi fun _ _ _ => tS_brk
theorem pS_cont : PS X (.Continue pos) (tS G E sCont) := ps_continue.vi fun _ _ _ => tS_cnt
theorem pS_expr {e : Expr} {m : EM} (he : PE X e (tI G E m)) (hs : swapsWith e none pos.line X.env = pure false := by rfl) : PS X (.Expr e pos) (tS G E (sDrop m)) := (ps_expr he hs).vi fun _ _ _ => tS_drop
theorem pS_ret {e : Expr} {m : EM} (he : PE X e (tI G E m)) : PS X (.Return (some e) pos) (tS G E (sRet m)) := (ps_ret he).vi fun _ _ _ => tS_ret
theorem pS_retN : PS X (.Return none pos) (tS G E sRetN) := ps_retN.vi fun _ _ _ => tS_retN
theorem pS_if {c : Expr} {a b : List Stmt} {t : TM} {ma mb : SM} (hc : PT X c (tT G E t)) (ha : PSs X a (tS G E ma)) (hb : PSs X b (tS G E mb)) : PS X (.If c a b pos) (tS G E (sIf t ma mb)) := (ps_if hc ha hb).vi fun _ _ _ => tS_if
theorem pS_set {i : Nat} {x : Str} {e : Expr} {m : EM} {pos' : Pos} (hN : X.N.Nodup) (hi : X.N[i]? = some x) (hx : Loc X.env.scope x) (he : PE X e (tI G E m)) (hs : swapsWith e (some (.Name x pos')) pos.line X.env = pure false := by rfl) (hf : X.fn x = true ∨ X.env.scope.names.lookup x = some .local := by first | exact .inl rfl | exact .inr rfl | assumption) :
    PS X (.Assign [.Name x pos'] e pos) (tS G E (sSet i m)) := (ps_set hN hi hx he hs hf).vi fun _ _ _ => tS_set
theorem pS_reg {i : Nat} {x : Str} {e : Expr} {m : EM} {pos' : Pos} (hN : X.N.Nodup) (hi : X.N[i]? = some x) (hx : Loc X.env.scope x) (he : PE X e (tI G E m)) (hs : swapsWith e (some (.Name x pos')) pos.line X.env = pure false := by rfl) (hf : X.fn x = true ∨ X.env.scope.names.lookup x = some .local := by first | exact .inl rfl | exact .inr rfl | assumption) :
    PS X (.Assign [.Name x pos'] e pos) (tS G E (sReg i m)) := (ps_set hN hi hx he hs hf).vi fun _ _ _ => tS_reg
theorem pS_asg {tg e : Expr} {m : EM} {g : GD} {sl : List Nat} (he : PE X e (tI G E m)) (hg : PG X tg (tG G g sl)) (hs : swapsWithSole [tg] e pos.line X.env = pure false := by rfl) (hw : swappedStores [tg] e X.env = pure none := by rfl)
    (h1 : (assignEach [tg] X.env).map (·.2) = [assign tg X.env] := by rfl) : PS X (.Assign [tg] e pos) (tS G E (sAsg g m)) := (ps_asg he hg hs hw h1).vi fun _ _ _ => tS_asg
theorem pS_setIx {o i e : Expr} {f : D → D → D → Store → Option Store} {t : TSet} {me mo mi : EM} {pos' : Pos} (hset : PSet X t) (hf : SetS G f t) (he : PE X e (tI G E me)) (ho : PE X o (tI G E mo)) (hi : PE X i (tI G E mi))
    (ha : ∀ v, assign (.Subscript o i pos') X.env v = (do
      let ov ← holding [v] (eval o X.env)
      let iv ← holding [v, ov] (eval i X.env)
      standAt pos'
      holding [v, ov, iv] (setItem ov iv v)
      release [v, ov, iv] []) := by intro _; rfl)
    (hs : swapsWithSole [.Subscript o i pos'] e pos.line X.env = pure false := by rfl) (hw : swappedStores [.Subscript o i pos'] e X.env = pure none := by rfl)
    (h1 : (assignEach [.Subscript o i pos'] X.env).map (·.2) = [assign (.Subscript o i pos') X.env] := by rfl) : PS X (.Assign [.Subscript o i pos'] e pos) (tS G E (sSetIx f me mo mi)) :=
  (ps_asg he (pg_sub ho hi hset ha) hs hw h1).vi fun _ _ _ => tS_setIx hf
theorem pS_par {i j : Nat} {x y : Str} {a b : Expr} {m : AM} {px py pt : Pos} {kt k2 pt2} (hc : X.calm = true) (hN : X.N.Nodup) (hi : X.N[i]? = some x) (hj : X.N[j]? = some y) (hij : i ≠ j)
    (hx : X.env.scope.names.lookup x = some .local) (hy : X.env.scope.names.lookup y = some .local) (ha : PA X [a, b] (tAr G E m))
    (hw : swappedStores [.Tuple [.Name x px, .Name y py] kt pt] (.Tuple [a, b] k2 pt2) X.env = pure (some [x, y]))
    (hs : swapsWithSole [.Tuple [.Name x px, .Name y py] kt pt] (.Tuple [a, b] k2 pt2) pos.line X.env = pure false := by rfl) :
    PS X (.Assign [.Tuple [.Name x px, .Name y py] kt pt] (.Tuple [a, b] k2 pt2) pos) (tS G E (sPar i j m)) := (ps_par hc hN hi hj hij hx hy ha hw hs).vi fun _ _ _ => tS_par
def sAug (i : Nat) (f : D → D → Store → Res Wv) (e : EM) : SM := fun env st => match env[i]? with
  | some (some d) => SRes.of env (e env st) fun w st1 => SRes.of env (f d w.d st1) fun w2 st2 => .nx (env.set i (some w2.d)) st2
  | _ => .stuck
theorem tS_aug {i : Nat} {f : D → D → Store → Res Wv} {r : R2} {e : EM} (hs : OpS G E f r) (h : tS G E (sAug i f e) De σ H) : tAug i (tI G E e) r De σ H := by
  obtain ⟨as, st, env, s, er, p⟩ := h
  unfold sAug at p
  cases q : env[i]? with
  | none => simp only [q] at p; exact p.elim
  | some o =>
    cases o with
    | none => simp only [q] at p; exact p.elim
    | some d =>
      simp only [q] at p
      obtain ⟨v, hv, rv⟩ := er.2 i d q
      refine ⟨v, hv, as, st, env, s, er, (SPost.of s.len er p).mono fun w as1 st1 H1 e1 s1 p1 v1 r1 => ?_⟩
      have p1 := p1.from s.len e1
      refine hs _ as1 st1 H1 _ _ _ _ _ s1 (rv.ext e1 s.len) r1.d ((SPost.of (σ := σ) s1.len (er.ext e1 s.len) p1).mono fun w2 as2 st2 H2 e2 s2 p2 v2 r2 => ?_)
      exact p2 as2 H2 _ e2 s2 (((er.ext e1 s.len).ext e2 s1.len).set r2.d i)
theorem pS_aug {i : Nat} {x : Str} {e : Expr} {m : EM} {op : Operator} {f : D → D → Store → Res Wv} {r : R2} {pos' : Pos} (hN : X.N.Nodup) (hi : X.N[i]? = some x) (hx : Loc X.env.scope x) (he : PE X e (tI G E m)) (ho : OpR X (inplaceOp op) r) (hs : OpS G E f r) (hf : X.fn x = true ∨ X.env.scope.names.lookup x = some .local := by first | exact .inl rfl | exact .inr rfl | assumption) :
    PS X (.AugAssign (.Name x pos') op e pos) (tS G E (sAug i f m)) := (ps_aug (ti := r) hN hi hx he ho hf).vi fun _ _ _ => tS_aug hs
theorem pS_for {iter tg : Expr} {body : List Stmt} {m : IM} {g : GD} {sl : List Nat} {b : SM} (hp : PassesOwn (model X.prog X.w) X.A X.env X.xe) (hc : X.calm = true) (hi : PI X tg iter (tIt G E m)) (hg : PG X tg (tG G g sl)) (hb : PSs X body (tS G E b))
    (hs : ∀ x, foldedSetIterable iter X.env x = pure x := by intro _; rfl) : PS X (.For tg iter body [] pos) (tS G E (sFor m g b)) := (ps_for hp hc hi hg hb hs).vi fun _ _ _ => tS_for
theorem pS_setLc {i : Nat} {y : Str} {py : Pos} {elt tg iter : Expr} {ifs : List Expr} {scope : Scope} {own : List (Str × Nat)} {pos spos : Pos} {m : IM} {g : GD} {sl : List Nat} {t : TM} {e : EM} (hc : X.calm = true) (hN : X.N.Nodup) (hy : X.N[i]? = some y) (hyl : X.env.scope.names.lookup y = some .local)
    (hsw : swapsWith (.ListComp elt [⟨tg, iter, ifs, 0⟩] scope pos) (some (.Name y py)) spos.line X.env = pure true) (hi : PI X tg iter (tIt G E m)) (ok : BlkOk X.N X.env.scope scope own)
    (hg : ∀ (s : Shared) (H : Hp) (C : Addr) (cl : List (Str × Addr)) (fp : List Addr), PG (X.blk s H scope (compEnvC scope cl C X.env) fp) tg (tG G g sl)) (ht : ∀ (s : Shared) (H : Hp) (C : Addr) (cl : List (Str × Addr)) (fp : List Addr), PTs (X.blk s H scope (compEnvC scope cl C X.env) fp) ifs (tT G E0w t))
    (he : ∀ (s : Shared) (H : Hp) (C : Addr) (cl : List (Str × Addr)) (fp : List Addr), PE (X.blk s H scope (compEnvC scope cl C X.env) fp) elt (tI G E0w e)) (hsl : ∀ i ∈ sl, i ∈ own.map (·.2)) (hs : ∀ x, foldedSetIterable iter X.env x = pure x := by intro _; rfl) :
    PS X (.Assign [.Name y py] (.ListComp elt [⟨tg, iter, ifs, 0⟩] scope pos) spos) (tS G E (sSet i (evLc (own.map (·.2)) m g t e))) :=
  (ps_setLc hc hN hy hyl hsw hi ok hg ht he hs).vi fun De σ H h => tI_lc hsl (tS_set h)
theorem pS_regLc {i : Nat} {y : Str} {py : Pos} {elt tg iter : Expr} {ifs : List Expr} {scope : Scope} {own : List (Str × Nat)} {pos spos : Pos} {m : IM} {g : GD} {sl : List Nat} {t : TM} {e : EM} (hc : X.calm = true) (hN : X.N.Nodup) (hy : X.N[i]? = some y) (hyl : X.env.scope.names.lookup y = some .local)
    (hsw : swapsWith (.ListComp elt [⟨tg, iter, ifs, 0⟩] scope pos) (some (.Name y py)) spos.line X.env = pure true) (hi : PI X tg iter (tIt G E m)) (ok : BlkOk X.N X.env.scope scope own)
    (hg : ∀ (s : Shared) (H : Hp) (C : Addr) (cl : List (Str × Addr)) (fp : List Addr), PG (X.blk s H scope (compEnvC scope cl C X.env) fp) tg (tG G g sl)) (ht : ∀ (s : Shared) (H : Hp) (C : Addr) (cl : List (Str × Addr)) (fp : List Addr), PTs (X.blk s H scope (compEnvC scope cl C X.env) fp) ifs (tT G E0w t))
    (he : ∀ (s : Shared) (H : Hp) (C : Addr) (cl : List (Str × Addr)) (fp : List Addr), PE (X.blk s H scope (compEnvC scope cl C X.env) fp) elt (tI G E0w e)) (hsl : ∀ i ∈ sl, i ∈ own.map (·.2)) (hs : ∀ x, foldedSetIterable iter X.env x = pure x := by intro _; rfl) :
    PS X (.Assign [.Name y py] (.ListComp elt [⟨tg, iter, ifs, 0⟩] scope pos) spos) (tS G E (sReg i (evLc (own.map (·.2)) m g t e))) :=
  (ps_setLc hc hN hy hyl hsw hi ok hg ht he hs).vi fun De σ H h => tI_lc hsl (tS_reg h)
/-! ### what a for walks -/
theorem pIt_seq {tg e : Expr} {m : EM} (hK : G.K = X.K) (h : PE X e (tI G E m)) : PI X tg e (tIt G E (itSeq m)) := by
  refine (L2.PI.viOr (pi_list (tg := tg) h) (L2.PI.viOr (pi_tup (tg := tg) h) (pi_str (tg := tg) h))).vi fun σ H R q => ?_
  obtain ⟨as, st, env, s, er, p⟩ := q
  unfold itSeq at p
  cases q : m env st with
  | stuck => rw [q] at p; exact p.elim
  | exc x st1 =>
    rw [q] at p
    refine .inl ⟨as, st, env, s, er, ?_⟩
    rw [q]; exact p
  | ok w st1 =>
    rw [q] at p
    have p : Post G (eAt E σ) as st H (match seqOf w.d st1 with | some (ds, src) => Res.ok (IterV.mk ds src) st1 | none => .stuck) _ := p
    cases qd : w.d with
    | tup ds =>
      rw [qd] at p
      refine .inr (.inl ⟨as, st, env, s, er, ?_⟩)
      rw [q]
      intro as1 H1 e1 s1 v r
      have rd := r.d
      rw [qd] at rd
      cases rd with
      | @tup _ pa vs h1 hr => exact ⟨pa, rfl, ⟨vs, by rw [← hK]; exact h1⟩, by rw [← hK]; exact p as1 H1 e1 s1 _ (src_tup s1 h1 hr)⟩
    | str x =>
      rw [qd] at p
      refine .inr (.inr ⟨as, st, env, s, er, ?_⟩)
      rw [q]
      intro as1 H1 e1 s1 v r
      have rd := r.d
      rw [qd] at rd
      cases rd
      exact ⟨x, rfl, p as1 H1 e1 s1 _ src_str⟩
    | _ =>
      refine .inl ⟨as, st, env, s, er, ?_⟩
      rw [q]
      intro as1 H1 e1 s1 v r
      have rd := r.d
      rw [qd] at rd p
      simp only [seqOf] at p
      split at p
      · rename_i ds src hl
        obtain ⟨pa, vs, rfl, h1, hr⟩ := lstOf_sq s1 rd hl
        exact ⟨pa, rfl, ⟨vs, by rw [← hK]; exact h1⟩, by rw [← hK]; exact p as1 H1 e1 s1 _ (src_lst s1 rd hl)⟩
      · exact p.elim
theorem okR_b {i : Int} (h : okR i = true) : -(2 ^ 62) ≤ i ∧ i < 2 ^ 62 := by simpa [okR] using h
theorem pIt_r1 {tg a : Expr} {m : AM} {p pos : Pos} (hg : Gl X "range") (hm : X.mg "range" = none) (ha : PA X [a] (tAr G E m)) (hs : starEach [a] X.env = [(false, eval a X.env)] := by rfl) : PI X tg (.Call (.Name "range" p) [a] [] pos) (tIt G E (itR1 m)) :=
  (pi_range1 hg hm ha hs).vi fun σ H R ⟨as, st, env, s, er, p⟩ => ⟨as, st, env, s, er, (p.bind s.len).mono fun ds as1 st1 H1 e1 s1 p1 vs r1 => by
    split at p1
    · rename_i j
      cases r1 with
      | cons r t =>
      cases t
      cases r
      split at p1
      · rename_i ok
        obtain ⟨b1, b2⟩ := okR_b ok
        exact ⟨j, rfl, b1, b2, p1.now s1 _ src_rng⟩
      · exact p1.elim
    · exact p1.elim⟩
theorem pIt_r2 {tg a b : Expr} {m : AM} {p pos : Pos} (hg : Gl X "range") (hm : X.mg "range" = none) (ha : PA X [a, b] (tAr G E m)) (hs : starEach [a, b] X.env = [(false, eval a X.env), (false, eval b X.env)] := by rfl) (hs2 : starEach [b] X.env = [(false, eval b X.env)] := by rfl) : PI X tg (.Call (.Name "range" p) [a, b] [] pos) (tIt G E (itR2 m)) :=
  (pi_range2 hg hm ha hs hs2).vi fun σ H R ⟨as, st, env, s, er, p⟩ => ⟨as, st, env, s, er, (p.bind s.len).mono fun ds as1 st1 H1 e1 s1 p1 vs r1 => by
    split at p1
    · rename_i i j
      cases r1 with
      | cons r t =>
      cases t with
      | cons r2 t =>
      cases t
      cases r
      cases r2
      split at p1
      · rename_i ok
        rw [Bool.and_eq_true] at ok
        obtain ⟨b1, b2⟩ := okR_b ok.1
        obtain ⟨b3, b4⟩ := okR_b ok.2
        exact ⟨i, j, rfl, ⟨b1, b2, b3, b4⟩, p1.now s1 _ src_rng⟩
      · exact p1.elim
    · exact p1.elim⟩
theorem pIt_enum {e : Expr} {m : AM} {p pos tpos : Pos} {elts : List Expr} {kk : Nat} (hK : G.K = X.K) (hg : Gl X "enumerate") (hm : X.mg "enumerate" = none) (ha : PA X [e] (tAr G E m)) (hs : starEach [e] X.env = [(false, eval e X.env)] := by rfl) :
    PI X (.Tuple elts kk tpos) (.Call (.Name "enumerate" p) [e] [] pos) (tIt G E (itEnum m)) :=
  (pi_enum hg hm ha hs).vi fun σ H R ⟨as, st, env, s, er, p⟩ => ⟨as, st, env, s, er, (p.bind s.len).mono fun ds as1 st1 H1 e1 s1 p1 vs r1 => by
    split at p1
    · cases r1 with
      | cons r t =>
      cases t
      split at p1
      · rename_i xs hl
        obtain ⟨pa, ws, rfl, h1, hr⟩ := lstOf_sq s1 r hl
        exact ⟨pa, ws, rfl, by rw [← hK]; exact h1, by rw [← hK]; exact p1.now s1 _ (src_enum s1 r hl)⟩
      · exact p1.elim
    · exact p1.elim⟩
theorem pIt_zip {e e2 : Expr} {m : AM} {p pos tpos : Pos} {elts : List Expr} {kk : Nat} (hK : G.K = X.K) (hg : Gl X "zip") (hm : X.mg "zip" = none) (ha : PA X [e, e2] (tAr G E m))
    (hs : starEach [e, e2] X.env = (false, eval e X.env) :: starEach [e2] X.env := by rfl) (hpl : (backTo pos (starEach [e2] X.env)).any (·.1) = false := by rfl) :
    PI X (.Tuple elts kk tpos) (.Call (.Name "zip" p) [e, e2] [] pos) (tIt G E (itZip m)) :=
  (RZ.pi_zipA hg hm ha hs hpl).vi fun σ H R ⟨as, st, env, s, er, p⟩ => ⟨as, st, env, s, er, (p.bind s.len).mono fun ds as1 st1 H1 e1 s1 p1 vs r1 => by
    split at p1
    · cases r1 with
      | cons r t =>
      cases t with
      | cons r2 t =>
      cases t
      cases r with
      | @tup _ pa ws h1 hr =>
      cases r2 with
      | @tup _ pb zs h2 hr2 =>
      exact ⟨pa, pb, ws, zs, rfl, .inr ⟨by rw [← hK]; exact h1, by rw [← hK]; exact h2, by rw [← hK]; exact p1.now s1 _ (src_zipT s1 h1 h2 hr hr2)⟩⟩
    · cases r1 with
      | cons r t =>
      cases t with
      | cons r2 t =>
      cases t
      obtain ⟨pa, ws, rfl, h1, hr⟩ := lstOf_sq s1 r (src := none) rfl
      obtain ⟨pb, zs, rfl, h2, hr2⟩ := lstOf_sq s1 r2 (src := none) rfl
      exact ⟨pa, pb, ws, zs, rfl, .inl ⟨by rw [← hK]; exact h1, by rw [← hK]; exact h2, by rw [← hK]; exact p1.now s1 _ (src_zipL s1 r r2)⟩⟩
    · exact p1.elim⟩
theorem pIt_rev {tg e : Expr} {m : EM} {p pos : Pos} (hK : G.K = X.K) (hg : Gl X "reversed") (hm : X.mg "reversed" = none) (he : PE X e (tI G E m)) (hs : starEach [e] X.env = (false, eval e X.env) :: starEach [] X.env := by rfl) : PI X tg (.Call (.Name "reversed" p) [e] [] pos) (tIt G E (itRev m)) :=
  (RT.pi_revA hg hm he hs).vi fun σ H R ⟨as, st, env, s, er, p⟩ => ⟨as, st, env, s, er, (p.bind s.len).mono fun w as1 st1 H1 e1 s1 p1 v r1 => by
    have r := r1.d
    cases q : w.d with
    | tup ds =>
      simp only [q] at p1
      rw [q] at r
      cases r with
      | @tup _ pa ws h1 hr => exact ⟨pa, ws, rfl, .inr ⟨by rw [← hK]; exact h1, by rw [← hK]; exact p1.now s1 _ (src_revT s1 h1 hr)⟩⟩
    | lst ds =>
      simp only [q] at p1
      rw [q] at r
      obtain ⟨pa, ws, rfl, h1, hr⟩ := lstOf_sq s1 r (src := none) rfl
      exact ⟨pa, ws, rfl, .inl ⟨by rw [← hK]; exact h1, by rw [← hK]; exact p1.now s1 _ (src_revL s1 r h1 hr)⟩⟩
    | _ => simp only [q] at p1; exact p1.elim⟩
end
/-! ### defs -/
/-- a def that raises nothing -/
def spN (G : Gx) (n : Nat) (f : FnSem) : Sp := fun vs H Q _ => spI G n f vs H Q E0
section
variable {P : Program} {w : World} {K : PySem.W.Frag} {mg : Str → Option Value} {base : Heap} {G : Gx} {E : WX} {X : Cx}
theorem fn_ok {x qual : Str} {st : Stmt} {f : Addr} {fd : FuncData} {N ps : List Str} {k n : Nat} {m : SM} (F : Fun K x qual st f fd) (S : FnScope N ps (defScope st)) (hn : N.length = n)
    (hb : ∀ (cdv : Value) (A : Around) (outer : List Env) (s : Shared) (H : Hp) (Ex : XK), Room k (A.deeper (envOfC qual (defScope st) s.heap.objs.size f cdv)) →
      PSs (cxOf CX0 P w K mg base N qual (defScope st) f cdv A outer s H Ex).nox (defBody st) (tS G E0w m)) : FnOk P w K mg base CX0 (k + 1) f fd ps (spN G ps.length (runP n m)) := by
  refine F.ok S (fun vs H Q E h => h.1) (fun cdv A outer s H vs Q Ex hr h => ⟨_, hb cdv A outer s H Ex hr, ?_⟩)
  exact run_body hn h.2
variable {CX : CXT} {k : Nat} {f : Addr} {fd : FuncData} {ps : List Str} {x : Str} {p pos : Pos} {e : Expr} {es : List Expr} {m : AM} {fs : FnSem} {n : Nat}
theorem RelDs.len_of {as : List Addr} {L : Addr → Prop} {H : Hp} {ds : List D} {vs : List V} (r : RelDs G as L H ds vs) (h : ds.length = n) : vs.length = n := by rw [← r.length]; exact h
/-- a call of such a def -/
def evCall (n : Nat) (f : FnSem) (a : AM) : EM := fun env st => (a env st).bind fun ds st1 => if ds.length = n then noX (f ds st1) else .stuck
theorem pI_call (F : FnOk X.prog X.w X.K X.mg X.base CX0 k f fd ps (spN G n fs)) (hr : Room k X.A) (hg : Gl X x) (hm : X.mg x = some (.ref f)) (hk : PySem.W.keepIn X.K (.ref f) = true) (hb : Binds X.K fd ps []) (ha : PA X (e :: es) (tAr G E m))
    (hdb : (x == ("__debug__" : Str)) = false := by decide) (he : starEach (e :: es) X.env = (false, eval e X.env) :: starEach es X.env := by rfl) (hpl : (backTo pos (starEach es X.env)).any (·.1) = false := by rfl) : PE X (.Call (.Name x p) (e :: es) [] pos) (tI G E (evCall n fs m)) := by
  refine (pe_call (E := fun _ _ _ => False) F hr hg hm hk hb .nil (fun _ _ _ _ _ _ _ h => h.elim) ha hdb he hpl).vi fun σ H Q h => ?_
  obtain ⟨as, st, env, s, er, p⟩ := h
  refine ⟨as, st, env, s, er, (p.bind s.len).mono fun ds as1 st1 H1 e1 s1 p1 vs r1 => ?_⟩
  split at p1
  · rename_i hn
    refine ⟨by rw [List.append_nil]; exact r1.len_of hn, as1, st1, ds, s1, by rw [List.append_nil]; exact r1, ?_⟩
    exact Post.noX (p1.mono fun w as3 st3 H3 e3 s3 q v rv => q v (rv.from (fresh_of e1)))
  · exact p1.elim
theorem pI_call0 (F : FnOk X.prog X.w X.K X.mg X.base CX0 k f fd ps (spN G 0 fs)) (hr : Room k X.A) (hg : Gl X x) (hm : X.mg x = some (.ref f)) (hk : PySem.W.keepIn X.K (.ref f) = true) (hb : Binds X.K fd ps [])
    (hdb : (x == ("__debug__" : Str)) = false := by decide) : PE X (.Call (.Name x p) [] [] pos) (tI G E (evCall 0 fs anil)) := by
  refine (pe_call0 (E := fun _ _ _ => False) F hr hg hm hk hb .nil (fun _ _ _ _ _ _ _ h => h.elim) hdb).vi fun σ H Q h => ?_
  obtain ⟨as, st, env, s, er, p⟩ := h
  have p : Post G (eAt E σ) as st H (noX (fs [] st)) _ := p
  exact ⟨rfl, as, st, [], s, .nil, Post.noX p⟩
end
end VI
namespace VI
open PySem PySem.Spec PyProof.Rows L2
/-- where a def of the text stands -/
def At (K : PySem.W.Frag) (mg : Str → Option Value) (x qual : Str) (st : Stmt) (ps : List Str) : Prop := ∃ a fd, Fun K x qual st a fd ∧ Binds K fd ps [] ∧ mg x = some (.ref a)
def Ok (P : Program) (w : World) (K : PySem.W.Frag) (mg : Str → Option Value) (base : Heap) (G : Gx) (k : Nat) (x : Str) (n : Nat) (fs : FnSem) : Prop :=
  ∃ a fd ps, FnOk P w K mg base CX0 k a fd ps (spN G n fs) ∧ PySem.W.keepIn K (.ref a) = true ∧ Binds K fd ps [] ∧ mg x = some (.ref a)
section
variable {P : Program} {w : World} {K : PySem.W.Frag} {mg : Str → Option Value} {base : Heap} {G : Gx} {E : WX} {X : Cx}
theorem ok_of {x qual : Str} {st : Stmt} {N ps : List Str} {k n nn : Nat} {m : SM} (D : At K mg x qual st ps) (S : FnScope N ps (defScope st)) (hn : N.length = nn) (hp : ps.length = n)
    (hb : ∀ (f : Addr) (cdv : Value) (A : Around) (outer : List Env) (s : Shared) (H : Hp) (Ex : XK), Room k (A.deeper (envOfC qual (defScope st) s.heap.objs.size f cdv)) →
      PSs (cxOf CX0 P w K mg base N qual (defScope st) f cdv A outer s H Ex).nox (defBody st) (tS G E0w m)) : Ok P w K mg base G (k + 1) x n (runP nn m) := by
  obtain ⟨a, fd, F, b, g⟩ := D
  subst hp
  exact ⟨a, fd, ps, fn_ok F S hn (hb a), F.kp, b, g⟩
theorem pI_callO {k n : Nat} {x : Str} {p pos : Pos} {e : Expr} {es : List Expr} {m : AM} {fs : FnSem} (O : Ok X.prog X.w X.K X.mg X.base G k x n fs) (hr : Room k X.A) (hg : Gl X x) (ha : PA X (e :: es) (tAr G E m))
    (hdb : (x == ("__debug__" : Str)) = false := by decide) (he : starEach (e :: es) X.env = (false, eval e X.env) :: starEach es X.env := by rfl) (hpl : (backTo pos (starEach es X.env)).any (·.1) = false := by rfl) : PE X (.Call (.Name x p) (e :: es) [] pos) (tI G E (evCall n fs m)) := by
  obtain ⟨a, fd, ps, F, kp, b, g⟩ := O
  exact pI_call F hr hg g kp b ha hdb he hpl
theorem pI_callO0 {k : Nat} {x : Str} {p pos : Pos} {fs : FnSem} (O : Ok X.prog X.w X.K X.mg X.base G k x 0 fs) (hr : Room k X.A) (hg : Gl X x)
    (hdb : (x == ("__debug__" : Str)) = false := by decide) : PE X (.Call (.Name x p) [] [] pos) (tI G E (evCall 0 fs anil)) := by
  obtain ⟨a, fd, ps, F, kp, b, g⟩ := O
  exact pI_call0 F hr hg g kp b hdb
theorem _root_.L2.PG.viOr {e : Expr} {t t' : TG} (h : PG X e t) (h' : PG X e t') : PG X e (fun v σ H Q => t v σ H Q ∨ t' v σ H Q) := ⟨fun pins s σ H v u Q I r q => q.elim (h.run pins s σ H v u Q I r) (h'.run pins s σ H v u Q I r)⟩
/-- a tuple or a list, unpacked -/
def gdUn (gs : List GD) : GD := fun d env => match d with
  | .tup ds => gdSeq gs ds env
  | .lst ds => gdSeq gs ds env
  | _ => none
theorem pG_un {es : List Expr} {k : Nat} {gs : List GD} {sl : List Nat} {n : Nat} {pos : Pos} (hK : G.K = X.K) (hc : X.calm = true) (h : PGs X es (tGs G gs sl)) (hgs : gs.length = n)
    (hn : (assignEach es X.env).length = n := by rfl) (hst : (assignEach es X.env).findIdx? (·.1) = none := by rfl) : PG X (.Tuple es k pos) (tG G (gdUn gs) sl) :=
  (L2.PG.viOr (pG_tup (k := k) (pos := pos) hK hc h hgs hn hst) (pG_lst (k := k) (pos := pos) hK hc h hgs hn hst)).vi fun v σ H Q ⟨as, st, env, d, env', s, er, r, q, kk⟩ => by
    cases d with
    | tup ds => exact .inl ⟨as, st, env, _, env', s, er, r, q, kk⟩
    | lst ds => exact .inr ⟨as, st, env, _, env', s, er, r, q, kk⟩
    | _ => cases q
def fIAdd (a b : D) (st : Store) : Res Wv := match a, b with
  | .int i, .int j => .ok (.val (.int (i + j))) st
  | .str x, .str y => if x.length + y.length ≤ 100000 then .ok (.val (.str (x ++ y))) st else .stuck
  | _, _ => .stuck
def rIAdd : R2 := fun x y H Q => (∃ i j, x = .int i ∧ y = .int j ∧ Q (.int (i + j)) H) ∨ (∃ i j, x = .str i ∧ y = .str j ∧ i.length + j.length ≤ sizeLine ∧ Q (.str (i ++ j)) H)
theorem iop_addA : OpR X (inplaceOp .Add) rIAdd := OpR.or iop_add iop_add_str
theorem opS_iadd : OpS G E fIAdd rIAdd := by
  intro E' as st H d1 d2 x y Q s r1 r2 p
  unfold fIAdd at p
  split at p
  · cases r1; cases r2
    exact .inl ⟨_, _, rfl, rfl, p.now s _ (.int _)⟩
  · cases r1; cases r2
    split at p
    · rename_i h
      exact .inr ⟨_, _, rfl, rfl, szl h, p.now s _ (.str _)⟩
    · exact p.elim
  · exact p.elim
/-! ### the law -/
def spLaw (K : PySem.W.Frag) : Sp := fun vs H Q _ => ∃ (a : Addr) (ns : List Int), vs = [.ref a] ∧ SqL K H a (ns.map V.int) ∧ ns.length ≤ 63 ∧ ∀ H', Q (.bl true) H'
theorem rel_ints {as : List Addr} {L : Addr → Prop} {H : Hp} : ∀ ns : List Int, RelDs G as L H (ns.map D.int) (ns.map V.int)
  | [] => .nil
  | n :: ns => .cons (.int n) (rel_ints ns)
theorem law_imp {fs : FnSem} (hG : G.K = K) (h : ∀ ns : List Int, ns.length ≤ 63 → fs [.lst (ns.map D.int)] [] = .ok (.val (.bl true)) []) : ∀ vs H Q E, spLaw K vs H Q E → spN G 1 fs vs H Q E := by
  rintro vs H Q E ⟨a, ns, rfl, hs, hl, q⟩
  refine ⟨rfl, [], [], [.lst (ns.map D.int)], ⟨rfl, List.nodup_nil, fun i d h => by simp at h, fun i a h => by simp at h⟩, .cons ?_ .nil, ?_⟩
  · subst hG
    rcases hs with hs | hs
    · exact .lst hs (fun ⟨i, d, h, _⟩ => by simp at h) (rel_ints ns)
    · exact .lstK hs (rel_ints ns)
  · rw [h ns hl]
    intro as' H' e s v r
    cases (show RelD G as' _ H' (.bl true) v from r)
    exact q H'
end
end VI
namespace VI
open PySem PySem.Spec PyProof.Rows L2
def evDic0 : EM := fun _ st => .ok (.new (.dic [])) st
theorem pI_dic0 {X : Cx} {G : Gx} {E : WX} {pos : Pos} : PE X (.Dict [] [] pos) (tI G E evDic0) := pe_dnewK.vi fun σ H Q ⟨as, st, env, s, er, p⟩ => by
  intro x hx
  exact p as _ (Ext.lay hx) (s.laid hx) _ ⟨x, rfl, hx, notLive s hx, DicR.k (ks := []) (vs := []) upd_same rfl .nil, s.lay hx⟩
end VI
namespace VI
open PySem PySem.Spec PyProof.Rows L2
/-! ### equations, for simp -/
section
variable {α β : Type} {a : α} {st st1 : Store} {k : α → Store → Res β} {ks : α → Store → SRes} {env env1 : DEnv} {x : EX} {w : Wv} {d d1 d2 : D} {i : Nat}
def onBl {γ : Type} (d : D) (x y : Res γ) : Res γ := match d with
  | .bl true => x
  | .bl false => y
  | _ => .stuck
@[simp] theorem onBl_bl {γ : Type} {b : Bool} {x y : Res γ} : onBl (.bl b) x y = if b = true then x else y := by cases b <;> rfl
@[simp] theorem bind_ok : (Res.ok a st).bind k = k a st := rfl
@[simp] theorem bind_exc : (Res.exc x st : Res α).bind k = .exc x st := rfl
@[simp] theorem bind_stuck : (Res.stuck : Res α).bind k = .stuck := rfl
@[simp] theorem bind_ite {c : Prop} [Decidable c] {p q : Res α} : (if c then p else q).bind k = if c then p.bind k else q.bind k := by split <;> rfl
@[simp] theorem sof_ok : SRes.of env (Res.ok a st) ks = ks a st := rfl
@[simp] theorem sof_exc : SRes.of env (Res.exc x st : Res α) ks = .exc env x st := rfl
@[simp] theorem sof_stuck : SRes.of env (Res.stuck : Res α) ks = .stuck := rfl
@[simp] theorem sof_ite {c : Prop} [Decidable c] {p q : Res α} : SRes.of env (if c then p else q) ks = if c then SRes.of env p ks else SRes.of env q ks := by split <;> rfl
@[simp] theorem sbind_nx {b : SM} : (SRes.nx env st).bind b = b env st := rfl
@[simp] theorem sbind_ret {b : SM} : (SRes.ret w st).bind b = .ret w st := rfl
@[simp] theorem sbind_brk {b : SM} : (SRes.brk env st).bind b = .brk env st := rfl
@[simp] theorem sbind_cnt {b : SM} : (SRes.cnt env st).bind b = .cnt env st := rfl
@[simp] theorem sbind_exc {b : SM} : (SRes.exc env x st).bind b = .exc env x st := rfl
@[simp] theorem sbind_stuck {b : SM} : (SRes.stuck).bind b = .stuck := rfl
@[simp] theorem sbind_ite {c : Prop} [Decidable c] {p q : SRes} {b : SM} : (if c then p else q).bind b = if c then p.bind b else q.bind b := by split <;> rfl
@[simp] theorem val_d : (Wv.val d).d = d := rfl
@[simp] theorem new_d : (Wv.new d).d = d := rfl
theorem evVar_some (h : env[i]? = some (some d)) : evVar i env st = .ok (.val d) st := by unfold evVar; rw [h]
@[simp] theorem evVar_s : evVar i env st = (match env[i]? with | some (some d) => .ok (.val d) st | _ => .stuck) := rfl
@[simp] theorem evC_s : evC d env st = .ok (.val d) st := rfl
variable {m ma mb mc : EM} {am : AM} {t u : TM} {f g : D → D → Store → Res Wv} {f1 : D → Store → Res Wv} {fa : List D → Store → Res Wv} {fm : D → List D → Store → Res Wv}
@[simp] theorem ev1_s : ev1 f1 m env st = (m env st).bind fun w st1 => f1 w.d st1 := rfl
@[simp] theorem ev2_s : ev2 f ma mb env st = (ma env st).bind fun w st1 => (mb env st1).bind fun w2 st2 => f w.d w2.d st2 := rfl
@[simp] theorem evA_s : evA fa am env st = (am env st).bind fun ds st1 => fa ds st1 := rfl
@[simp] theorem anil_s : anil env st = .ok [] st := rfl
@[simp] theorem acons_s : acons m am env st = (m env st).bind fun w st1 => (am env st1).bind fun ds st2 => .ok (w.d :: ds) st2 := rfl
@[simp] theorem tvB_s : tvB m env st = (m env st).bind fun w st1 => match w.d with | .bl b => .ok b st1 | _ => .stuck := rfl
@[simp] theorem tvNot_s : tvNot t env st = (t env st).bind fun b st1 => .ok (!b) st1 := rfl
@[simp] theorem tvAnd_s : tvAnd t u env st = (t env st).bind fun b st1 => if b = true then u env st1 else .ok false st1 := rfl
@[simp] theorem tvOr_s : tvOr t u env st = (t env st).bind fun b st1 => if b = true then .ok true st1 else u env st1 := rfl
@[simp] theorem tvYes_s : tvYes env st = .ok true st := rfl
@[simp] theorem evNot_s : evNot m env st = (m env st).bind fun w st1 => match w.d with | .bl b => .ok (.val (.bl (!b))) st1 | _ => .stuck := rfl
@[simp] theorem evAnd_s : evAnd ma mb env st = (ma env st).bind fun w st1 => onBl w.d (mb env st1) (.ok (.val (.bl false)) st1) := rfl
@[simp] theorem evOr_s : evOr ma mb env st = (ma env st).bind fun w st1 => onBl w.d (.ok (.val (.bl true)) st1) (mb env st1) := rfl
@[simp] theorem evIf_s : evIf t ma mb env st = (t env st).bind fun c st1 => if c = true then ma env st1 else mb env st1 := rfl
@[simp] theorem evCh_s : evCh f g ma mb mc env st = (ma env st).bind fun w1 st1 => (mb env st1).bind fun w2 st2 => (f w1.d w2.d st2).bind fun w3 st3 => onBl w3.d ((mc env st3).bind fun w4 st4 => g w2.d w4.d st4) (.ok (.val (.bl false)) st3) := rfl
@[simp] theorem evTup_s : evTup am env st = (am env st).bind fun ds st1 => if ds.length ≤ 100000 then .ok (.val (.tup ds)) st1 else .stuck := rfl
@[simp] theorem evLst_s : evLst am env st = (am env st).bind fun ds st1 => if ds.length ≤ 100000 then .ok (.new (.lst ds)) st1 else .stuck := rfl
@[simp] theorem evDic0_s : evDic0 env st = .ok (.new (.dic [])) st := rfl
@[simp] theorem sNext_s : sNext env st = .nx env st := rfl
@[simp] theorem sBreak_s : sBreak env st = .brk env st := rfl
@[simp] theorem sCont_s : sCont env st = .cnt env st := rfl
@[simp] theorem sSeq_s {p q : SM} : sSeq p q env st = (p env st).bind q := rfl
@[simp] theorem sDrop_s : sDrop m env st = SRes.of env (m env st) fun _ st1 => .nx env st1 := rfl
@[simp] theorem sRet_s : sRet m env st = SRes.of env (m env st) fun w st1 => .ret w st1 := rfl
@[simp] theorem sRetN_s : sRetN env st = .ret (.val .non) st := rfl
@[simp] theorem sIf_s {p q : SM} : sIf t p q env st = SRes.of env (t env st) fun c st1 => if c = true then p env st1 else q env st1 := rfl
@[simp] theorem sSet_s : sSet i m env st = SRes.of env (m env st) fun w st1 => .nx (env.set i (some w.d)) st1 := rfl
@[simp] theorem sReg_s : sReg i m env st = SRes.of env (m env st) fun w st1 => match w with | .new d => .nx (env.set i (some (.ref st1.length))) (st1 ++ [some d]) | .val _ => .stuck := rfl
@[simp] theorem sPar_s {j : Nat} : sPar i j am env st = SRes.of env (am env st) fun ds st1 => match ds with | [d, e] => .nx ((env.set i (some d)).set j (some e)) st1 | _ => .stuck := rfl
@[simp] theorem sAsg_s {gd : GD} : sAsg gd m env st = SRes.of env (m env st) fun w st1 => match gd w.d env with | some env1 => .nx env1 st1 | none => .stuck := rfl
@[simp] theorem gdName_s : gdName i d env = some (env.set i (some d)) := rfl
@[simp] theorem gdUn_tup {gs : List GD} {ds : List D} : gdUn gs (.tup ds) env = gdSeq gs ds env := rfl
@[simp] theorem gdUn_lst {gs : List GD} {ds : List D} : gdUn gs (.lst ds) env = gdSeq gs ds env := rfl
@[simp] theorem gdSeq_nil : gdSeq [] [] env = some env := rfl
@[simp] theorem gdSeq_cons {g : GD} {gs : List GD} {ds : List D} : gdSeq (g :: gs) (d :: ds) env = (g d env).bind fun env1 => gdSeq gs ds env1 := rfl
@[simp] theorem sAug_s : sAug i f m env st = (match env[i]? with | some (some d) => SRes.of env (m env st) fun w st1 => SRes.of env (f d w.d st1) fun w2 st2 => .nx (env.set i (some w2.d)) st2 | _ => .stuck) := rfl
@[simp] theorem sSetIx_s {fs : D → D → D → Store → Option Store} : sSetIx fs ma mb mc env st = SRes.of env (ma env st) fun w1 st1 => SRes.of env (mb env st1) fun w2 st2 => SRes.of env (mc env st2) fun w3 st3 => match fs w2.d w3.d w1.d st3 with | some st4 => .nx env st4 | none => .stuck := rfl
@[simp] theorem sFor_s {im : IM} {gd : GD} {b : SM} : sFor im gd b env st = SRes.of env (im env st) fun iv st1 => forGo iv gd b iv.items env st1 := rfl
@[simp] theorem evSl_s {lo hi : BM} : evSl m lo hi env st = (m env st).bind fun w st1 => (lo env st1).bind fun l st2 => (hi env st2).bind fun h st3 => fSl w.d l h st3 := rfl
@[simp] theorem bNone_s : bNone env st = .ok none st := rfl
@[simp] theorem bSome_s : bSome m env st = (m env st).bind fun w st1 => match w.d with | .int i => .ok (some i) st1 | _ => .stuck := rfl
@[simp] theorem evMt_s {T : String} : evMt T fm m am env st = (m env st).bind fun w st1 => if tyD w.d st1 = some T ∧ (T = "str" ∨ T = "list" ∨ T = "dict") then (am env st1).bind fun ds st2 => fm w.d ds st2 else .stuck := rfl
@[simp] theorem evCall_s {n : Nat} {fs : FnSem} : evCall n fs am env st = (am env st).bind fun ds st1 => if ds.length = n then noX (fs ds st1) else .stuck := rfl
@[simp] theorem noX_ok : noX (Res.ok a st) = .ok a st := rfl
@[simp] theorem itSeq_s : itSeq m env st = (m env st).bind fun w st1 => match seqOf w.d st1 with | some (ds, src) => .ok ⟨ds, src⟩ st1 | none => .stuck := rfl
@[simp] theorem itR1_s : itR1 am env st = (am env st).bind fun ds st1 => match ds with | [.int j] => if okR j = true then .ok ⟨rangeD 0 j.toNat, none⟩ st1 else .stuck | _ => .stuck := rfl
@[simp] theorem itR2_s : itR2 am env st = (am env st).bind fun ds st1 => match ds with | [.int i, .int j] => if (okR i && okR j) = true then .ok ⟨rangeD i (j - i).toNat, none⟩ st1 else .stuck | _ => .stuck := rfl
@[simp] theorem seqOf_tup {ds : List D} : seqOf (.tup ds) st = some (ds, none) := rfl
@[simp] theorem seqOf_lst {ds : List D} : seqOf (.lst ds) st = some (ds, none) := rfl
@[simp] theorem seqOf_str {z : Str} : seqOf (.str z) st = some (z.cps.toList.map (fun c => D.str ⟨#[c]⟩), none) := rfl
@[simp] theorem lstOf_lst {ds : List D} : lstOf (.lst ds) st = some (ds, none) := rfl
@[simp] theorem srcOk_none {ds : List D} : srcOk ⟨ds, none⟩ st = true := rfl
end
/-! ### what functions do -/
section
variable {st : Store}
@[simp] theorem fAdd_int {i j : Int} : fAdd (.int i) (.int j) st = .ok (.val (.int (i + j))) st := rfl
@[simp] theorem fAdd_lst {a b : List D} : fAdd (.lst a) (.lst b) st = if catOk a b = true then .ok (.new (.lst (a ++ b))) st else .stuck := rfl
@[simp] theorem fAdd_tup {a b : List D} : fAdd (.tup a) (.tup b) st = if catOk a b = true then .ok (.val (.tup (a ++ b))) st else .stuck := rfl
@[simp] theorem fAdd_str {a b : Str} : fAdd (.str a) (.str b) st = if a.length + b.length ≤ 100000 then .ok (.val (.str (a ++ b))) st else .stuck := rfl
@[simp] theorem fSub_int {i j : Int} : fSub (.int i) (.int j) st = .ok (.val (.int (i - j))) st := rfl
@[simp] theorem fMod_int {i j : Int} : fMod (.int i) (.int j) st = if 0 < j then .ok (.val (.int (i % j))) st else .stuck := rfl
@[simp] theorem fDiv_int {i j : Int} : fDiv (.int i) (.int j) st = if 0 < j ∧ j < 1073741824 then .ok (.val (.int (i / j))) st else .stuck := rfl
@[simp] theorem fPow_int {i j : Int} : fPow (.int i) (.int j) st = if 0 ≤ j ∧ j ≤ 1000000 ∧ i.natAbs < 2 ^ 64 then .ok (.val (.int (i ^ j.toNat))) st else .stuck := rfl
@[simp] theorem fMul_int {i j : Int} : fMul (.int i) (.int j) st = if (smallF i || smallF j) = true then .ok (.val (.int (i * j))) st else .stuck := rfl
@[simp] theorem fNeg_int {i : Int} : fNeg (.int i) st = .ok (.val (.int (-i))) st := rfl
@[simp] theorem fCmp_int {f : Int → Int → Bool} {i j : Int} : fCmp f (.int i) (.int j) st = .ok (.val (.bl (f i j))) st := rfl
@[simp] theorem fIsB_bl {i j : Bool} : fIsB (.bl i) (.bl j) st = .ok (.val (.bl (decide (i = j)))) st := rfl
@[simp] theorem fAbs_int {i : Int} : fAbs [.int i] st = .ok (.val (.int (if i < 0 then -i else i))) st := rfl
@[simp] theorem fLen_str {z : Str} : fLen [.str z] st = if z.length ≤ 100000 then .ok (.val (.int z.length)) st else .stuck := rfl
@[simp] theorem fLen_tup {ds : List D} : fLen [.tup ds] st = .ok (.val (.int ds.length)) st := rfl
@[simp] theorem fLen_lst {ds : List D} : fLen [.lst ds] st = .ok (.val (.int ds.length)) st := rfl
@[simp] theorem fList_tup {ds : List D} : fList [.tup ds] st = .ok (.new (.lst ds)) st := rfl
@[simp] theorem fList_lst {ds : List D} : fList [.lst ds] st = .ok (.new (.lst ds)) st := rfl
@[simp] theorem fTuple_tup {ds : List D} : fTuple [.tup ds] st = .ok (.val (.tup ds)) st := rfl
@[simp] theorem fTuple_lst {ds : List D} : fTuple [.lst ds] st = .ok (.val (.tup ds)) st := rfl
@[simp] theorem fAll_lst {ds : List D} : fAll [.lst ds] st = (match blsOf ds with | some bs => .ok (.val (.bl (bs.all id))) st | none => .stuck) := rfl
@[simp] theorem fAny_lst {ds : List D} : fAny [.lst ds] st = (match blsOf ds with | some bs => .ok (.val (.bl (bs.any id))) st | none => .stuck) := rfl
@[simp] theorem fIx_tup {ds : List D} {i : Int} : fIx (.tup ds) (.int i) st = (match atI ds i with | some d => .ok (.val d) st | none => .stuck) := rfl
@[simp] theorem fIx_lst {ds : List D} {i : Int} : fIx (.lst ds) (.int i) st = (match atI ds i with | some d => .ok (.val d) st | none => .stuck) := rfl
@[simp] theorem fIx_str {z : Str} {i : Int} : fIx (.str z) (.int i) st = if z.length ≤ 100000 then (match atI z.cps.toList i with | some c => .ok (.val (.str ⟨#[c]⟩)) st | none => .stuck) else .stuck := rfl
@[simp] theorem fSl_str {z : Str} {lo hi : Option Int} : fSl (.str z) lo hi st = if z.length ≤ 100000 then .ok (.val (.str (cutS z lo hi))) st else .stuck := rfl
@[simp] theorem fSl_lst {ds : List D} {lo hi : Option Int} : fSl (.lst ds) lo hi st = .ok (.new (.lst (cutD ds lo hi))) st := rfl
@[simp] theorem fSl_tup {ds : List D} {lo hi : Option Int} : fSl (.tup ds) lo hi st = .ok (.val (.tup (cutD ds lo hi))) st := rfl
@[simp] theorem fIn_str {neg : Bool} {i j : Str} : fIn neg (.str i) (.str j) st = .ok (.val (.bl (if neg then !strIn i j else strIn i j))) st := rfl
@[simp] theorem fEq_bl {neg a b : Bool} : fEq neg (.bl a) (.bl b) st = .ok (.val (.bl (if neg then !(a == b) else a == b))) st := by
  simp only [fEq, unref, isPy, shallow, toPy, PyData.depth, eqD, PyData.eqv]; simp
@[simp] theorem fEq_int {neg : Bool} {a b : Int} : fEq neg (.int a) (.int b) st = .ok (.val (.bl (if neg then !(a == b) else a == b))) st := by
  simp only [fEq, unref, isPy, shallow, toPy, PyData.depth, eqD, PyData.eqv]; simp
@[simp] theorem fEq_str {neg : Bool} {a b : Str} : fEq neg (.str a) (.str b) st = .ok (.val (.bl (if neg then !(a == b) else a == b))) st := by
  simp only [fEq, unref, isPy, shallow, toPy, PyData.depth, eqD, PyData.eqv]; simp
/-- a list against the empty one -/
theorem fEq_nil {neg : Bool} {ds : List D} (h : isPys ds = true) : fEq neg (.lst ds) (.lst []) st = .ok (.val (.bl (if neg then !ds.isEmpty else ds.isEmpty))) st := by
  cases ds with
  | nil => simp [fEq, unref, isPy, isPys, shallow, toPy, toPys, PyData.depth, PyData.depthAll, eqD, PyData.eqv, PyData.eqvAll]
  | cons d ds =>
    have hm : min (PyData.depthAll (toPys (d :: ds)) + 1) (PyData.depthAll [] + 1) ≤ 60 := by simp only [PyData.depthAll]; omega
    have c : (isPy (unref (.lst (d :: ds)) st) && isPy (unref (.lst []) st) && shallow (unref (.lst (d :: ds)) st) (unref (.lst []) st)) = true := by
      simp only [unref, isPy, h, shallow, toPy, PyData.depth, Bool.and_eq_true, decide_eq_true_eq]
      refine ⟨⟨trivial, by simp [isPys]⟩, ?_⟩
      simpa only [toPys] using hm
    unfold fEq
    rw [if_pos c]
    simp only [unref, eqD, toPy, toPys, PyData.eqv, PyData.eqvAll]
    simp
@[simp] theorem blsOf_map (bs : List Bool) : blsOf (bs.map D.bl) = some bs := by
  induction bs with
  | nil => rfl
  | cons b bs ih => simp [blsOf, ih]
@[simp] theorem strsOf_map (bs : List Str) : strsOf (bs.map D.str) = some bs := by
  induction bs with
  | nil => rfl
  | cons b bs ih => simp [strsOf, ih]
@[simp] theorem blsOf_map' {α : Type} (f : α → Bool) (xs : List α) : blsOf (xs.map fun x => D.bl (f x)) = some (xs.map f) := by
  have := blsOf_map (xs.map f)
  rw [List.map_map] at this; exact this
@[simp] theorem strsOf_map' {α : Type} (f : α → Str) (xs : List α) : strsOf (xs.map fun x => D.str (f x)) = some (xs.map f) := by
  have := strsOf_map (xs.map f)
  rw [List.map_map] at this; exact this
end
/-! ### running a def -/
theorem cutOk_self (st more : Store) : cutOk st (st ++ more) = true := by
  unfold cutOk
  simp
/-- it hands back a value, the store as it was -/
theorem fin_val {st more : Store} {d : D} (h : refsLt st.length d = true) (hr : ∀ n, d ≠ .ref n) : fin st (.val d) (st ++ more) = .ok (.val d) st := by
  unfold fin
  rw [if_pos (cutOk_self st more)]
  cases d with
  | ref n => exact absurd rfl (hr n)
  | _ => simp [h]
theorem fin_new {st more : Store} {d : D} (h : refsLt st.length d = true) : fin st (.new d) (st ++ more) = .ok (.new d) st := by
  unfold fin
  rw [if_pos (cutOk_self st more)]
  simp [h]
/-- a local cell -/
theorem fin_ref {st more : Store} {n : Nat} {d : D} (hn : st.length ≤ n) (hc : (st ++ more)[n]? = some (some d)) (h : refsLt st.length d = true) : fin st (.val (.ref n)) (st ++ more) = .ok (.new d) st := by
  unfold fin
  rw [if_pos (cutOk_self st more)]
  simp [show ¬ n < st.length by omega, hc, h]
/-! ### comprehensions whose elements are pure -/
mutual
theorem refsLt_mono {k j : Nat} (h : k ≤ j) : ∀ d : D, refsLt k d = true → refsLt j d = true
  | .non, _ => by simp [refsLt]
  | .bl _, _ => by simp [refsLt]
  | .int _, _ => by simp [refsLt]
  | .str _, _ => by simp [refsLt]
  | .ty _, _ => by simp [refsLt]
  | .cl _, _ => by simp [refsLt]
  | .ref n, q => by
    simp only [refsLt, decide_eq_true_eq] at q ⊢
    omega
  | .tup ds, q => by simp only [refsLt] at q ⊢; exact refsLts_mono h ds q
  | .lst ds, q => by simp only [refsLt] at q ⊢; exact refsLts_mono h ds q
  | .dic ds, q => by simp only [refsLt] at q ⊢; exact refsLtK_mono h ds q
  | .obj c ds, q => by simp only [refsLt] at q ⊢; exact refsLtF_mono h ds q
theorem refsLts_mono {k j : Nat} (h : k ≤ j) : ∀ d : List D, refsLts k d = true → refsLts j d = true
  | [], _ => by simp [refsLts]
  | d :: ds, q => by
    simp only [refsLts, Bool.and_eq_true] at q ⊢
    exact ⟨refsLt_mono h d q.1, refsLts_mono h ds q.2⟩
theorem refsLtK_mono {k j : Nat} (h : k ≤ j) : ∀ d : List (D × D), refsLtK k d = true → refsLtK j d = true
  | [], _ => by simp [refsLtK]
  | (a, b) :: ds, q => by
    simp only [refsLtK, Bool.and_eq_true] at q ⊢
    exact ⟨⟨refsLt_mono h a q.1.1, refsLt_mono h b q.1.2⟩, refsLtK_mono h ds q.2⟩
theorem refsLtF_mono {k j : Nat} (h : k ≤ j) : ∀ d : List (Str × D), refsLtF k d = true → refsLtF j d = true
  | [], _ => by simp [refsLtF]
  | (_, b) :: ds, q => by
    simp only [refsLtF, Bool.and_eq_true] at q ⊢
    exact ⟨refsLt_mono h b q.1, refsLtF_mono h ds q.2⟩
end
theorem refsLts_all {k : Nat} {ds : List D} : refsLts k ds = true ↔ ∀ d ∈ ds, refsLt k d = true := by
  induction ds with
  | nil => simp [refsLts]
  | cons d ds ih => simp [refsLts, ih]
theorem lcGo_map {α : Type} {g : GD} {t : TM} {e : EM} {env : DEnv} {iv : IterV} (hs : iv.src = none) (inj : α → D) (c : α → Bool) (f : α → D) (e1 : α → DEnv) (st : Store) : ∀ (items : List α) (acc : List D), items.length + acc.length ≤ 100000 →
    (∀ d ∈ items, g (inj d) env = some (e1 d) ∧ ∀ more : Store, t (e1 d) (st ++ more) = .ok (c d) (st ++ more) ∧ (c d = true → ∃ w, e (e1 d) (st ++ more) = .ok w (st ++ more) ∧ w.d = f d)) →
    lcGo iv g t e st.length (items.map inj) acc env (st ++ [some (.lst acc)]) = .ok (acc ++ (items.filter c).map f) (st ++ [some (.lst (acc ++ (items.filter c).map f))])
  | [], acc, _, _ => by
    unfold lcGo
    have : srcOk iv (st ++ [some (.lst acc)]) = true := by unfold srcOk; rw [hs]
    simp [this]
  | d :: items, acc, hl, h => by
    have ok : srcOk iv (st ++ [some (.lst acc)]) = true := by unfold srcOk; rw [hs]
    obtain ⟨h1, h2⟩ := h d List.mem_cons_self
    obtain ⟨h3, h4⟩ := h2 [some (D.lst acc)]
    have hc : (st ++ [some (.lst acc)])[st.length]? = some (some (.lst acc)) := by simp
    rw [List.map_cons]
    unfold lcGo
    rw [if_pos ⟨ok, hc⟩]
    simp only [h1, h3, noX_ok, bind_ok]
    simp only [List.length_cons] at hl
    cases q : c d with
    | true =>
      obtain ⟨w, hw, hd⟩ := h4 q
      rw [if_pos rfl, hw]
      simp only [noX_ok, bind_ok]
      rw [if_pos ⟨hc, by omega⟩, hd]
      have e2 : (st ++ [some (D.lst acc)]).set st.length (some (D.lst (acc ++ [f d]))) = st ++ [some (D.lst (acc ++ [f d]))] := by
        rw [List.set_append_right _ _ (Nat.le_refl _)]; simp
      rw [e2, lcGo_map hs inj c f e1 st items (acc ++ [f d]) (by simp; omega) fun x hx => h x (List.mem_cons_of_mem _ hx)]
      simp [List.filter_cons, q]
    | false =>
      rw [if_neg Bool.false_ne_true, lcGo_map hs inj c f e1 st items acc (by omega) fun x hx => h x (List.mem_cons_of_mem _ hx)]
      simp [List.filter_cons, q]
theorem evLc_map {α : Type} {own : List Nat} {m : IM} {g : GD} {t : TM} {e : EM} {env : DEnv} {st : Store} {items : List α} (inj : α → D) (c : α → Bool) (f : α → D) (e1 : α → DEnv) (hm : m env st = .ok ⟨items.map inj, none⟩ st) (hl : items.length ≤ 100000)
    (h : ∀ d ∈ items, g (inj d) (wipeD env own) = some (e1 d) ∧ ∀ more : Store, t (e1 d) (st ++ more) = .ok (c d) (st ++ more) ∧ (c d = true → ∃ w, e (e1 d) (st ++ more) = .ok w (st ++ more) ∧ w.d = f d))
    (hr : ∀ d ∈ items, c d = true → refsLt 0 (f d) = true) :
    evLc own m g t e env st = .ok (.new (.lst ((items.filter c).map f))) st := by
  unfold evLc
  rw [hm]
  simp only [bind_ok]
  rw [lcGo_map rfl inj c f e1 st items [] (by simpa using hl) h]
  simp only [bind_ok, List.nil_append]
  have hr' : refsLts st.length ((items.filter c).map f) = true := by
    rw [refsLts_all]
    intro d hd
    obtain ⟨x, hx, rfl⟩ := List.mem_map.mp hd
    obtain ⟨h1, h2⟩ := List.mem_filter.mp hx
    exact refsLt_mono (Nat.zero_le _) _ (hr x h1 h2)
  have e2 : (st ++ [some (D.lst ((items.filter c).map f))]).take st.length = st := by simp
  rw [if_pos ⟨cutOk_self _ _, hr'⟩, e2]
/-- .. without a test -/
theorem evLc_map1 {α : Type} {own : List Nat} {m : IM} {g : GD} {e : EM} {env : DEnv} {st : Store} {items : List α} (inj : α → D) (f : α → D) (e1 : α → DEnv) (hm : m env st = .ok ⟨items.map inj, none⟩ st) (hl : items.length ≤ 100000)
    (h : ∀ d ∈ items, g (inj d) (wipeD env own) = some (e1 d) ∧ ∀ more : Store, ∃ w, e (e1 d) (st ++ more) = .ok w (st ++ more) ∧ w.d = f d)
    (hr : ∀ d ∈ items, refsLt 0 (f d) = true) :
    evLc own m g tvYes e env st = .ok (.new (.lst (items.map f))) st := by
  have q := evLc_map (own := own) (t := tvYes) (e := e) (c := fun _ => true) inj f e1 hm hl (fun d hd => ⟨(h d hd).1, fun more => ⟨rfl, fun _ => (h d hd).2 more⟩⟩) (fun d hd _ => hr d hd)
  rw [q, List.filter_eq_self.mpr (fun _ _ => rfl)]
theorem cutOk_refl (st : Store) : cutOk st st = true := by
  have := cutOk_self st []
  rwa [List.append_nil] at this
theorem fin_val0 {st : Store} {d : D} (h : refsLt st.length d = true) (hr : ∀ n, d ≠ .ref n) : fin st (.val d) st = .ok (.val d) st := by
  have := fin_val (more := []) h hr
  rwa [List.append_nil] at this
theorem fin_new0 {st : Store} {d : D} (h : refsLt st.length d = true) : fin st (.new d) st = .ok (.new d) st := by
  have := fin_new (more := []) h
  rwa [List.append_nil] at this
@[simp] theorem fin_bl {st more : Store} {b : Bool} : fin st (.val (.bl b)) (st ++ more) = .ok (.val (.bl b)) st := fin_val (by simp [refsLt]) (fun _ => nofun)
@[simp] theorem fin_bl0 {st : Store} {b : Bool} : fin st (.val (.bl b)) st = .ok (.val (.bl b)) st := fin_val0 (by simp [refsLt]) (fun _ => nofun)
@[simp] theorem fin_int {st more : Store} {b : Int} : fin st (.val (.int b)) (st ++ more) = .ok (.val (.int b)) st := fin_val (by simp [refsLt]) (fun _ => nofun)
@[simp] theorem fin_int0 {st : Store} {b : Int} : fin st (.val (.int b)) st = .ok (.val (.int b)) st := fin_val0 (by simp [refsLt]) (fun _ => nofun)
@[simp] theorem fin_str {st more : Store} {b : Str} : fin st (.val (.str b)) (st ++ more) = .ok (.val (.str b)) st := fin_val (by simp [refsLt]) (fun _ => nofun)
@[simp] theorem fin_str0 {st : Store} {b : Str} : fin st (.val (.str b)) st = .ok (.val (.str b)) st := fin_val0 (by simp [refsLt]) (fun _ => nofun)
@[simp] theorem fin_non {st more : Store} : fin st (.val .non) (st ++ more) = .ok (.val .non) st := fin_val (by simp [refsLt]) (fun _ => nofun)
@[simp] theorem fin_non0 {st : Store} : fin st (.val .non) st = .ok (.val .non) st := fin_val0 (by simp [refsLt]) (fun _ => nofun)
theorem fIsi_ty {d : D} {st : Store} {a T : String} (h : tyD d st = some a) (hT : okTy T = true) : fIsi [d, .ty T] st = .ok (.val (.bl (isiTab a T))) st := by
  simp only [fIsi, h, hT, if_true]
@[simp] theorem fIsi_non {st : Store} {T : String} : fIsi [.non, .ty T] st = if okTy T = true then .ok (.val (.bl (isiTab "NoneType" T))) st else .stuck := rfl
@[simp] theorem fIsi_bl {st : Store} {b : Bool} {T : String} : fIsi [.bl b, .ty T] st = if okTy T = true then .ok (.val (.bl (isiTab "bool" T))) st else .stuck := rfl
@[simp] theorem fIsi_int {st : Store} {b : Int} {T : String} : fIsi [.int b, .ty T] st = if okTy T = true then .ok (.val (.bl (isiTab "int" T))) st else .stuck := rfl
@[simp] theorem fIsi_str {st : Store} {b : Str} {T : String} : fIsi [.str b, .ty T] st = if okTy T = true then .ok (.val (.bl (isiTab "str" T))) st else .stuck := rfl
@[simp] theorem fIsi_tup {st : Store} {b : List D} {T : String} : fIsi [.tup b, .ty T] st = if okTy T = true then .ok (.val (.bl (isiTab "tuple" T))) st else .stuck := rfl
@[simp] theorem fIsi_lst {st : Store} {b : List D} {T : String} : fIsi [.lst b, .ty T] st = if okTy T = true then .ok (.val (.bl (isiTab "list" T))) st else .stuck := rfl
@[simp] theorem fIsi_dic {st : Store} {T : String} : fIsi [.dic [], .ty T] st = if okTy T = true then .ok (.val (.bl (isiTab "dict" T))) st else .stuck := rfl
@[simp] theorem okTy1 : okTy "str" = true := by decide
@[simp] theorem okTy2 : okTy "int" = true := by decide
@[simp] theorem okTy3 : okTy "bool" = true := by decide
@[simp] theorem okTy4 : okTy "tuple" = true := by decide
@[simp] theorem okTy5 : okTy "list" = true := by decide
@[simp] theorem okTy6 : okTy "dict" = true := by decide
/-! ### loops -/
/-- each turn goes on: what holds behind so many items -/
theorem forGo_inv {iv : IterV} {g : GD} {body : SM} (hs : iv.src = none) (I : Nat → DEnv → Store → Prop) : ∀ (items : List D) (k : Nat) (env : DEnv) (st : Store), I k env st →
    (∀ i d env st, items[i]? = some d → I (k + i) env st → ∃ env1 env2 st2, g d env = some env1 ∧ (body env1 st = .nx env2 st2 ∨ body env1 st = .cnt env2 st2) ∧ I (k + i + 1) env2 st2) →
    ∃ env2 st2, forGo iv g body items env st = .nx env2 st2 ∧ I (k + items.length) env2 st2
  | [], k, env, st, h0, _ => by
    refine ⟨env, st, ?_, by simpa using h0⟩
    unfold forGo
    rw [if_pos (by unfold srcOk; rw [hs])]
  | d :: items, k, env, st, h0, h => by
    obtain ⟨env1, env2, st2, h1, h2, h3⟩ := h 0 d env st rfl (by simpa using h0)
    obtain ⟨env3, st3, h4, h5⟩ := forGo_inv hs I items (k + 1) env2 st2 (by simpa using h3) fun i d' env st hi hI => by
      have e : k + 1 + i = k + (i + 1) := by omega
      rw [e] at hI ⊢
      exact h (i + 1) d' env st (by simpa using hi) hI
    refine ⟨env3, st3, ?_, by simp only [List.length_cons]; rw [show k + (items.length + 1) = k + 1 + items.length by omega]; exact h5⟩
    unfold forGo
    rw [if_pos (by unfold srcOk; rw [hs])]
    simp only [h1]
    rcases h2 with h2 | h2 <;> simp only [h2] <;> exact h4
end VI
namespace VI
open PySem PySem.Spec PyProof.Rows L2
section
variable {st : Store}
@[simp] theorem tyD_ref {n : Nat} : tyD (.ref n) st = (match st[n]? with | some (some (.lst _)) => some "list" | some (some (.dic kvs)) => (if kKeys kvs = true then some "dict" else none) | _ => none) := rfl
@[simp] theorem tyD_str {z : Str} : tyD (.str z) st = some "str" := rfl
@[simp] theorem tyD_lst {z : List D} : tyD (.lst z) st = some "list" := rfl
@[simp] theorem fAppend_ref {n : Nat} {d : D} : fAppend (.ref n) [d] st = (match st[n]? with | some (some (.lst xs)) => if xs.length < 100000 then .ok (.val .non) (st.set n (some (.lst (xs ++ [d])))) else .stuck | _ => .stuck) := rfl
@[simp] theorem set_last {α : Type} (l : List α) (a b : α) : (l ++ [a]).set l.length b = l ++ [b] := by
  rw [List.set_append_right _ _ (Nat.le_refl _)]; simp
@[simp] theorem fSetL_ref {n : Nat} {k : Int} {d : D} : fSetL (.ref n) (.int k) d st = (match st[n]? with | some (some (.lst xs)) => (ixN xs.length k).map fun j => st.set n (some (.lst (xs.set j d))) | _ => none) := rfl
@[simp] theorem fJoin_lst {a : Str} {ds : List D} : fJoin (.str a) [.lst ds] st = (match strsOf ds with | some ys => if (ys.map (·.length)).sum + ys.length * a.length ≤ 100000 then .ok (.val (.str (Txt.join a ys))) st else .stuck | none => .stuck) := rfl
@[simp] theorem lstOf_ref {n : Nat} : lstOf (.ref n) st = (match st[n]? with | some (some (.lst ds)) => some (ds, some n) | _ => none) := rfl
theorem fTuple_ref {n : Nat} {ds : List D} (h : st[n]? = some (some (.lst ds))) : fTuple [.ref n] st = .ok (.val (.tup ds)) st := by simp [fTuple, lstOf, h]
theorem fLen_ref {n : Nat} {ds : List D} (h : st[n]? = some (some (.lst ds))) : fLen [.ref n] st = .ok (.val (.int ds.length)) st := by simp [fLen, lstOf, h]
theorem fIx_ref {n : Nat} {ds : List D} {i : Int} (h : st[n]? = some (some (.lst ds))) : fIx (.ref n) (.int i) st = (match atI ds i with | some d => .ok (.val d) st | none => .stuck) := by simp only [fIx, lstOf, h] <;> cases atI ds i <;> rfl
end
theorem isPys_all {ds : List D} : isPys ds = true ↔ ∀ d ∈ ds, isPy d = true := by
  induction ds with
  | nil => simp [isPys]
  | cons d ds ih => simp [isPys, ih]
/-- an index that lies within -/
theorem atI_in {α : Type} {xs : List α} {i : Int} (h0 : 0 ≤ i) (h1 : i < xs.length) : ∃ v, atI xs i = some v ∧ v ∈ xs := by
  have hj : i.toNat < xs.length := by omega
  refine ⟨xs[i.toNat], ?_, List.getElem_mem hj⟩
  have := atI_nat (List.getElem?_eq_getElem hj)
  rwa [Int.toNat_of_nonneg h0] at this
theorem ixN_in {n : Nat} {i : Int} (h0 : 0 ≤ i) (h1 : i < n) : ixN n i = some i.toNat := by
  unfold ixN
  rw [if_pos h0, if_pos h1]
theorem okR_small {i : Int} (h0 : -1000000 ≤ i) (h1 : i ≤ 1000000000) : okR i = true := by
  simp only [okR, Bool.and_eq_true, decide_eq_true_eq]; omega
theorem rangeD_map (n : Nat) : rangeD 0 n = (List.range n).map fun (i : Nat) => D.int (i : Int) := by
  unfold rangeD; simp
theorem cutD_len {α : Type} (xs : List α) (lo hi : Option Int) : (cutD xs lo hi).length ≤ xs.length := by
  unfold cutD; simp; omega
theorem cutD_mem {α : Type} {xs : List α} {lo hi : Option Int} {x : α} (h : x ∈ cutD xs lo hi) : x ∈ xs := by
  unfold cutD at h
  exact List.mem_of_mem_drop (List.mem_of_mem_take h)
theorem cutS_len (z : Str) (lo hi : Option Int) : (cutS z lo hi).length ≤ z.length := by
  unfold cutS Str.length
  simp
  omega
/-- fin of a local cell that stands alone behind the store -/
theorem fin_cell {st : Store} {d : D} (h : refsLt 0 d = true) : fin st (.val (.ref st.length)) (st ++ [some d]) = .ok (.new d) st :=
  fin_ref (Nat.le_refl _) (by simp) (refsLt_mono (Nat.zero_le _) _ h)
theorem refs_ints (ns : List Int) (k : Nat) : refsLts k (ns.map D.int) = true := by
  rw [refsLts_all]; intro d hd; obtain ⟨n, _, rfl⟩ := List.mem_map.mp hd; simp [refsLt]
theorem refs_strs (ns : List Str) (k : Nat) : refsLts k (ns.map D.str) = true := by
  rw [refsLts_all]; intro d hd; obtain ⟨n, _, rfl⟩ := List.mem_map.mp hd; simp [refsLt]
end VI
namespace VI
open PySem PySem.Spec PyProof.Rows L2
/-! ### try .. except x as n, the error tracked from then on -/
section
variable {X : Cx} {pins : List (Addr × Obj)} {σ : L2.St} {H : Hp} {sI s s' : Shared} {B : Heap} {a : Addr} {o : HO}
/-- landed, and the error at a is one of ours -/
theorem landed_as (I : Inv X pins σ H sI) (nb : ∀ b u, sI.heap.get? b = some u → b ∉ frs X.stack → B.get? b = some u) (st : B.StaysIn s'.heap) (up : sI.heap.UpToSlots s'.heap) (os : s'.os = sI.os) (ag : AllBare s'.gens)
    (hB : B.get? a = none) (nfr : a ∉ frs X.stack) (na : H a = none) (new : ObjOk X.prog X.w (upd H a o) s'.heap a o) : Inv X pins σ (upd H a o) s' := by
  have gone : sI.heap.get? a = none := by
    cases q : sI.heap.get? a with
    | none => rfl
    | some u => rw [nb a u q nfr] at hB; cases hB
  have ne : ∀ b u, sI.heap.get? b = some u → b ≠ a := fun b u q z => by rw [z, gone] at q; cases q
  have slots : ∀ b ∈ frs X.stack, ∀ u, sI.heap.get? b = some u → ∃ sl, s'.heap.get? b = some { u with slots := sl } := fun b hb u e => by
    obtain ⟨_, v, e', hd⟩ := I.stack.mem hb
    rw [e] at e'; cases e'
    exact up b u e hd
  have J := I.call (ch := []) (h' := s'.heap) (g' := s'.gens) (t' := s'.toks) (d' := s'.drawn) (H' := upd H a o)
    ⟨fun b u e _ hb _ => st b u (nb b u e hb), fun b u e _ hb _ => slots b hb u e, fun b u e n _ => by rw [upd_ne (ne b u e)]; exact n, fun b u e _ => by
      by_cases hb : b ∈ frs X.stack
      · obtain ⟨sl, q⟩ := slots b hb u e
        exact ⟨_, q⟩
      · exact ⟨u, st b u (nb b u e hb)⟩, fun b xs e => by rw [upd_ne (ne_of_none e na)]; exact e, fun b u v e => by rw [upd_ne (ne_of_none e na)]; exact e, fun b ps e => ⟨#[], by rw [upd_ne (ne_of_none e na), e]; simp⟩⟩
    (((I.inGround nb).kept st).laidN (fun b u q => q) na new) ag (fun _ z => nomatch z)
  obtain ⟨a1, a2, a3, a4, a5⟩ := s'
  obtain rfl : a5 = sI.os := os
  exact J
theorem inSuite (I : Inv X pins σ H s) (a : Addr) : Inv (X.suite a (X.pn ++ pins)) [] σ H s :=
  ⟨I.ok.suite _ _, I.os, I.bare, I.base, I.loc, I.cell, I.free, I.freeC, fun p hp => I.pin p (by rw [List.append_nil] at hp; exact hp), I.hok, I.len⟩
theorem outSuite {pn' : List (Addr × Obj)} (I : Inv (X.suite a (X.pn ++ pins)) pn' σ H s) (ok : X.Ok) : Inv X pins σ H s :=
  ⟨ok, I.os, I.bare, I.base, I.loc, I.cell, I.free, I.freeC, fun p hp => I.pin p (List.mem_append_left _ hp), I.hok, I.len⟩
end
/-- what the clause wishes: the error stands tracked in slot i -/
def wKeep (K : PySem.W.Frag) (c : Value) (i : Nat) (ts : TS) (Wout : WX) (De : Ends) : WX := fun cls d σ H =>
  ∃ b, PySem.W.exmOne K cls c = some b ∧ (b = true → ∀ a, H a = none → ts { nx := fun σ' H' => De.nx (σ'.set i none) H', rt := De.rt, bk := fun σ' H' => De.bk (σ'.set i none) H', ct := fun σ' H' => De.ct (σ'.set i none) H' } (σ.set i (some (.ref a))) (upd H a (ErrO cls d a))) ∧
    (b = false → Wout cls d σ H)
section
variable {X : Cx} {x n : Str} {c : Value} {i : Nat} {body rest : List Stmt} {b₀ : Stmt} {np pos pos' : Pos} {tb : WX → TS} {ts : TS} {Wout : WX}
theorem ps_try_keep (hs : X.stack = X.env :: X.outer) (hf : X.env.frame = some X.env.locals) (hN : X.N.Nodup) (hi : X.N[i]? = some n) (hln : X.env.kindOf n = some .local) (hc : Names X x c) (tk : Takes X Wout)
    (hb : ∀ (W : WX) (pn : List (Addr × Obj)) (xe : Value → Shared → Prop), Takes (X.tr pn xe) W → PassesOwn (model X.prog X.w) X.A X.env xe → PSs (X.tr pn xe) body (tb W))
    (hsu : ∀ (a : Addr) (pn : List (Addr × Obj)), PSs (X.suite a pn) (b₀ :: rest) ts) :
    PS X (.Try body [.ExceptHandler (some (.Name x np)) (some n) (b₀ :: rest) pos'] [] [] pos) (fun De σ H => tb (wKeep X.K c i ts Wout De) De σ H) := by
  refine ⟨fun pins s σ H De I h => ?_⟩
  have ok := I.ok
  have frames : X.A.frames = some (X.env :: X.outer) := by rw [ok.frames, hs]
  have loc1 : Loc X.env.scope n := .inl hln
  refine wpAny_Try_except ?_
  refine wpAny_mono ((hb (wKeep X.K c i ts Wout De) (X.pn ++ pins) (fun e s₁ => wpAny (model X.prog X.w) X.A (noteFrame e X.env) (fun _ s₂ => wpAny (model X.prog X.w) X.A (setFlight e none) (fun _ s₃ =>
    wpAny (model X.prog X.w) X.A (handleBy e X.env [.ExceptHandler (some (.Name x np)) (some n) (b₀ :: rest) pos']) (SP X pins De) X.xe s₃) X.xe s₂) X.xe s₁) (fun u t xx => ?_) PassesOwn.looking).run [] s σ H De (I.toTry _) h) (fun f s1 end1 => ?_) (fun e s1 he => he)
  · obtain ⟨a, B, sI, pins', σ', H', cls, d, rfl, J', nb, up, sky, na, os, ag, b, hb1, yes, no⟩ := xx
    have J : Inv X pins σ' H' sI := J'.ofTry ok
    have sky1 : Sky B (X.env :: X.outer) a (Zc cls d) X.env.locals t.heap := by rw [← hs]; exact sky
    show wpAny (model X.prog X.w) X.A (noteFrame (.ref a) X.env) _ _ _
    refine Sky.land Zc.steady frames hf sky1 fun h3 fl3 up3 => ?_
    have J3 : Inv X pins σ' H' { t with heap := h3 } := J.landed nb fl3.1 (up.trans up3) os ag
    obtain ⟨oe3, vs3, he3, hz3, hd3⟩ := fl3.there
    have hB : B.get? a = none := fl3.2.1
    have nfr : a ∉ frs X.stack := fun hm => by
      rw [hs] at hm
      obtain ⟨_, ob, e', hnf⟩ := fl3.2.2.1.mem hm
      rw [he3] at e'; cases e'
      exact hnf _ hd3
    have look : ∀ {h : Heap} {oe : Obj} {vs : Array Value}, HandSPX.FlyingZ B (X.env :: X.outer) a (Zc cls d) h → sI.heap.UpToSlots h → h.get? a = some oe → Zc cls d oe → oe.data = .fields vs → Inv (X.suite a (X.pn ++ pins)) [] σ' (upd H' a (ErrO cls d a)) { t with heap := h } := fun fl u2 e z dd =>
      inSuite (landed_as (s' := { t with heap := _ }) J nb fl.1 u2 os ag hB nfr na (errO_ok e z dd)) a
    have S3 := look fl3 (up.trans up3) he3 hz3 hd3
    refine wpAny_handleBy_cons (codeAny_handlers_test ?_) (by intro q; cases q)
    have LT : PySem.W.Looks (model X.prog X.w) h3 (typeOf (.ref a)) cls := fun A Q E s k q => wpAny_typeOf_ref (k _ _ he3) (by rw [hz3.1]; exact q)
    have LM := PySem.W.exm_one (M := model X.prog X.w) (J3.kIn) LT hb1
    have named : ∀ {Q : Value → Shared → Prop} {E : Value → Shared → Prop}, Q c { t with heap := h3 } → wpAny (model X.prog X.w) (X.A.mark (some (.ref a))) (eval (.Name x np) X.env) Q E { t with heap := h3 } := fun {Q E} q => by
      obtain ⟨hg, hdbg, hm | ⟨hm, hv, hnn⟩⟩ := hc
      · exact ld_glob (X := X.suite a (X.pn ++ pins)) S3 hg hm q hdbg
      · exact ld_blt (X := X.suite a (X.pn ++ pins)) S3 hg hm hv q hnn hdbg
    refine named (LM.here ?_)
    cases b with
    | true =>
      refine codeAny_handlers_suite_as (HandSPX.lands_againZ fl3 fun h4 fl4 up4 => ?_)
      obtain ⟨oe4, vs4, he4, hz4, hd4⟩ := fl4.there
      have S4 := look fl4 ((up.trans up3).trans up4) he4 hz4 hd4
      refine store_ok (X := X.suite a (X.pn ++ pins)) (v := .ref a) S4 hN hi loc1 rfl (fun s5 S5 => ?_) (.inr hln)
      refine wpAny_mono ((hsu a (X.pn ++ pins)).run [] s5 _ _ _ S5 (yes rfl a na)) (fun f s6 end6 => ?_) (fun _ _ z => False.elim z)
      have over : ∀ {σ6 : L2.St} {H6 : Hp} {pn6 : List (Addr × Obj)} {Q : Shared → Prop}, Inv (X.suite a (X.pn ++ pins)) pn6 σ6 H6 s6 → (∀ s7, Inv X pins (σ6.set i none) H6 s7 → Q s7) →
          wpAny (model X.prog X.w) X.A (do bindName X.env n .none; unbindBehindTheSuite X.env n pos') (fun _ s7 => Q s7) X.xe s6 := fun {σ6 H6 pn6 Q} S6 hq => gone_ok (outSuite S6 ok) hN hi hln hq
      cases f with
      | next =>
        obtain ⟨σ6, H6, S6, q6⟩ := end6
        exact over S6 fun s7 J7 => ⟨_, _, J7, q6⟩
      | brk =>
        obtain ⟨σ6, H6, S6, q6⟩ := end6
        exact over S6 fun s7 J7 => ⟨_, _, J7, q6⟩
      | cont =>
        obtain ⟨σ6, H6, S6, q6⟩ := end6
        exact over S6 fun s7 J7 => ⟨_, _, J7, q6⟩
      | ret u =>
        obtain ⟨v6, σ6, H6, S6, r6, q6⟩ := end6
        exact over S6 fun s7 J7 => ⟨_, _, _, J7, r6, q6⟩
    | false =>
      show wpAny _ X.A (handleBy (.ref a) X.env []) _ _ _
      refine wpAny_handleBy_nil ?_
      obtain ⟨k1, k2, k3, oe, vs, T, oT, tt, he, hz, hd, h1, hr⟩ := id fl3
      unfold PySem.passOn
      refine wpAny_bind (wpAny_field he hd h1 ?_)
      rw [if_neg (show ¬ ((Value.ref T == Value.none) = true) from by simp)]
      have on : wpAny (model X.prog X.w) X.A (setFlight (.ref a) X.env.frame) (fun _ s4 => wpAny (model X.prog X.w) X.A (throw (.ref a) : Sem Flow) (SP X pins De) X.xe s4) X.xe { t with heap := h3 } := by
        rw [hf]
        refine HandSPX.setFlight_upZ fl3 fun h4 hh4 up4 => wpAny_throw (tk _ _ ?_)
        exact ⟨a, B, sI, pins, σ', H', cls, d, rfl, J, nb, (up.trans up3).trans up4, .inr (.inr (by rw [hs]; exact hh4)), na, os, ag, no rfl⟩
      first
        | exact wpAny_bind (wpAny_pure (wpAny_bind on))
        | exact wpAny_bind on
  · cases f with
    | next =>
      obtain ⟨σ', H', J', q⟩ := end1
      exact wpAny_execs_nil ⟨σ', H', J'.ofTry ok, q⟩
    | brk =>
      obtain ⟨σ', H', J', q⟩ := end1
      exact ⟨σ', H', J'.ofTry ok, q⟩
    | cont =>
      obtain ⟨σ', H', J', q⟩ := end1
      exact ⟨σ', H', J'.ofTry ok, q⟩
    | ret u =>
      obtain ⟨v, σ', H', J', r, q⟩ := end1
      exact ⟨v, σ', H', J'.ofTry ok, r, q⟩
end
end VI
namespace VI
open PySem PySem.Spec PyProof.Rows L2
/-! ### errors by value -/
def errD (c : String) (r : Option D) : D := match r with
  | none => .dic [(.cl c, .non)]
  | some d => .dic [(.cl c, .tup [d])]
/-- own classes, built-in classes -/
def lookE (l : List (String × String × Bool)) (c k : String) : Option Bool := (l.find? fun t => decide (t.1 = c) && decide (t.2.1 = k)).map (·.2.2)
theorem lookE_of {l : List (String × String × Bool)} {P : String → String → Bool → Prop} (h : ∀ t ∈ l, P t.1 t.2.1 t.2.2) {c k : String} {b : Bool} (e : lookE l c k = some b) : P c k b := by
  unfold lookE at e
  cases q : l.find? fun t => decide (t.1 = c) && decide (t.2.1 = k) with
  | none => rw [q] at e; cases e
  | some t =>
    rw [q] at e
    cases e
    have h1 := List.find?_some q
    simp only [Bool.and_eq_true, decide_eq_true_eq] at h1
    have := h t (List.mem_of_find?_eq_some q)
    rw [h1.1, h1.2] at this
    exact this
def hitE (l : List (String × Bool)) (c : String) : Option Bool := (l.find? fun t => decide (t.1 = c)).map (·.2)
theorem hitE_of {l : List (String × Bool)} {P : String → Bool → Prop} (h : ∀ t ∈ l, P t.1 t.2) {c : String} {b : Bool} (e : hitE l c = some b) : P c b := by
  unfold hitE at e
  cases q : l.find? fun t => decide (t.1 = c) with
  | none => rw [q] at e; cases e
  | some t =>
    rw [q] at e
    cases e
    have h1 := List.find?_some q
    simp only [decide_eq_true_eq] at h1
    have := h t (List.mem_of_find?_eq_some q)
    rw [h1] at this
    exact this
def sRaise (c : String) : SM := fun env st => .exc env ⟨c, none⟩ st
def slotNone (i : Nat) : SRes → SRes
  | .nx e st => .nx (e.set i none) st
  | .ret w st => .ret w st
  | .brk e st => .brk (e.set i none) st
  | .cnt e st => .cnt (e.set i none) st
  | _ => .stuck
/-- try: b / except (hits) as slot i: s -/
def sTry (i : Nat) (hits : List (String × Bool)) (b s : SM) : SM := fun env st => match b env st with
  | .exc env1 x st1 => match hitE hits x.cls with
    | some true => slotNone i (s (env1.set i (some (errD x.cls x.row))) st1)
    | some false => .exc env1 x st1
    | none => .stuck
  | r => r
section
variable {X : Cx} {G : Gx} {W : WX} {as as' : List Addr} {st st' : Store} {H : Hp} {L : Addr → Prop} {De : Ends} {σ : L2.St}
theorem pS_raise {c : String} {C : Addr} {bmB : List Value} {B newId initId : String} {x m : Str} {j : Nat} {p p2 p3 pos : Pos} (hcalm : X.calm = true) (tk : Takes X W) (hcm : G.cm c = some C) (F : ExcBaseFacts B newId initId bmB) (q : PySem.W.excIn X.K C bmB newId = true)
    (gC : X.mg x = some (.ref C)) (kC : PySem.W.keepIn X.K (.ref C) = true) (r : Raises X (.ref C)) (hg : Gl X x) (hdb : (x == ("__debug__" : Str)) = false := by decide) :
    PS X (.Raise (some (.Call (.Name x p) [.Constant (.str m) j p2] [] p3)) none pos) (tS G W (sRaise c)) :=
  (ps_raise hcalm tk (pmk_own F q gC kC r hg hdb)).vi fun De σ H ⟨as, st, env, s, er, p⟩ => p as H σ _ none Ext.rfl' s er ⟨C, hcm, rfl, rfl⟩
theorem relErr {as1 : List Addr} {st1 : Store} {H1 : Hp} {x : EX} {cv : Value} {xd : Option Addr} {a : Addr} (s : StR G as1 st1 H1) (rx : RelX G as1 st1 H1 x cv xd) (na : H1 a = none) :
    RelD G as1 (Live as1 st1) (upd H1 a (ErrO cv xd a)) (errD x.cls x.row) (.ref a) := by
  obtain ⟨C, hcm, rfl, hr⟩ := rx
  have nl : ¬ Live as1 st1 a := fun ⟨i, _, h1, _⟩ => notLive s na i h1
  unfold errD
  cases q : x.row with
  | none =>
    rw [q] at hr
    subst hr
    exact .err hcm upd_same nl
  | some d =>
    rw [q] at hr
    obtain ⟨p, v, rfl, hp, np, rd⟩ := hr
    exact .errR hcm upd_same nl (by rw [upd_ne (ne_of_none hp na)]; exact hp) np (rd.ext (Ext.lay na) s.len)
theorem tS_try {c : Value} {i : Nat} {hits : List (String × Bool)} {b t : SM} (hh : ∀ t ∈ hits, ∀ C, G.cm t.1 = some C → PySem.W.exmOne G.K (.ref C) c = some t.2) (h : tS G W (sTry i hits b t) De σ H) :
    tS G (wKeep G.K c i (tS G E0w t) W De) b De σ H := by
  obtain ⟨as, st, env, s, er, p⟩ := h
  refine ⟨as, st, env, s, er, ?_⟩
  unfold sTry at p
  cases q : b env st with
  | nx e st1 => simp only [q] at p; exact p
  | ret w st1 => simp only [q] at p; exact p
  | brk e st1 => simp only [q] at p; exact p
  | cnt e st1 => simp only [q] at p; exact p
  | stuck => simp only [q] at p; exact p.elim
  | exc env1 x st1 =>
    simp only [q] at p
    intro as1 H1 σ1 cv xd e1 s1 er1 rx
    cases qh : hitE hits x.cls with
    | none => simp only [qh] at p; exact p.elim
    | some r =>
      simp only [qh] at p
      obtain ⟨C, hcm, hcv, hrow⟩ := id rx
      refine ⟨r, by rw [hcv]; exact hitE_of (P := fun k r => ∀ C, G.cm k = some C → PySem.W.exmOne G.K (.ref C) c = some r) hh qh C hcm, fun hr a na => ?_, fun hr => ?_⟩
      · subst hr
        have rd := relErr s1 rx na
        refine ⟨as1, st1, env1.set i (some (errD x.cls x.row)), s1.laid na, (er1.ext (Ext.lay na) s1.len).set rd i, ?_⟩
        simp only at p
        cases qs : t (env1.set i (some (errD x.cls x.row))) st1 with
        | nx e st2 =>
          rw [qs] at p
          exact fun as2 H2 σ2 e2 s2 er2 => p as2 H2 _ ((e1.trans (Ext.lay na) s.len).trans e2 s.len) s2 (er2.unset i)
        | ret w st2 =>
          rw [qs] at p
          exact fun as2 H2 v e2 s2 r2 => p as2 H2 v ((e1.trans (Ext.lay na) s.len).trans e2 s.len) s2 (r2.from (fresh_of (e1.trans (Ext.lay na) s.len)))
        | brk e st2 =>
          rw [qs] at p
          exact fun as2 H2 σ2 e2 s2 er2 => p as2 H2 _ ((e1.trans (Ext.lay na) s.len).trans e2 s.len) s2 (er2.unset i)
        | cnt e st2 =>
          rw [qs] at p
          exact fun as2 H2 σ2 e2 s2 er2 => p as2 H2 _ ((e1.trans (Ext.lay na) s.len).trans e2 s.len) s2 (er2.unset i)
        | exc e y st2 => rw [qs] at p; exact p.elim
        | stuck => rw [qs] at p; exact p.elim
      · subst hr
        exact p as1 H1 σ1 cv xd e1 s1 er1 rx
theorem pS_try {x n : Str} {c : Value} {i : Nat} {body rest : List Stmt} {b₀ : Stmt} {np pos pos' : Pos} {hits : List (String × Bool)} {b t : SM} (hs : X.stack = X.env :: X.outer) (hf : X.env.frame = some X.env.locals) (hN : X.N.Nodup) (hi : X.N[i]? = some n) (hln : X.env.kindOf n = some .local) (hc : Names X x c) (tk : Takes X W) (hK : G.K = X.K)
    (hh : ∀ t ∈ hits, ∀ C, G.cm t.1 = some C → PySem.W.exmOne G.K (.ref C) c = some t.2)
    (hb : ∀ (W : WX) (pn : List (Addr × Obj)) (xe : Value → Shared → Prop), Takes (X.tr pn xe) W → PassesOwn (model X.prog X.w) X.A X.env xe → PSs (X.tr pn xe) body (tS G W b))
    (hsu : ∀ (a : Addr) (pn : List (Addr × Obj)), PSs (X.suite a pn) (b₀ :: rest) (tS G E0w t)) :
    PS X (.Try body [.ExceptHandler (some (.Name x np)) (some n) (b₀ :: rest) pos'] [] [] pos) (tS G W (sTry i hits b t)) :=
  (ps_try_keep hs hf hN hi hln hc tk hb hsu).vi fun De σ H h => by rw [← hK]; exact tS_try hh h

/-! ### isinstance of an error -/
def rIsErr (K : PySem.W.Frag) : List V → Hp → VK → Prop := fun xs H Q => ∃ (a D : Addr) (c : V) (cv : Value) (b : Bool), xs = [.ref a, c] ∧ H a = some (ErrO (.ref D) none a) ∧ ExcC K D ∧ (∀ u, RelV c u → u = cv) ∧ PySem.W.kitOne K (.ref D) cv = some b ∧ Q (.bl b) H
theorem call_isErr : CallR X (.builtin "isinstance") (rIsErr X.K) := by
  intro pins s σ H xs us Q I r h
  obtain ⟨a, D, c, cv, b, rfl, ha, C, hcv, e, q⟩ := h
  cases r with
  | cons rx rr =>
    cases rr with
    | cons rt rr =>
      cases rr
      cases rx
      have ec := hcv _ rt
      subst ec
      obtain ⟨oe, vs, hget, hz, hv⟩ := (I.hok a _ ha).1
      have J : PySem.W.InstAt s.heap a oe D none := by
        obtain ⟨oc, od, oda, osl⟩ := oe
        obtain ⟨h1, h2⟩ := hz
        dsimp only at h1 h2 hv
        subst h1 h2 hv
        exact ⟨hget, rfl, rfl, trivial⟩
      exact PySem.W.kia_one (PySem.W.handS_kitx_exc C.hg C.hk C.hs C.hd C.ha C.hn C.ht C.hm) I.kIn J e (fun z => nomatch z) fun tk => ⟨.bl b, H, I.kept (t' := tk) fun _ _ z => z, rfl, q⟩
def fIsE (lc lt : List (String × String × Bool)) (ds : List D) (st : Store) : Res Wv := match ds with
  | [.dic [(.cl c, .non)], .cl k] => match lookE lc c k with
    | some b => .ok (.val (.bl b)) st
    | none => .stuck
  | [.dic [(.cl c, .non)], .ty k] => match lookE lt c k with
    | some b => .ok (.val (.bl b)) st
    | none => .stuck
  | _ => .stuck
theorem callS_isE {lc lt : List (String × String × Bool)} (hc : ∀ t ∈ lc, ∀ C C', G.cm t.1 = some C → G.cm t.2.1 = some C' → ExcC G.K C ∧ PySem.W.kitOne G.K (.ref C) (.ref C') = some t.2.2)
    (ht : ∀ t ∈ lt, ∀ C, G.cm t.1 = some C → ExcC G.K C ∧ PySem.W.kitOne G.K (.ref C) (.type t.2.1) = some t.2.2) : CallS G W (fIsE lc lt) (rIsErr G.K) := by
  intro E' as st H ds xs Q s r p
  unfold fIsE at p
  split at p
  · rename_i c k
    cases r with
    | cons r t =>
    cases t with
    | cons r2 t =>
    cases t
    cases r2 with
    | cl h2 =>
    cases r with
    | dic hd _ => exact hd.noCl.elim
    | err h1 ha nl =>
    split at p
    · rename_i b hb
      obtain ⟨x1, x2⟩ := lookE_of (P := fun c k b => ∀ C C', G.cm c = some C → G.cm k = some C' → ExcC G.K C ∧ PySem.W.kitOne G.K (.ref C) (.ref C') = some b) hc hb _ _ h1 h2
      exact ⟨_, _, _, _, b, rfl, ha, x1, fun u hu => hu, x2, p.now s _ (.bl _)⟩
    · exact p.elim
  · rename_i c k
    cases r with
    | cons r t =>
    cases t with
    | cons r2 t =>
    cases t
    cases r2 with
    | ty _ =>
    cases r with
    | dic hd _ => exact hd.noCl.elim
    | err h1 ha nl =>
    split at p
    · rename_i b hb
      obtain ⟨x1, x2⟩ := lookE_of (P := fun c k b => ∀ C, G.cm c = some C → ExcC G.K C ∧ PySem.W.kitOne G.K (.ref C) (.type k) = some b) ht hb _ h1
      exact ⟨_, _, _, _, b, rfl, ha, x1, fun u hu => hu, x2, p.now s _ (.bl _)⟩
    · exact p.elim
  · exact p.elim
end

/-! ### defs that may raise -/
def evCallX (n : Nat) (f : FnSem) (a : AM) : EM := fun env st => (a env st).bind fun ds st1 => if ds.length = n then f ds st1 else .stuck
def OkX (P : Program) (w : World) (K : PySem.W.Frag) (mg : Str → Option Value) (base : Heap) (G : Gx) (k : Nat) (x : Str) (n : Nat) (fs : FnSem) : Prop :=
  ∃ a fd ps, FnOk P w K mg base (L2.CX P w) k a fd ps (spI G n fs) ∧ PySem.W.keepIn K (.ref a) = true ∧ Binds K fd ps [] ∧ mg x = some (.ref a)
abbrev xW (Ex : XK) : WX := fun cv xd _ H => Ex cv xd H
section
variable {P : Program} {w : World} {K : PySem.W.Frag} {mg : Str → Option Value} {base : Heap} {G : Gx} {W : WX} {X : Cx}
theorem fnX_ok {x qual : Str} {st : Stmt} {f : Addr} {fd : FuncData} {N ps : List Str} {k n : Nat} {m : SM} (F : Fun K x qual st f fd) (S : FnScope N ps (defScope st)) (hn : N.length = n)
    (hb : ∀ (cdv : Value) (A : Around) (outer : List Env) (s : Shared) (H : Hp) (Ex : XK), Room k (A.deeper (envOfC qual (defScope st) s.heap.objs.size f cdv)) →
      PSs (cxOf (L2.CX P w) P w K mg base N qual (defScope st) f cdv A outer s H Ex) (defBody st) (tS G (xW Ex) m)) : FnOk P w K mg base (L2.CX P w) (k + 1) f fd ps (spI G ps.length (runP n m)) :=
  F.okX S (fun vs H Q E h => h.1) (fun cdv A outer s H vs Q Ex hr h => ⟨_, hb cdv A outer s H Ex hr, run_body hn h.2⟩)
theorem okX_of {x qual : Str} {st : Stmt} {N ps : List Str} {k n nn : Nat} {m : SM} (D : At K mg x qual st ps) (S : FnScope N ps (defScope st)) (hn : N.length = nn) (hp : ps.length = n)
    (hb : ∀ (f : Addr) (cdv : Value) (A : Around) (outer : List Env) (s : Shared) (H : Hp) (Ex : XK), Room k (A.deeper (envOfC qual (defScope st) s.heap.objs.size f cdv)) →
      PSs (cxOf (L2.CX P w) P w K mg base N qual (defScope st) f cdv A outer s H Ex) (defBody st) (tS G (xW Ex) m)) : OkX P w K mg base G (k + 1) x n (runP nn m) := by
  obtain ⟨a, fd, F, b, g⟩ := D
  subst hp
  exact ⟨a, fd, ps, fnX_ok F S hn (hb a), F.kp, b, g⟩
theorem pI_callX {k n : Nat} {x : Str} {p pos : Pos} {e : Expr} {es : List Expr} {m : AM} {fs : FnSem} (O : OkX X.prog X.w X.K X.mg X.base G k x n fs) (hr : Room k X.A) (tk : Takes X W) (hg : Gl X x) (ha : PA X (e :: es) (tAr G W m))
    (hdb : (x == ("__debug__" : Str)) = false := by decide) (he : starEach (e :: es) X.env = (false, eval e X.env) :: starEach es X.env := by rfl) (hpl : (backTo pos (starEach es X.env)).any (·.1) = false := by rfl) : PE X (.Call (.Name x p) (e :: es) [] pos) (tI G W (evCallX n fs m)) := by
  obtain ⟨a, fd, ps, F, kp, b, g⟩ := O
  refine (pe_callS (E := WE W) F hr hg g kp b (fun σ => passAt tk σ) ha hdb he hpl).vi fun σ H Q h => ?_
  obtain ⟨as, st, env, s, er, p⟩ := h
  refine ⟨as, st, env, s, er, (p.bind s.len).mono fun ds as1 st1 H1 e1 s1 p1 vs r1 => ?_⟩
  split at p1
  · rename_i hn
    exact ⟨r1.len_of hn, as1, st1, ds, s1, r1, p1.mono fun w as3 st3 H3 e3 s3 q v rv => q v (rv.from (fresh_of e1))⟩
  · exact p1.elim
end
end VI
namespace VI
open PySem PySem.Spec PyProof.Rows L2
/-! ### own objects -/
section
variable {X : Cx} {CX : CXT} {k : Nat} {f C : Addr} {fd : FuncData} {ps : List Str} {sp : Sp} {E : L2.St → XK} {x m : Str} {p pos apos : Pos} {e o : Expr} {es : List Expr} {ta : TE} {t : TA}
def tMakeS (C : Addr) (sp : Sp) (E : L2.St → XK) (t : TA) : TE := fun σ H Q => t σ H fun vs H1 => ∀ x dx, H1 x = none → H1 dx = none → dx ≠ x → sp (.ref x :: vs) (upd (upd H1 dx (.own x)) x (.ins C dx [])) (fun v H2 => v = .non ∧ Q (.ref x) H2) (E σ)
theorem pe_makeS (M : Mk X.K C f) (F : FnOk X.prog X.w X.K X.mg X.base CX k f fd ps sp) (hr : Room (k + 1) X.A) (hg : Gl X x) (hm : X.mg x = some (.ref C)) (hb : Binds X.K fd ps []) (hx : ∀ σ, PassesAt CX X σ (E σ)) (ha : PA X (e :: es) t)
    (hdb : (x == ("__debug__" : Str)) = false := by decide) (he : starEach (e :: es) X.env = (false, eval e X.env) :: starEach es X.env := by rfl) (hpl : (backTo pos (starEach es X.env)).any (·.1) = false := by rfl) :
    PE X (.Call (.Name x p) (e :: es) [] pos) (tMakeS C sp E t) := by
  refine ⟨fun pins s σ H Q I h => wpAny_Call_Name_kw (ld_glob I hg hm ?_ hdb)⟩
  refine PySem.W.callWith_K (h₀ := X.base) I.ok.mod.kin M.kp (thn (ha.run pos pins s σ H _ I h) fun us s1 ⟨vs, H1, I1, r, q⟩ => ⟨I1.kIn, ?_⟩) he hpl
  have want := q (s1.heap.objs.size + 1) s1.heap.objs.size (I1.hok.fresh (Nat.le_succ _)) (I1.hok.fresh (Nat.le_refl _)) (Nat.ne_of_lt (Nat.lt_succ_self _))
  have made := Inv.made (C := C) I1
  have rv : Vals (V.ref (s1.heap.objs.size + 1) :: vs) (Value.ref (s1.heap.objs.size + 1) :: us) := .cons rfl r
  have len : (Value.ref (s1.heap.objs.size + 1) :: us).length = ps.length := rv.length.symm.trans (F.len _ _ _ _ want)
  have b := hb _ (Value.ref (s1.heap.objs.size + 1) :: us) made.kIn (by rw [List.append_nil]; exact len)
  rw [List.append_nil] at b
  refine wpAny_call (make_map (f := f) I1.kIn M.makes M.init (beq_iff_eq.mp M.fn) (codeAny_mono (F.run _ X.stack _ _ ⟨Value.ref (s1.heap.objs.size + 1) :: us, []⟩ _ _ _ (E σ) (hr.make C us []) (made.env0.make C us []) b rv want) fun res s2 hres => ?_))
  cases res with
  | error e => exact hx σ pins _ _ e s2 made hres
  | ok fl =>
    cases fl with
    | ret u =>
      obtain ⟨v, H', I3, ru, rfl, q3⟩ := made.after hres
      exact ⟨ru, V.ref (s1.heap.objs.size + 1), H', I3, rfl, q3⟩
    | next => exact False.elim hres
    | brk => exact False.elim hres
    | cont => exact False.elim hres
def tMethS (C : Addr) (m : Str) (sp : Sp) (E : L2.St → XK) (ta : TE) (t : TA) : TE := fun σ H Q => ta σ H fun x H1 => ∃ a dx fs, x = .ref a ∧ H1 a = some (.ins C dx fs) ∧ fs.lookup m = none ∧ t σ H1 fun vs H2 => sp (x :: vs) H2 Q (E σ)
theorem pe_methS {pl : Sem Bool} (he : PE X o ta) (c : Cls X.K C) (hm : Meth X.K C m f) (F : FnOk X.prog X.w X.K X.mg X.base CX k f fd ps sp) (hr : Room k X.A) (hb : Binds X.K fd ps []) (hx : ∀ σ, PassesAt CX X σ (E σ)) (ha : PA X (e :: es) t)
    (hst : starEach (e :: es) X.env = (false, eval e X.env) :: starEach es X.env := by rfl) (hpl : (backTo pos (starEach es X.env)).any (·.1) = false := by rfl)
    (ht : eval (.Call (.Attribute o m apos) (e :: es) [] pos) X.env = (do
      let ov ← eval o X.env
      standAt apos.atName
      let (f, first) ← holding [ov] (getMethod ov m pl)
      callWith pos f first (backTo pos (starEach (e :: es) X.env)) (backToKw pos (keywordEach [] X.env))) := by rfl) :
    PE X (.Call (.Attribute o m apos) (e :: es) [] pos) (tMethS C m sp E ta t) := by
  refine ⟨fun pins s σ H Q I h => PySem.W.methodCall_KW (pl := pl) (thn (he.run pins s σ H _ I h) fun u s1 ⟨x, H1, I1, rx, a, dx, fs, ex, ea, l, q⟩ => ?_) ht⟩
  subst ex
  obtain rfl : u = Value.ref a := rx
  refine getmeth_ok I1 ea c hm l (PySem.W.callWith_K (first := [.ref a]) (h₀ := X.base) I.ok.mod.kin hm.kp (thn (ha.run pos pins s1 σ H1 _ I1 q) fun us s2 ⟨vs, H2, I2, r, q2⟩ => ⟨I2.kIn, ?_⟩) hst hpl)
  exact run_fnS (us := .ref a :: us) (vs := .ref a :: vs) F hr hb (hx σ) I2 (.cons rfl r) q2
end
/-! by value -/
def objOf (d : D) (st : Store) : Option (String × List (Str × D)) := match d with
  | .obj c fs => some (c, fs)
  | .ref n => match st[n]? with
    | some (some (.obj c fs)) => some (c, fs)
    | _ => none
  | _ => none
def makeV (c : String) (f : FnSem) (ds : List D) (st : Store) : Res Wv := match f (.ref st.length :: ds) (st ++ [some (.obj c [])]) with
  | .ok (.val .non) st' => fin st (.val (.ref st.length)) st'
  | .exc x st' => finX st x st'
  | _ => .stuck
def evMake (c : String) (n : Nat) (f : FnSem) (a : AM) : EM := fun env st => (a env st).bind fun ds st1 => if ds.length = n then makeV c f ds st1 else .stuck
def evMeth (c : String) (m : Str) (n : Nat) (f : FnSem) (o : EM) (a : AM) : EM := fun env st => (o env st).bind fun w st1 => match objOf w.d st1 with
  | some (k, fs) => if k = c ∧ (fs.lookup m).isNone = true then (a env st1).bind fun ds st2 => if ds.length = n then f (w.d :: ds) st2 else .stuck else .stuck
  | none => .stuck
def evFld (cs : List String) (f : Str) (o : EM) : EM := fun env st => (o env st).bind fun w st1 => match objOf w.d st1 with
  | some (k, fs) => if cs.contains k = true then (match fs.lookup f with | some d => .ok (.val d) st1 | none => .stuck) else .stuck
  | none => .stuck
def putD (f : Str) (d : D) (fs : List (Str × D)) : List (Str × D) := match fs with
  | [] => [(f, d)]
  | (g, x) :: r => if g = f then (f, d) :: r else (g, x) :: putD f d r
def sFldSet (cs : List String) (f : Str) (e o : EM) : SM := fun env st => SRes.of env (e env st) fun w1 st1 => SRes.of env (o env st1) fun w2 st2 => match w2.d with
  | .ref n => match st2[n]? with
    | some (some (.obj k fs)) => if cs.contains k = true ∧ fs.length < 1000 then .nx env (st2.set n (some (.obj k (putD f w1.d fs)))) else .stuck
    | _ => .stuck
  | _ => .stuck
section
variable {X : Cx} {G : Gx} {W : WX} {Ex : XK} {as as' : List Addr} {st st' : Store} {H : Hp} {L : Addr → Prop} {De : Ends} {σ : L2.St} {Q : VK}
theorem objOf_rel (s : StR G as st H) {d : D} {v : V} {c : String} {fs : List (Str × D)} (r : RelD G as (Live as st) H d v) (h : objOf d st = some (c, fs)) :
    ∃ a C dx vfs, v = .ref a ∧ G.cm c = some C ∧ H a = some (.ins C dx vfs) ∧ RelFs G as (Live as st) H fs vfs := by
  cases r with
  | @ref n a ha =>
    unfold objOf at h
    cases q : st[n]? with
    | none => simp only [q] at h; cases h
    | some u =>
      cases u with
      | none => simp only [q] at h; cases h
      | some d =>
        cases d with
        | obj k gs =>
          simp only [q] at h
          cases h
          obtain ⟨a', ha', C, dx, vfs, h1, h2, _, h3⟩ := s.cells n _ q
          rw [ha] at ha'; cases ha'
          exact ⟨a, C, dx, vfs, rfl, h1, h2, h3⟩
        | _ => simp only [q] at h; cases h
  | obj h1 h2 h3 h4 h5 => cases h; exact ⟨_, _, _, _, rfl, h1, h2, h5⟩
  | _ => simp only [objOf] at h; cases h
theorem RelFs.look : ∀ {fs : List (Str × D)} {vfs : List (Str × V)} (f : Str), RelFs G as L H fs vfs → (fs.lookup f = none → vfs.lookup f = none) ∧ ∀ d, fs.lookup f = some d → ∃ v, vfs.lookup f = some v ∧ RelD G as L H d v
  | _, _, _, .nil => ⟨fun _ => rfl, fun d h => nomatch h⟩
  | _, _, f, .cons (f := g) r t => by
    obtain ⟨i1, i2⟩ := RelFs.look f t
    simp only [List.lookup]
    cases q : (f == g) with
    | true =>
      refine ⟨fun h => (by cases h), fun d h => ?_⟩
      cases h
      exact ⟨_, rfl, r⟩
    | false => exact ⟨i1, i2⟩
theorem make_post {c : String} {C : Addr} {fs : FnSem} {ds : List D} {vs : List V} (s : StR G as st H) (rds : RelDs G as (Live as st) H ds vs) (hcm : G.cm c = some C)
    (p : Post G Ex as st H (makeV c fs ds st) fun w as' st' H' => ∀ v, RelW G H as' st' H' w v → Q v H') (x dx : Addr) (nx : H x = none) (ndx : H dx = none) (ne : dx ≠ x) :
    ∃ as1 st1 ds1, StR G as1 st1 (upd (upd H dx (.own x)) x (.ins C dx [])) ∧ RelDs G as1 (Live as1 st1) (upd (upd H dx (.own x)) x (.ins C dx [])) ds1 (.ref x :: vs) ∧ ds1.length = ds.length + 1 ∧
      Post G Ex as1 st1 (upd (upd H dx (.own x)) x (.ins C dx [])) (fs ds1 st1) fun w as' st' H' => ∀ v, RelW G (upd (upd H dx (.own x)) x (.ins C dx [])) as' st' H' w v → v = .non ∧ Q (.ref x) H' := by
  have nx1 : (upd H dx (.own x)) x = none := by rw [upd_ne (Ne.symm ne)]; exact nx
  have s1 := s.laid ndx (o := .own x)
  have sl := s1.lay nx1 (o := .ins C dx [])
  have cell : CellR G as (fun b => Live as st b ∨ b = x) (upd (upd H dx (.own x)) x (.ins C dx [])) x (.obj c []) := ⟨C, dx, [], hcm, upd_same, by rw [upd_ne ne, upd_same], .nil⟩
  have s2 := sl.reg (notLive s1 nx1) cell
  have e2 : Ext as st H (as ++ [x]) (st ++ [some (.obj c [])]) (upd (upd H dx (.own x)) x (.ins C dx [])) := ((Ext.lay ndx).trans (Ext.lay nx1) s.len).regAt s.len s.len nx
  have atx : (as ++ [x])[st.length]? = some x := by rw [← s.len]; simp
  refine ⟨as ++ [x], st ++ [some (.obj c [])], .ref st.length :: ds, s2, .cons (.ref atx) (rds.ext e2 s.len), rfl, ?_⟩
  unfold makeV at p
  cases q : fs (.ref st.length :: ds) (st ++ [some (.obj c [])]) with
  | stuck => simp only [q] at p; exact p.elim
  | ok w st' =>
    cases w with
    | new d => simp only [q] at p; exact p.elim
    | val d =>
      cases d with
      | non =>
        simp only [q] at p
        intro as' H' e' s' v rv
        cases (show RelD G as' _ H' .non v from rv)
        refine ⟨rfl, ?_⟩
        have ee := e2.trans e' s.len
        have rx : RelW G H as' st' H' (.val (.ref st.length)) (.ref x) := show RelD G as' _ H' _ _ from .ref (pre_get e'.pre atx)
        cases qf : fin st (.val (.ref st.length)) st' with
        | ok w2 st2 =>
          rw [qf] at p
          obtain ⟨s3, r3⟩ := fin_rel s ee s' rx qf
          obtain ⟨_, rfl⟩ := fin_ok qf
          exact p _ H' (ee.cut s) s3 _ r3
        | exc y st2 => exact (fin_noexc qf).elim
        | stuck => rw [qf] at p; exact p.elim
      | _ => simp only [q] at p; exact p.elim
  | exc y st' =>
    simp only [q] at p
    intro as' H' cv xd e' s' rx
    have ee := e2.trans e' s.len
    obtain ⟨C', h1, h2, h3⟩ := rx
    unfold finX at p
    cases qr : y.row with
    | none =>
      rw [qr] at p h3
      by_cases hc : cutOk st st' = true
      · rw [if_pos ⟨hc, rfl⟩] at p
        exact p (as'.take st.length) H' cv xd (ee.cut s) ((s.cut s' hc).less fun b z => live_cut z) ⟨C', h1, h2, by rw [qr]; exact h3⟩
      · rw [if_neg fun z => hc z.1] at p; exact p.elim
    | some d =>
      rw [qr] at p h3
      by_cases hc : cutOk st st' = true ∧ refsLt st.length d = true
      · rw [if_pos hc] at p
        obtain ⟨pa, v, g1, g2, gl, g3⟩ := h3
        exact p (as'.take st.length) H' cv xd (ee.cut s) ((s.cut s' hc.1).less fun b z => live_cut z) ⟨C', h1, h2, by rw [qr]; exact ⟨pa, v, g1, g2, fun z => gl (live_cut z), (g3.cut hc.2).lessL fun b z => live_cut z⟩⟩
      · rw [if_neg hc] at p; exact p.elim
/-- a class with an __init__ that may raise -/
def OkMk (P : Program) (w : World) (K : PySem.W.Frag) (mg : Str → Option Value) (base : Heap) (G : Gx) (k : Nat) (x : Str) (c : String) (n : Nat) (fs : FnSem) : Prop :=
  ∃ C f fd ps, Mk K C f ∧ FnOk P w K mg base (L2.CX P w) k f fd ps (spI G (n + 1) fs) ∧ Binds K fd ps [] ∧ mg x = some (.ref C) ∧ G.cm c = some C
theorem pI_make {k n : Nat} {x : Str} {c : String} {p pos : Pos} {e : Expr} {es : List Expr} {m : AM} {fs : FnSem} (O : OkMk X.prog X.w X.K X.mg X.base G k x c n fs) (hr : Room (k + 1) X.A) (tk : Takes X W) (hg : Gl X x) (ha : PA X (e :: es) (tAr G W m))
    (hdb : (x == ("__debug__" : Str)) = false := by decide) (he : starEach (e :: es) X.env = (false, eval e X.env) :: starEach es X.env := by rfl) (hpl : (backTo pos (starEach es X.env)).any (·.1) = false := by rfl) : PE X (.Call (.Name x p) (e :: es) [] pos) (tI G W (evMake c n fs m)) := by
  obtain ⟨C, f, fd, ps, M, F, b, g, hcm⟩ := O
  refine (pe_makeS (E := WE W) M F hr hg g b (fun σ => passAt tk σ) ha hdb he hpl).vi fun σ H Q h => ?_
  obtain ⟨as, st, env, s, er, p⟩ := h
  refine ⟨as, st, env, s, er, (p.bind s.len).mono fun ds as1 st1 H1 e1 s1 p1 vs r1 => ?_⟩
  split at p1
  · rename_i hn
    intro x dx nx ndx ne
    obtain ⟨as2, st2, ds2, s2, r2, l2, p2⟩ := make_post (Q := Q) s1 r1 hcm (p1.mono fun w as3 st3 H3 e3 s3 q v rv => q v (rv.from (fresh_of e1))) x dx nx ndx ne
    exact ⟨r2.len_of (by rw [l2, hn]), as2, st2, ds2, s2, r2, p2⟩
  · exact p1.elim
/-- a method that may raise -/
def OkMe (P : Program) (w : World) (K : PySem.W.Frag) (mg : Str → Option Value) (base : Heap) (G : Gx) (k : Nat) (c : String) (m : Str) (n : Nat) (fs : FnSem) : Prop :=
  ∃ C f fd ps, Cls K C ∧ Meth K C m f ∧ FnOk P w K mg base (L2.CX P w) k f fd ps (spI G (n + 1) fs) ∧ Binds K fd ps [] ∧ G.cm c = some C
theorem pI_meth {k n : Nat} {c : String} {mm : Str} {pos apos : Pos} {o e : Expr} {es : List Expr} {mo : EM} {m : AM} {fs : FnSem} {pl : Sem Bool} (O : OkMe X.prog X.w X.K X.mg X.base G k c mm n fs) (hr : Room k X.A) (tk : Takes X W) (ho : PE X o (tI G W mo)) (ha : PA X (e :: es) (tAr G W m))
    (hst : starEach (e :: es) X.env = (false, eval e X.env) :: starEach es X.env := by rfl) (hpl : (backTo pos (starEach es X.env)).any (·.1) = false := by rfl)
    (ht : eval (.Call (.Attribute o mm apos) (e :: es) [] pos) X.env = (do
      let ov ← eval o X.env
      standAt apos.atName
      let (f, first) ← holding [ov] (getMethod ov mm pl)
      callWith pos f first (backTo pos (starEach (e :: es) X.env)) (backToKw pos (keywordEach [] X.env))) := by rfl) :
    PE X (.Call (.Attribute o mm apos) (e :: es) [] pos) (tI G W (evMeth c mm n fs mo m)) := by
  obtain ⟨C, f, fd, ps, cl, M, F, b, hcm⟩ := O
  refine (pe_methS (E := WE W) ho cl M F hr b (fun σ => passAt tk σ) ha hst hpl ht).vi fun σ H Q h => ?_
  obtain ⟨as, st, env, s, er, p⟩ := h
  refine ⟨as, st, env, s, er, (p.bind s.len).mono fun w as1 st1 H1 e1 s1 p1 v r1 => ?_⟩
  split at p1
  · rename_i kk fl hob
    split at p1
    · rename_i hc
      obtain ⟨a, C', dx, vfs, rfl, h1, h2, h3⟩ := objOf_rel s1 r1.d hob
      rw [hc.1, hcm] at h1
      cases h1
      refine ⟨a, dx, vfs, rfl, h2, (h3.look mm).1 (by simpa using hc.2), as1, st1, env, s1, er.ext e1 s.len, (p1.bind s1.len).mono fun ds as2 st2 H2 e2 s2 p2 vs r2 => ?_⟩
      split at p2
      · rename_i hn
        exact ⟨by rw [List.length_cons, r2.len_of hn], as2, st2, w.d :: ds, s2, .cons (r1.d.ext e2 s1.len) r2, p2.mono fun w as3 st3 H3 e3 s3 q v rv => q v (rv.from (fresh_of (e1.trans e2 s.len)))⟩
      · exact p2.elim
    · exact p1.elim
  · exact p1.elim
theorem pI_fld {cs : List String} {f : Str} {o : Expr} {pos : Pos} {m : EM} (ho : PE X o (tI G W m)) (hK : G.K = X.K) (hcl : ∀ c, cs.contains c = true → ∀ C, G.cm c = some C → Cls X.K C ∧ NoAttr X.K C f) (hb : attributeBase o f X.env (eval o X.env) = eval o X.env := by rfl) :
    PE X (.Attribute o f pos) (tI G W (evFld cs f m)) := (pe_fld ho hb).vi fun σ H Q ⟨as, st, env, s, er, p⟩ =>
  ⟨as, st, env, s, er, (p.bind s.len).mono fun w as1 st1 H1 e1 s1 p1 v r1 => by
    split at p1
    · rename_i kk fl hob
      split at p1
      · rename_i hc
        split at p1
        · rename_i d hd
          obtain ⟨a, C, dx, vfs, rfl, h1, h2, h3⟩ := objOf_rel s1 r1.d hob
          obtain ⟨v, hv, rv⟩ := (h3.look f).2 d hd
          obtain ⟨c1, c2⟩ := hcl _ hc C h1
          exact ⟨a, C, dx, vfs, v, rfl, h2, c1, c2, hv, p1.now s1 v rv⟩
        · exact p1.elim
      · exact p1.elim
    · exact p1.elim⟩
end
end VI
namespace VI
open PySem PySem.Spec PyProof.Rows L2
/-! ### a field set -/
section
variable {X : Cx} {G : Gx} {W : WX} {E : WX} {as as' : List Addr} {st st' : Store} {H : Hp} {L : Addr → Prop} {De : Ends} {σ : L2.St} {Q : VK}
theorem RelFs.put {f : Str} {d : D} {v : V} (r : RelD G as L H d v) : ∀ {fs : List (Str × D)} {vfs : List (Str × V)}, RelFs G as L H fs vfs → RelFs G as L H (putD f d fs) (putF f v vfs) ∧ fs.length = vfs.length
  | _, _, .nil => ⟨.cons r .nil, rfl⟩
  | _, _, .cons (f := g) (fs := fs) (vs := vs) q t => by
    obtain ⟨i1, i2⟩ := RelFs.put r t
    refine ⟨?_, by simp [i2]⟩
    unfold putD putF
    by_cases h : g = f
    · subst h
      rw [if_pos rfl, if_pos rfl]
      exact .cons r t
    · rw [if_neg h, if_neg h]
      exact .cons q i1
theorem tS_fldSet {cs : List String} {f : Str} {e o : EM} (hcl : ∀ c, cs.contains c = true → ∀ C, G.cm c = some C → Cls G.K C ∧ NoAttr G.K C f) (h : tS G W (sFldSet cs f e o) De σ H) : sFld G.K (tI G W o) (tI G W e) f De σ H := by
  obtain ⟨as, st, env, s, er, p⟩ := h
  refine ⟨as, st, env, s, er, (SPost.of s.len er p).mono fun w as1 st1 H1 e1 s1 p1 v1 r1 => ?_⟩
  have p1 := p1.from s.len e1
  refine ⟨as1, st1, env, s1, er.ext e1 s.len, (SPost.of (σ := σ) s1.len (er.ext e1 s.len) p1).mono fun w2 as2 st2 H2 e2 s2 p2 v2 r2 => ?_⟩
  have p2 := p2.from s1.len e2
  split at p2
  · rename_i n hw
    split at p2
    · rename_i k fs hn
      split at p2
      · rename_i hc
        have rd := r2.d
        rw [hw] at rd
        cases rd with
        | @ref _ a ha =>
        obtain ⟨a', ha', C, dx, vfs, h1, h2, h3, h4⟩ := s2.cells n _ hn
        rw [ha] at ha'; cases ha'
        obtain ⟨c1, c2⟩ := hcl _ hc.1 C h1
        obtain ⟨q1, q2⟩ := h4.put (f := f) (r1.d.ext e2 s1.len)
        refine ⟨a, C, dx, vfs, rfl, h2, c1, c2, by rw [← q2]; exact hc.2, ?_⟩
        have live : Live as2 st2 a := ⟨_, _, ha, hn⟩
        have kp : ∀ b u, H2 b = some u → (¬ Live as2 st2 b ∨ notMut u = true) → ∀ z, upd H2 a z b = some u := fun b u eb k z => by
          have ne : b ≠ a := fun z => by
            subst z
            rcases k with k | k
            · exact k live
            · rw [h2] at eb; cases eb; cases k
          rw [upd_ne ne]; exact eb
        obtain ⟨a1, a2⟩ := s2.write (d := .obj k (putD f w.d fs)) (o := .ins C dx (putF f v1 vfs)) hn ha ⟨C, dx, _, h1, upd_same, kp _ _ h3 (.inr rfl) _, q1.mono (List.prefix_refl _) (fun _ _ n => n) fun b u eb k => kp b u eb k _⟩
        exact p2 as2 _ σ a2 a1 (((er.ext e1 s.len).ext e2 s1.len).ext a2 s2.len)
      · exact p2.elim
    · exact p2.elim
  · exact p2.elim
theorem pS_fldSet {cs : List String} {f : Str} {e o : Expr} {pos pos' : Pos} {me mo : EM} (ho : PE X o (tI G W mo)) (he : PE X e (tI G W me)) (hK : G.K = X.K) (hcl : ∀ c, cs.contains c = true → ∀ C, G.cm c = some C → Cls G.K C ∧ NoAttr G.K C f)
    (hs : swapsWith e (some (.Attribute o f pos')) pos.line X.env = pure false := by rfl) : PS X (.Assign [.Attribute o f pos'] e pos) (tS G W (sFldSet cs f me mo)) :=
  (ps_fld ho he hs).vi fun De σ H h => by rw [← hK]; exact tS_fldSet hcl h

/-! ### a new container that becomes a cell within an expression -/
def evReg (m : EM) : EM := fun env st => (m env st).bind fun w st1 => match w with
  | .new d => .ok (.val (.ref st1.length)) (st1 ++ [some d])
  | .val _ => .stuck
theorem Post.bind0 {α β : Type} {Ex : XK} {r : Res α} {k : α → Store → Res β} {R : β → List Addr → Store → Hp → Prop} (h : Post G Ex as st H (r.bind k) R) : Post G Ex as st H r (fun a _ st1 _ => Post G Ex as st H (k a st1) R) := by
  cases r with
  | ok a st1 => exact fun _ _ _ _ => h
  | exc x st1 => exact h
  | stuck => exact h
theorem pI_reg {e : Expr} {m : EM} (h : PE X e (tI G W m)) : PE X e (tI G W (evReg m)) := h.vi fun σ H Q ⟨as, st, env, s, er, p⟩ =>
  ⟨as, st, env, s, er, p.bind0.mono fun w as1 st1 H1 e1 s1 p1 v r => by
    cases w with
    | val d => exact p1.elim
    | new d =>
      obtain ⟨q, rfl, e2, s2, r2⟩ := r.reg e1 s s1
      exact p1 _ H1 e2 s2 _ r2⟩

/-! ### min, max; is not of truths; a tuple some times -/
def fMaxMin (mx : Bool) (ds : List D) (st : Store) : Res Wv := match ds with
  | [.int i, .int j] => .ok (.val (.int (if mx then (if j > i then j else i) else (if j < i then j else i)))) st
  | _ => .stuck
theorem callS_max : CallS G E (fMaxMin true) (fun xs H Q => ∃ i j, xs = [.int i, .int j] ∧ Q (.int (if j > i then j else i)) H) := by
  intro E' as st H ds xs Q s r p
  unfold fMaxMin at p
  split at p
  · cases r with
    | cons r t =>
    cases t with
    | cons r2 t =>
    cases t; cases r; cases r2
    exact ⟨_, _, rfl, p.now s _ (.int _)⟩
  · exact p.elim
theorem callS_min : CallS G E (fMaxMin false) (fun xs H Q => ∃ i j, xs = [.int i, .int j] ∧ Q (.int (if j < i then j else i)) H) := by
  intro E' as st H ds xs Q s r p
  unfold fMaxMin at p
  split at p
  · cases r with
    | cons r t =>
    cases t with
    | cons r2 t =>
    cases t; cases r; cases r2
    exact ⟨_, _, rfl, p.now s _ (.int _)⟩
  · exact p.elim
def fIsnB (a b : D) (st : Store) : Res Wv := match a, b with
  | .bl i, .bl j => .ok (.val (.bl (!decide (i = j)))) st
  | _, _ => .stuck
theorem opS_isnB : OpS G E fIsnB (fun x y H Q => ∃ a b, x = .bl a ∧ y = .bl b ∧ Q (.bl (!decide (a = b))) H) := by
  intro E' as st H d1 d2 x y Q s r1 r2 p
  unfold fIsnB at p
  split at p
  · cases r1; cases r2
    exact ⟨_, _, rfl, rfl, p.now s _ (.bl _)⟩
  · exact p.elim
/-- ints multiplied (one small); a tuple repeated -/
def fMulT (a b : D) (st : Store) : Res Wv := match a, b with
  | .tup ds, .int k => if ds ≠ [] ∧ 2 ≤ k ∧ k ≤ 1000 ∧ ds.length ≤ 1000 then .ok (.val (.tup (List.replicate k.toNat ds).flatten)) st else .stuck
  | a, b => fMul a b st
theorem RelDs.rep {ds : List D} {vs : List V} (r : RelDs G as L H ds vs) : ∀ n : Nat, RelDs G as L H (List.replicate n ds).flatten (List.replicate n vs).flatten
  | 0 => .nil
  | n + 1 => by
    rw [List.replicate_succ, List.replicate_succ, List.flatten_cons, List.flatten_cons]
    exact r.append (RelDs.rep r n)
theorem opS_mulT : OpS G E fMulT (fun x y H Q => rI CMul (fun i j => .int (i * j)) x y H Q ∨ rRepT G.K x y H Q) := by
  intro E' as st H d1 d2 x y Q s r1 r2 p
  unfold fMulT at p
  split at p
  · split at p
    · rename_i h
      cases r2
      cases r1 with
      | @tup ds pa vs h1 hr =>
      exact .inr ⟨pa, _, vs, rfl, rfl, h1, fun z => h.1 (by
        have e := hr.length
        rw [z] at e
        exact List.eq_nil_of_length_eq_zero e), h.2.1, h.2.2.1, by rw [← hr.length]; exact h.2.2.2, fun t ht => p as _ (Ext.lay ht) (s.laid ht) _ (RelD.newTup s (hr.rep _) ht)⟩
    · exact p.elim
  · exact .inl (opS_mul (E := E) E' as st H _ _ x y Q s r1 r2 p)

/-! ### count, index, clear -/
def flatD : D → Bool
  | .non => true
  | .bl _ => true
  | .int _ => true
  | _ => false
theorem flat_lay : ∀ {ds : List D}, ds.all flatD = true → PyData.canLayAll0 (toPys ds) = true ∧ PyData.depthAll (toPys ds) = 0 ∧ isPys ds = true
  | [], _ => ⟨by simp [toPys, PyData.canLayAll0], by simp [toPys, PyData.depthAll], by simp [isPys]⟩
  | d :: ds, h => by
    simp only [List.all_cons, Bool.and_eq_true] at h
    obtain ⟨i1, i2, i3⟩ := flat_lay h.2
    cases d <;> simp_all [flatD, toPys, toPy, PyData.canLayAll0, PyData.canLay0, PyData.depthAll, PyData.depth, isPys, isPy]
theorem flat_one {d : D} (h : flatD d = true) : (toPy d).canLay0 = true ∧ (toPy d).depth = 0 ∧ isPy d = true := by
  cases d <;> simp_all [flatD, toPy, PyData.canLay0, PyData.depth, isPy]
def rCountD (K : PySem.W.Frag) : V → List V → Hp → VK → Prop := fun x xs H Q => ∃ (a : Addr) (y : V) (d : PyData) (ds : List PyData), x = V.ref a ∧ xs = [y] ∧ Dp K H (V.ref a) (.list ds) ∧ Dp K H y d ∧ PyData.canLayAll0 ds = true ∧ PyData.depthAll ds ≤ 30 ∧ d.canLay0 = true ∧
  Q (.int (ds.countP fun z => PyData.eqv z d : Nat)) H
theorem mt_countD (hu : X.A.units + 64 < cLine) : MtR X "list.count" (rCountD X.K) := by
  intro pins s σ H x xs v us Q I rx rxs h
  obtain ⟨a, y, d, ds, rfl, rfl, hl, hy, hxs, hdep, hd, q⟩ := h
  cases rx
  cases rxs with
  | cons ry rt =>
    rename_i uy ut
    cases rt
    obtain ⟨bs, r1⟩ := Dp.reads I d y uy hy ry
    cases hl with
    | lst hs ha =>
      obtain ⟨its, rv, ⟨⟨cls, dd, data, sls⟩, n, ho, hc, hdn, hdt⟩, hlen⟩ := I.list hs
      simp only at hc hdt
      subst hc hdt
      obtain ⟨as, h4⟩ := Dp.readsAll I ds _ its ha rv
      have hmap : its.map (SeqAt.readOf s.heap) = ds := SeqAt.readsAll_map ds its as hxs h4
      refine call_meets PySem.F.slot_list_count ⟨_, ho, rfl⟩ PySem.F.entry_list_count (PySem.F.args_list_count_2 _ _)
        (SeqAt.list_countAt a its.toArray n dd sls uy (fun u => PyData.eqv (SeqAt.readOf s.heap u) d)) ⟨ho, SeqAt.items_eqAt (vs := its.toArray) (show ReadsAll s.heap its.toArray.toList ds as from h4) r1 hxs hd (by omega), ?_⟩
      refine ⟨.int (ds.countP fun z => PyData.eqv z d : Nat), H, I.tok _, ⟨s.toks, ?_⟩, q⟩
      rw [← hmap, List.countP_map]
      rfl
def fCount (o : D) (ds : List D) (st : Store) : Res Wv := match ds with
  | [d] => match lstOf o st with
    | some (xs, _) => if (xs.all flatD && flatD d) = true then .ok (.val (.int (xs.countP fun z => eqD z d : Nat))) st else .stuck
    | none => .stuck
  | _ => .stuck
theorem mtS_count : MtS' G E fCount (rCountD G.K) := by
  intro E' as st H d ds x xs Q s r rs p
  unfold fCount at p
  split at p
  · rename_i d2
    cases rs with
    | cons r2 t =>
    cases t
    split at p
    · rename_i xs src hl
      split at p
      · rename_i hf
        rw [Bool.and_eq_true] at hf
        obtain ⟨pa, vs, rfl, h1, hr⟩ := lstOf_sq s r hl
        obtain ⟨f1, f2, f3⟩ := flat_lay hf.1
        obtain ⟨g1, g2, g3⟩ := flat_one hf.2
        refine ⟨pa, _, _, toPys xs, rfl, rfl, .lst h1 (hr.dp f3), r2.dp g3, f1, by rw [f2]; omega, g1, ?_⟩
        have e : (toPys xs).countP (fun z => PyData.eqv z (toPy d2)) = xs.countP fun z => eqD z d2 := by
          rw [toPys_map, List.countP_map]; rfl
        rw [e]
        exact p.now s _ (.int _)
      · exact p.elim
    · exact p.elim
  · exact p.elim
def fIndex (o : D) (ds : List D) (st : Store) : Res Wv := match ds with
  | [d] => match lstOf o st with
    | some (xs, _) => if (xs.all flatD && flatD d) = true then (match xs.findIdx? fun z => eqD z d with | some j => .ok (.val (.int (j : Nat))) st | none => .stuck) else .stuck
    | none => .stuck
  | _ => .stuck
theorem mtS_index : MtS' G E fIndex (rIndexD G.K) := by
  intro E' as st H d ds x xs Q s r rs p
  unfold fIndex at p
  split at p
  · rename_i d2
    cases rs with
    | cons r2 t =>
    cases t
    split at p
    · rename_i xs src hl
      split at p
      · rename_i hf
        rw [Bool.and_eq_true] at hf
        obtain ⟨pa, vs, rfl, h1, hr⟩ := lstOf_sq s r hl
        obtain ⟨f1, f2, f3⟩ := flat_lay hf.1
        obtain ⟨g1, g2, g3⟩ := flat_one hf.2
        split at p
        · rename_i j hj
          obtain ⟨hlt, hj1, hj2⟩ := List.findIdx?_eq_some_iff_getElem.mp hj
          have gj : (toPys xs)[j]? = some (toPy xs[j]) := by rw [toPys_map, List.getElem?_map, List.getElem?_eq_getElem hlt]; rfl
          refine ⟨pa, _, toPy d2, toPys xs, j, toPy xs[j], rfl, rfl, .lst h1 (hr.dp f3), r2.dp g3, ?_, ?_, gj, hj1, fun m z' hm hz => ?_, p.now s _ (.int _)⟩
          · unfold SeqAt.shaped
            simp [PyData.canLay0, PyData.depth, f1, f2]
          · unfold SeqAt.shaped
            simp [g1, g2]
          · have hml : m < xs.length := by omega
            rw [toPys_map, List.getElem?_map, List.getElem?_eq_getElem hml] at hz
            cases hz
            simpa [eqD] using hj2 m hm
        · exact p.elim
      · exact p.elim
    · exact p.elim
  · exact p.elim
end
end VI
namespace VI
open PySem PySem.Spec PyProof.Rows L2
/-! ### tables of any of the sizes that come: each slot is met -/
def orb (m : Nat) : Nat → Nat → List Nat
  | 0, _ => []
  | n + 1, x => x :: orb m n ((x * 5 + 1) % (m + 1))
theorem orb_mem (m : Nat) : ∀ (n a j : Nat), j ∈ orb m n (lcgN m a) → ∃ b, b < a + n ∧ lcgN m b = j
  | 0, _, _, h => nomatch h
  | n + 1, a, j, h => by
    rcases List.mem_cons.mp h with e | h
    · exact ⟨a, by omega, e.symm⟩
    · obtain ⟨b, hb, e⟩ := orb_mem m n (a + 1) j h
      exact ⟨b, by omega, e⟩
structure Full (m : Nat) : Prop where
  all : ∀ j, j ≤ m → ∃ b, b ≤ m ∧ lcgN m b = j
  round : lcgN m (m + 1) = 0
  odd : m % 2 = 1
theorem full_of {m : Nat} (h : ((List.range (m + 1)).all fun j => (orb m (m + 1) 0).contains j) = true) (r : lcgN m (m + 1) = 0) (o : m % 2 = 1) : Full m := by
  refine ⟨fun j hj => ?_, r, o⟩
  have q := List.all_eq_true.mp h j (List.mem_range.mpr (Nat.lt_succ_of_le hj))
  have q2 : j ∈ orb m (m + 1) 0 := by simpa using q
  obtain ⟨b, hb, e⟩ := orb_mem m (m + 1) 0 j q2
  exact ⟨b, by omega, e⟩
theorem full7 : Full 7 := full_of (by decide +kernel) (by decide +kernel) rfl
theorem full31 : Full 31 := full_of (by decide +kernel) (by decide +kernel) rfl
theorem full127 : Full 127 := full_of (by decide +kernel) (by decide +kernel) rfl
theorem full511 : Full 511 := full_of (by decide +kernel) (by decide +kernel) rfl
section
variable {m : Nat}
theorem Full.again (F : Full m) : ∀ k, lcgN m (m + 1 + k) = lcgN m k
  | 0 => F.round
  | k + 1 => congrArg (fun x => (x * 5 + 1) % (m + 1)) (F.again k)
theorem Full.any (F : Full m) {i j : Nat} (hi : i ≤ m) (hj : j ≤ m) : ∃ k, k ≤ m ∧ lcgI m i k = j := by
  obtain ⟨a, ha, rfl⟩ := F.all i hi
  obtain ⟨b, hb, rfl⟩ := F.all j hj
  by_cases c : a ≤ b
  · exact ⟨b - a, by omega, by rw [lcgN_add, Nat.add_sub_of_le c]⟩
  · refine ⟨b + (m + 1) - a, by omega, ?_⟩
    rw [lcgN_add, show a + (b + (m + 1) - a) = m + 1 + b by omega]
    exact F.again b
theorem Full.run (F : Full m) (h : Int) {j : Nat} (hj : j ≤ m) : ∃ n, n ≤ m + 12 ∧ runI m (SetTable.bits h) n = j := by
  obtain ⟨k, hk, e⟩ := F.any (runI_le m (SetTable.bits h) 12) hj
  exact ⟨12 + k, by omega, (runI_tail (bits_lt h) k).trans e⟩
theorem Full.meets (F : Full m) (h : Int) {j : Nat} (hj : j ≤ m) : ∃ k, k < 10 * SetTable.turns m ∧ way m h k = j := by
  obtain ⟨n, hn, e⟩ := F.run h hj
  obtain ⟨k, hk, e2⟩ := run_nth m (SetTable.bits h) n
  exact ⟨k, by simp only [SetTable.turns]; omega, (congrArg SetTable.Probe.j e2).trans e⟩
theorem way_in (m : Nat) (h : Int) (k : Nat) : way m h k ≤ m := by
  have hi : SetTable.bits h % (m + 1) ≤ m := Nat.le_of_lt_succ (Nat.mod_lt _ (Nat.succ_pos _))
  have r := (runEnd_bd hi).1
  have s := (runEnd_bd hi).2.1
  have q := nth_in k (runAt m (SetTable.bits h % (m + 1)) (SetTable.bits h)) (show SetTable.bits h % (m + 1) + (SetTable.runEnd m (SetTable.bits h % (m + 1)) - SetTable.bits h % (m + 1)) ≤ m by omega)
  exact Nat.le_trans (Nat.le_add_right _ _) q
end
/-- each entry is found on its hash's way -/
structure TabF (t : SetTable) (hs : List Int) : Prop where
  ris : Ris t.place.toList
  dm : t.dummies = #[]
  sz : t.place.toList.length = hs.length
  full : Full t.mask
  bd : ∀ x ∈ t.place.toList, x ≤ t.mask
  reach : ∀ (i : Nat) (h : Int) (j : Nat), hs[i]? = some h → t.place.toList[i]? = some j → ∃ k, way t.mask h k = j ∧ ∀ q, q < k → way t.mask h q ∈ t.place.toList
section
variable {t : SetTable} {hs : List Int}
theorem TabF.gap (T : TabF t hs) (hl : hs.length ≤ t.mask) (h : Int) : ∃ K, K < 10 * SetTable.turns t.mask ∧ way t.mask h K ∉ t.place.toList ∧ ∀ k, k < K → way t.mask h k ∈ t.place.toList := by
  obtain ⟨j, hj, hn⟩ := st_missing t.place.toList (t.mask + 1) (by rw [T.sz]; omega)
  obtain ⟨k, hk, e⟩ := T.full.meets h (Nat.le_of_lt_succ hj)
  obtain ⟨K, h1, h2, h3⟩ := st_least (p := fun k => way t.mask h k ∉ t.place.toList) k (by rw [e]; exact hn)
  exact ⟨K, Nat.lt_of_le_of_lt h1 hk, h2, fun q hq => Classical.not_not.mp (h3 q hq)⟩
theorem TabF.ahead (T : TabF t hs) {h : Int} {K i j : Nat} (hK : way t.mask h K ∉ t.place.toList) (hi : hs[i]? = some h) (hj : t.place.toList[i]? = some j) : ∃ k, k < K ∧ way t.mask h k = j := by
  obtain ⟨k, e, hb⟩ := T.reach i h j hi hj
  refine ⟨k, ?_, e⟩
  by_cases c : K < k
  · exact absurd (hb K c) hK
  · by_cases d : k = K
    · subst d
      rw [e] at hK
      exact absurd (List.mem_of_getElem? hj) hK
    · omega
theorem TabF.put (T : TabF t hs) {h : Int} {K p : Nat} (hp : SetTable.below t.place (way t.mask h K) = p) (hK : way t.mask h K ∉ t.place.toList) (hb : ∀ k, k < K → way t.mask h k ∈ t.place.toList) :
    p ≤ hs.length ∧ TabF (t.put (way t.mask h K)).1 (hs.take p ++ h :: hs.drop p) ∧ (t.put (way t.mask h K)).1.fill = hs.length + 1 := by
  have c1 := (below_cut T.ris (way t.mask h K)).1
  rw [hp] at c1
  have hpl : p ≤ t.place.toList.length := c1
  have hph : p ≤ hs.length := T.sz ▸ hpl
  have pp : (t.put (way t.mask h K)).1.place.toList = t.place.toList.take p ++ way t.mask h K :: t.place.toList.drop p := by
    rw [← hp]; exact put_place t _
  have dm := put_dm T.dm (way t.mask h K)
  have sz : (t.put (way t.mask h K)).1.place.toList.length = hs.length + 1 := by rw [pp, len_ins _ hpl, T.sz]
  have up : ∀ {x : Nat}, x ∈ t.place.toList → x ∈ (t.put (way t.mask h K)).1.place.toList := fun hx => by
    rw [pp]; exact mem_ins.mpr (.inr hx)
  refine ⟨hph, ⟨?_, dm, by rw [sz, len_ins _ hph], T.full, fun x hx => ?_, fun i g j h1 h2 => ?_⟩, ?_⟩
  · exact ris_insert T.ris fun e => hK (List.mem_of_getElem? (by rw [Array.getElem?_toList]; exact e))
  · rw [pp] at hx
    rcases mem_ins.mp hx with rfl | hx
    · exact way_in _ _ _
    · exact T.bd x hx
  · rw [tins_get hs hph] at h1
    rw [pp, tins_get _ hpl] at h2
    show ∃ k, way t.mask g k = j ∧ _
    split at h1
    · rename_i c
      rw [if_pos c] at h2
      obtain ⟨k, e, z⟩ := T.reach i g j h1 h2
      exact ⟨k, e, fun q hq => up (z q hq)⟩
    · rename_i c
      rw [if_neg c] at h2
      split at h1
      · rename_i d
        rw [if_pos d] at h2
        cases h1; cases h2
        exact ⟨K, rfl, fun q hq => up (hb q hq)⟩
      · rename_i d
        rw [if_neg d] at h2
        obtain ⟨k, e, z⟩ := T.reach (i - 1) g j h1 h2
        exact ⟨k, e, fun q hq => up (z q hq)⟩
  · show (t.put (way t.mask h K)).1.place.size + (t.put (way t.mask h K)).1.dummies.size = _
    rw [dm, ← Array.length_toList, sz]; rfl
end
/-! ### laid anew -/
section
variable {m : Nat}
theorem Full.free (F : Full m) (owner : Array (Option Nat)) (h : Int) {j : Nat} (hj : j ≤ m) (hf : oAt owner j = none) :
    ∃ K, SetTable.layClean.free m owner (SetTable.turns m) (SetTable.bits h % (m + 1)) (SetTable.bits h) = some (way m h K) ∧ oAt owner (way m h K) = none ∧ ∀ k, k < K → oAt owner (way m h k) ≠ none := by
  obtain ⟨n, hn, e⟩ := F.run h hj
  have hw : way m h (off m (SetTable.bits h % (m + 1)) (SetTable.bits h) n) = j := by
    unfold way
    rw [nth_off, itL_run]
    exact e
  obtain ⟨K, k1, k2, k3⟩ := st_least (p := fun k => oAt owner (way m h k) = none) _ (by rw [hw]; exact hf)
  refine ⟨K, free_spec m owner (SetTable.turns m) n _ _ K (by simp only [SetTable.turns]; omega) k1 (fun k hk => ?_) ?_, k2, k3⟩
  · have q := k3 k hk
    exact (by
      cases z : oAt owner (way m h k) with
      | none => exact absurd z q
      | some _ => rfl : (oAt owner (way m h k)).isNone = false)
  · show (oAt owner (way m h K)).isNone = true
    rw [k2]; rfl
/-- the places that are taken, after `done` -/
structure Held (m : Nat) (done : List Int) (owner : Array (Option Nat)) : Prop where
  sz : owner.size = m + 1
  who : ∀ j k, j ≤ m → oAt owner j = some k → ∃ h K, done[k]? = some h ∧ way m h K = j ∧ ∀ q, q < K → oAt owner (way m h q) ≠ none
  all : ∀ k, k < done.length → ∃ j, j ≤ m ∧ oAt owner j = some k
  ps : ∃ ps : List Nat, ps.length = done.length ∧ ∀ j, j ≤ m → oAt owner j ≠ none → j ∈ ps
theorem held0 (m : Nat) : Held m [] (Array.replicate (m + 1) none) :=
  ⟨by simp, fun j k hj e => (by rw [oAt_init hj] at e; cases e), fun k hk => absurd hk (Nat.not_lt_zero _), ⟨[], rfl, fun j hj e => absurd (oAt_init hj) e⟩⟩
theorem Held.more (F : Full m) {done : List Int} {owner : Array (Option Nat)} (W : Held m done owner) (hl : done.length ≤ m) (h : Int) :
    ∃ j, SetTable.layClean.free m owner (SetTable.turns m) (SetTable.bits h % (m + 1)) (SetTable.bits h) = some j ∧ Held m (done ++ [h]) (owner.setIfInBounds j (some done.length)) := by
  obtain ⟨ps, hps, hin⟩ := W.ps
  obtain ⟨j0, h0, hn0⟩ := st_missing ps (m + 1) (by omega)
  obtain ⟨K, e1, e2, e3⟩ := F.free owner h (Nat.le_of_lt_succ h0) (Classical.not_not.mp fun z => hn0 (hin j0 (Nat.le_of_lt_succ h0) z))
  have hm := way_in m h K
  refine ⟨way m h K, e1, ?_⟩
  have me := oAt_set_self (owner := owner) (j := way m h K) (some done.length) (by rw [W.sz]; omega)
  have up : ∀ i : Nat, oAt owner i ≠ none → oAt (owner.setIfInBounds (way m h K) (some done.length)) i ≠ none := fun i hi => by
    by_cases c : i = way m h K
    · rw [c, me]; exact fun z => nomatch z
    · rw [oAt_set_ne _ c]; exact hi
  refine ⟨by simp [W.sz], fun j k hj e => ?_, fun k hk => ?_, way m h K :: ps, by simp [hps], fun j hj e => ?_⟩
  · by_cases c : j = way m h K
    · rw [c, me] at e
      cases e
      exact ⟨h, K, by simp, c.symm, fun q hq => up _ (e3 q hq)⟩
    · rw [oAt_set_ne _ c] at e
      obtain ⟨g, K', a1, a2, a3⟩ := W.who j k hj e
      obtain ⟨hk, _⟩ := List.getElem?_eq_some_iff.mp a1
      exact ⟨g, K', by rw [List.getElem?_append_left hk]; exact a1, a2, fun q hq => up _ (a3 q hq)⟩
  · by_cases c : k < done.length
    · obtain ⟨j, hj, e⟩ := W.all k c
      refine ⟨j, hj, ?_⟩
      rw [oAt_set_ne _ fun z => by rw [z, e2] at e; cases e]
      exact e
    · have : k = done.length := by simp at hk; omega
      exact ⟨way m h K, hm, this ▸ me⟩
  · by_cases c : j = way m h K
    · exact c ▸ List.mem_cons_self
    · rw [oAt_set_ne _ c] at e
      exact List.mem_cons_of_mem _ (hin j hj e)
theorem held_all (F : Full m) : ∀ (rest done : List Int) (owner : Array (Option Nat)), Held m done owner → done.length + rest.length ≤ m →
    ∃ owner', rest.foldl (stepF m) (some (owner, done.length)) = some (owner', (done ++ rest).length) ∧ Held m (done ++ rest) owner'
  | [], done, owner, W, _ => ⟨owner, by simp, by simpa using W⟩
  | h :: rest, done, owner, W, hl => by
    simp only [List.length_cons] at hl
    obtain ⟨j, e, W'⟩ := W.more F (by omega) h
    obtain ⟨o2, f, W2⟩ := held_all F rest (done ++ [h]) _ W' (by simp; omega)
    have ea : done ++ [h] ++ rest = done ++ h :: rest := by simp
    rw [ea] at f W2
    exact ⟨o2, by rw [List.foldl_cons, stepF_some e]; simpa using f, W2⟩
theorem relaid_full (t : SetTable) {hs : Array Int} {wanted M : Nat} (hw : SetTable.sizeAbove wanted - 1 = M) (F : Full M) (hn : hs.size ≤ M) :
    ∃ t' order, t.relaid hs wanted = some (t', order) ∧ order.toList.Perm (List.range hs.size) ∧ TabF t' (order.toList.map fun i => hs.getD i 0) ∧ t'.mask = M ∧ t'.led = t.led ∧ t'.plain = t.plain := by
  obtain ⟨owner, f, W⟩ := held_all F hs.toList [] _ (held0 M) (by simpa using hn)
  have e : SetTable.layClean M hs = some owner := by
    rw [layClean_eq]
    exact congrArg (Option.map Prod.fst) f
  rw [List.nil_append] at W
  have hr : t.relaid hs wanted = some (tabOf t M owner, ((liveOf M owner).map (·.2)).toArray) := by rw [relaid_eq, hw, e]; rfl
  have ris := ris_live (fun j => owner.getD j none) (List.range (M + 1)) (by
    unfold Ris
    first | exact List.pairwise_lt_range | exact List.pairwise_lt_range _)
  have r1 : Ris ((liveOf M owner).map (·.1)) := ris.1
  have r2 : ∀ x ∈ (liveOf M owner).map (·.1), x ∈ List.range (M + 1) := ris.2
  have all2 : ∀ k, k < hs.size → k ∈ (liveOf M owner).map (·.2) := fun k hk => by
    obtain ⟨j, b1, b2⟩ := W.all k (by simpa using hk)
    exact List.mem_map.mpr ⟨(j, k), (mem_live W.sz).mpr ⟨b1, b2⟩, rfl⟩
  have nd : ((liveOf M owner).map (·.1)).Nodup := List.Pairwise.imp (fun h => Nat.ne_of_lt h) r1
  have hlen : (liveOf M owner).length = hs.size := by
    obtain ⟨ps, p1, p2⟩ := W.ps
    have a := nat_nodup_len ((liveOf M owner).map (·.1)) ps nd fun x hx => by
      obtain ⟨⟨y, k⟩, hq, rfl⟩ := List.mem_map.mp hx
      obtain ⟨b1, b2⟩ := (mem_live W.sz).mp hq
      exact p2 y b1 (by rw [b2]; exact fun z => nomatch z)
    have b := nat_nodup_len (List.range hs.size) ((liveOf M owner).map (·.2)) List.nodup_range fun k hk => all2 k (List.mem_range.mp hk)
    simp at a b p1
    omega
  refine ⟨_, _, hr, perm_range hs.size _ (by simp [hlen]) all2, ⟨r1, rfl, by simp [tabOf], F, fun x hx => Nat.le_of_lt_succ (List.mem_range.mp (r2 x hx)), fun i h j h1 h2 => ?_⟩, rfl, rfl, rfl⟩
  have h2' : ((liveOf M owner).map (·.1))[i]? = some j := h2
  rw [List.getElem?_map] at h1 h2'
  have h1 : Option.map (fun i => hs.getD i 0) ((liveOf M owner).map (·.2))[i]? = some h := h1
  rw [List.getElem?_map] at h1
  cases hq : (liveOf M owner)[i]? with
  | none => rw [hq] at h2'; cases h2'
  | some q =>
    obtain ⟨y, k⟩ := q
    rw [hq] at h1 h2'
    cases h2'
    have eh : hs.getD k 0 = h := Option.some.inj h1
    obtain ⟨b1, b2⟩ := (mem_live W.sz).mp (List.mem_of_getElem? hq)
    obtain ⟨h0, K, a1, a2, a3⟩ := W.who y k b1 b2
    have e0 : h0 = h := by
      rw [← eh, Array.getD_eq_getD_getElem?, ← Array.getElem?_toList, a1]; rfl
    subst e0
    refine ⟨K, a2, fun q hq => ?_⟩
    show way M h0 q ∈ (liveOf M owner).map (·.1)
    cases z : oAt owner (way M h0 q) with
    | none => exact absurd z (a3 q hq)
    | some k2 => exact List.mem_map.mpr ⟨(way M h0 q, k2), (mem_live W.sz).mpr ⟨way_in _ _ _, z⟩, rfl⟩
end
end VI
namespace VI
open PySem PySem.Spec PyProof.Rows L2
/-! ### sets of tuples, nested ones too -/
abbrev IsN (h : Heap) (k : NestedKey) (a : Addr) : Prop := NestedIs h k (.ref a) ∧ k.depth ≤ 8
section
variable {P : Program} {w : World} {A : Around} {E : Value → Shared → Prop} {s : Shared}
theorem IsN.obj {h : Heap} {k : NestedKey} {a : Addr} (x : IsN h k a) : ∃ o vs n ks, k = .tup ks ∧ h.get? a = some o ∧ o.cls = .type "tuple" ∧ o.data = .seq vs n ∧ NestedAll h ks vs.toList := by
  obtain ⟨x, _⟩ := x
  cases x with
  | tup h1 h2 h3 h4 => exact ⟨_, _, _, _, rfl, h1, h2, h3, h4⟩
theorem IsN.inj {h : Heap} {k k' : NestedKey} {a : Addr} (x : IsN h k a) (y : IsN h k' a) : k = k' := NestedIs.inj _ _ _ x.1 y.1
theorem IsN.keep {h h' : Heap} {k : NestedKey} {a : Addr} (x : IsN h k a) (hk : ∀ c o, h.get? c = some o → h'.get? c = some o) : IsN h' k a := ⟨NestedIs.at (fun b o vs n e _ => hk b o e) _ _ x.1, x.2⟩
theorem IsN.but {h h' : Heap} {k : NestedKey} {a b : Addr} {o : Obj} {es : Array (Int × Value)} {ep : Nat} {t : SetTable} (x : IsN h k b) (ho : h.get? a = some o) (hd : o.data = .set es ep t) (hs : Heap.SameBut a h h') : IsN h' k b := by
  refine ⟨NestedIs.at (fun c u vs n e d => ?_) _ _ x.1, x.2⟩
  have ne : c ≠ a := fun z => by
    subst z
    rw [ho] at e
    cases e
    rw [hd] at d
    cases d
  exact (hs.2 c ne).trans e
theorem hash_n {k : NestedKey} {a : Addr} {Q : Int → Shared → Prop} (hu : A.units + 8 < cLine) (x : IsN s.heap k a) (h : Q (k.hash w) { s with toks := s.toks + k.draws }) : wpAny (model P w) A (pyHash (.ref a)) Q E s :=
  (nestedKind P w).pyHash hu x h
theorem eq_n {k k' : NestedKey} {a b : Addr} {Q : Bool → Shared → Prop} (hu : A.units + 8 < cLine) (x : IsN s.heap k a) (y : IsN s.heap k' b) (h : Q (decide (k = k')) s) : wpAny (model P w) A (eqBool (.ref a) (.ref b)) Q E s :=
  (nestedKind P w).eqBool hu x y h
theorem quiet_n {k : NestedKey} {a : Addr} {Q : Bool → Shared → Prop} (x : IsN s.heap k a) (h : Q true s) : wpAny (model P w) A (eqIsQuiet 8 (.ref a)) Q E s := (nestedKind P w).quiet x h
def ClsNo (P : Program) (w : World) (n : Nat) (s : Shared) (v : Value) : Prop := ∀ (A : Around) (E : Value → Shared → Prop) (Q : Bool → Shared → Prop), Q false s → wpAny (model P w) A (ofAClassStatement n v) Q E s
theorem ClsNo.flat {n : Nat} {v : Value} (h : ofAClassStatement n v = pure false) : ClsNo P w n s v := fun A E Q q => by rw [h]; exact wpAny_pure q
theorem ClsNo.seq {n : Nat} {a : Addr} {o : Obj} {vs : Array Value} {m : Nat} (hob : s.heap.get? a = some o) (hcl : o.cls = .type "tuple") (hdt : o.data = .seq vs m) (hq : ∀ v ∈ vs.toList, ClsNo P w n s v) : ClsNo P w (n + 1) s (.ref a) := fun A E Q h => by
  have hT : s.TypeIs (.ref a) "tuple" := ⟨o, hob, hcl⟩
  unfold ofAClassStatement
  refine wpAny_bind (wpAny_typeOf hT ?_)
  have e : (("tuple" : String) == "tuple") = true := by decide
  simp only [e, if_true, Bool.not_true, Bool.false_eq_true, if_false]
  try refine wpAny_bind (wpAny_pure ?_)
  try simp only [Bool.not_true, Bool.false_eq_true, if_false]
  refine wpAny_bind (wpAny_seqItems hob hdt ?_)
  dsimp only
  refine wpAny_bind ?_
  show wpAny _ _ (forIn vs _ _) _ _ s
  rw [← Array.forIn_toList]
  refine wpAny_forIn_list _ (fun left r u => r.1 = none ∧ u = s ∧ ∀ v ∈ left, ClsNo P w n s v) _ ?_ ?_ _ _ ⟨rfl, rfl, hq⟩
  · rintro v left r u ⟨hr, rfl, hall⟩
    refine wpAny_bind (hall v List.mem_cons_self _ _ _ ?_)
    simp only [Bool.false_eq_true, if_false]
    exact wpAny_pure ⟨rfl, rfl, fun x hx => hall x (List.mem_cons_of_mem _ hx)⟩
  · rintro ⟨r1, r2⟩ u ⟨hr, rfl, _⟩
    simp only at hr
    subst hr
    exact wpAny_pure h
mutual
theorem cls_n : ∀ (k : NestedKey) (v : Value) (n : Nat), NestedIs s.heap k v → k.depth ≤ n → ClsNo P w n s v
  | .none, _, n, x, _ => by cases x; exact .flat (by cases n <;> rfl)
  | .num i, _, n, x, _ => by cases x <;> exact .flat (by cases n <;> rfl)
  | .text y, _, n, x, _ => by cases x; exact .flat (by cases n <;> rfl)
  | .tup ks, _, n, x, hn => by
    cases x with
    | tup hg hc hd hk =>
      simp only [NestedKey.depth] at hn
      cases n with
      | zero => omega
      | succ n => exact .seq hg hc hd (cls_ns ks _ n hk (by omega))
theorem cls_ns : ∀ (ks : List NestedKey) (vs : List Value) (n : Nat), NestedAll s.heap ks vs → NestedKey.depthAll ks ≤ n → ∀ v ∈ vs, ClsNo P w n s v
  | [], _, n, x, _, v, hv => by cases x; cases hv
  | k :: ks, _, n, x, hn, v, hv => by
    cases x with
    | cons x1 x2 =>
      simp only [NestedKey.depthAll] at hn
      rcases List.mem_cons.mp hv with rfl | hv
      · exact cls_n k _ n x1 (by omega)
      · exact cls_ns ks _ n x2 (by omega) v hv
end
/-- whether the hash goes by value: one of both answers -/
def ByV (P : Program) (w : World) (n : Nat) (s : Shared) (v : Value) : Prop := ∀ (A : Around) (E : Value → Shared → Prop) (Q : Bool → Shared → Prop), (∀ b, Q b s) → wpAny (model P w) A (hashByValue n v) Q E s
theorem ByV.flat {n : Nat} {v : Value} {b : Bool} (h : hashByValue n v = pure b) : ByV P w n s v := fun A E Q q => by rw [h]; exact wpAny_pure (q b)
theorem ByV.seq {n : Nat} {a : Addr} {o : Obj} {vs : Array Value} {m : Nat} (hob : s.heap.get? a = some o) (hcl : o.cls = .type "tuple") (hdt : o.data = .seq vs m) (hq : ∀ v ∈ vs.toList, ByV P w n s v) : ByV P w (n + 1) s (.ref a) := fun A E Q h => by
  have hT : s.TypeIs (.ref a) "tuple" := ⟨o, hob, hcl⟩
  unfold hashByValue
  refine wpAny_bind (wpAny_specialOf hT F.slot_tuple_hash.lookup ?_)
  show wpAny _ _ (seqItems? (.ref a) >>= _) _ _ s
  refine wpAny_bind (wpAny_seqItems hob hdt ?_)
  refine wpAny_bind ?_
  show wpAny _ _ (forIn vs _ _) _ _ s
  rw [← Array.forIn_toList]
  refine wpAny_forIn_list _ (fun left r u => r.1 = none ∧ u = s ∧ ∀ v ∈ left, ByV P w n s v) _ ?_ ?_ _ _ ⟨rfl, rfl, hq⟩
  · rintro v left r u ⟨hr, rfl, hall⟩
    refine wpAny_bind (hall v List.mem_cons_self _ _ _ fun b => ?_)
    cases b with
    | true =>
      simp only [Bool.not_true, Bool.false_eq_true, if_false]
      exact wpAny_pure ⟨rfl, rfl, fun x hx => hall x (List.mem_cons_of_mem _ hx)⟩
    | false =>
      simp only [Bool.not_false, if_true]
      exact wpAny_pure (wpAny_pure (h false))
  · rintro ⟨r1, r2⟩ u ⟨hr, rfl, _⟩
    simp only at hr
    subst hr
    exact wpAny_pure (h true)
mutual
theorem byv_n : ∀ (k : NestedKey) (v : Value) (n : Nat), NestedIs s.heap k v → k.depth ≤ n → ByV P w n s v
  | .none, _, n, x, _ => by cases x; exact .flat (b := true) (by cases n <;> rfl)
  | .num i, _, n, x, _ => by cases x <;> exact .flat (b := true) (by cases n <;> rfl)
  | .text y, _, n, x, _ => by cases x; exact .flat (b := false) (by cases n <;> rfl)
  | .tup ks, _, n, x, hn => by
    cases x with
    | tup hg hc hd hk =>
      simp only [NestedKey.depth] at hn
      cases n with
      | zero => omega
      | succ n => exact .seq hg hc hd (byv_ns ks _ n hk (by omega))
theorem byv_ns : ∀ (ks : List NestedKey) (vs : List Value) (n : Nat), NestedAll s.heap ks vs → NestedKey.depthAll ks ≤ n → ∀ v ∈ vs, ByV P w n s v
  | [], _, n, x, _, v, hv => by cases x; cases hv
  | k :: ks, _, n, x, hn, v, hv => by
    cases x with
    | cons x1 x2 =>
      simp only [NestedKey.depthAll] at hn
      rcases List.mem_cons.mp hv with rfl | hv
      · exact byv_n k _ n x1 (by omega)
      · exact byv_ns ks _ n x2 (by omega) v hv
end
theorem unseen_n {k : NestedKey} {b : Addr} {Q : Bool → Shared → Prop} (hx : IsN s.heap k b) {ys : List Value} (hy : ∀ y ∈ ys, ∃ k' c, y = Value.ref c ∧ IsN s.heap k' c) (h : Q false s) :
    wpAny (model P w) A (searchCouldBeSeen (.ref b) ys) Q E s := by
  unfold searchCouldBeSeen
  refine wpAny_bind ?_
  refine wpAny_forIn_list _ (fun left r u => r.1 = none ∧ u = s ∧ ∀ y ∈ left, ∃ k' c, y = Value.ref c ∧ IsN s.heap k' c) _ ?_ ?_ _ _ ⟨rfl, rfl, hy⟩
  · rintro v left r u ⟨hr, rfl, hall⟩
    obtain ⟨k', c, rfl, hc⟩ := hall v List.mem_cons_self
    have next : ∀ y ∈ left, ∃ k' c, y = Value.ref c ∧ IsN u.heap k' c := fun x m => hall x (List.mem_cons_of_mem _ m)
    dsimp only
    by_cases hv : (b == c || (carriedByValue (.ref b) && carriedByValue (.ref c))) = true
    · exact wp_if_pos hv (wpAny_pure ⟨rfl, rfl, next⟩)
    · refine wp_if_neg hv (wpAny_bind (quiet_n hx ?_))
      simp only [Bool.not_true, Bool.false_eq_true, if_false]
      refine wpAny_bind (quiet_n hc ?_)
      simp only [Bool.not_true, Bool.false_eq_true, if_false]
      refine wpAny_bind (cls_n _ _ 8 hx.1 hx.2 _ _ _ ?_)
      simp only [Bool.false_eq_true, if_false]
      refine wpAny_bind (cls_n _ _ 8 hc.1 hc.2 _ _ _ ?_)
      simp only [Bool.false_eq_true, if_false]
      exact wpAny_pure ⟨rfl, rfl, next⟩
  · rintro ⟨r1, r2⟩ u ⟨hr, rfl, _⟩
    simp only at hr
    subst hr
    exact wpAny_pure h

/-! ### the set -/
def rowsN (w : World) (L : List (Addr × NestedKey)) : List (Int × Value) := L.map fun p => (p.2.hash w, Value.ref p.1)
theorem rowsN_len (w : World) (L : List (Addr × NestedKey)) : (rowsN w L).length = L.length := List.length_map ..
def Masks (m n : Nat) : Prop := m = 7 ∧ n ≤ 4 ∨ m = 31 ∧ n ≤ 18 ∨ m = 127 ∧ n ≤ 76 ∨ m = 511 ∧ n ≤ 306
structure SetN (w : World) (h : Heap) (a : Addr) (L : List (Addr × NestedKey)) (es : Array (Int × Value)) (ep : Nat) (t : SetTable) : Prop where
  ob : ∃ o, h.get? a = some o ∧ o.ExactSet ∧ o.data = .set es ep t
  rows : es.toList = rowsN w L
  tab : TabF t (L.map fun p => p.2.hash w)
  nd : (L.map (·.2)).Nodup
  tup : ∀ p ∈ L, IsN h p.2 p.1
  led : w.params.followText "set-order" = true ∨ t.led = true
  msk : Masks t.mask L.length
variable {a : Addr} {L : List (Addr × NestedKey)} {es : Array (Int × Value)} {ep : Nat} {t : SetTable}
theorem SetN.size (R : SetN w s.heap a L es ep t) : es.size = L.length := by
  have h := congrArg List.length R.rows
  rw [rowsN_len] at h
  exact h
theorem Masks.room {m n : Nat} (h : Masks m n) : n ≤ m ∧ n < 307 ∧ m ≤ 511 ∧ n * 5 < m * 3 := by
  unfold Masks at h
  omega
theorem fits_n {L : List (Addr × NestedKey)} {es : Array (Int × Value)} {t : SetTable} (T : TabF t (L.map fun p => p.2.hash w)) (h : es.size = L.length) (hm : L.length ≤ t.mask) : t.fits es.size = true := by
  have h1 := T.sz
  simp only [List.length_map, Array.length_toList] at h1
  unfold SetTable.fits SetTable.fill
  rw [T.dm, Bool.and_eq_true, beq_iff_eq, decide_eq_true_eq]
  show t.place.size = es.size ∧ t.place.size + 0 ≤ t.mask
  omega
theorem SetN.fits (R : SetN w s.heap a L es ep t) : t.fits es.size = true := fits_n R.tab R.size R.msk.room.1
theorem SetN.at (R : SetN w s.heap a L es ep t) {i : Nat} {p : Addr × NestedKey} (h : L[i]? = some p) : es[i]? = some (p.2.hash w, Value.ref p.1) := by
  rw [← Array.getElem?_toList, R.rows, rowsN, List.getElem?_map, h]; rfl
theorem gw_n (T : TabF t (L.map fun p => p.2.hash w)) : ¬ t.gaveWay = true := by
  unfold SetTable.gaveWay
  rw [T.full.odd]
  decide
abbrev way0 (m : Nat) (h : Int) : SetTable.Probe := runAt m (SetTable.bits h % (m + 1)) (SetTable.bits h)
theorem nth_dummy (m : Nat) : ∀ (n : Nat) (p : SetTable.Probe), p.dummy = none → (nth m p n).dummy = none
  | 0, _, h => h
  | n + 1, p, h => nth_dummy m n (adv m p) (by unfold adv; split <;> exact h)
/-- the search, from the c-th step on -/
theorem seek (R : SetN w s.heap a L es ep t) {x : Addr} {k : NestedKey} (hx : IsN s.heap k x) (hu : A.units + 8 < cLine) {K : Nat} (hKf : K < 10 * SetTable.turns t.mask)
    (hK : way t.mask (k.hash w) K ∉ t.place.toList) (hKb : ∀ c, c < K → way t.mask (k.hash w) c ∈ t.place.toList) {Q : SetFound → Shared → Prop}
    (hin : k ∈ L.map (·.2) → Q (.there none) s) (hout : k ∉ L.map (·.2) → Q (.free (way t.mask (k.hash w) K) false) s) :
    ∀ (f c : Nat) (stand : Option SetTable.Probe), stand.getD (t.probeStart (k.hash w)) = nth t.mask (way0 t.mask (k.hash w)) c → c ≤ K → K - c < f →
      (∀ (i : Nat) p, L[i]? = some p → p.2 = k → ∃ d, c ≤ d ∧ d < K ∧ t.place.toList[i]? = some (way t.mask (k.hash w) d)) →
      wpAny (model P w) A (setSearchFrom a (.ref x) (k.hash w) true f stand) Q E s
  | 0, c, stand, _, _, hf, _ => absurd hf (Nat.not_lt_zero _)
  | f + 1, c, stand, hst, hc, hf, hre => by
    obtain ⟨ob, hob, hex, hdt⟩ := R.ob
    rw [setSearchFrom_succ]
    refine wpAny_bind (wpAny_setState_of hob hdt R.fits ?_)
    dsimp only
    refine wp_if_neg (gw_n R.tab) ?_
    try refine wpAny_bind (wpAny_pure ?_)
    have wq : ∀ q, (nth t.mask (nth t.mask (way0 t.mask (k.hash w)) c) q).j = way t.mask (k.hash w) (c + q) := fun q => congrArg SetTable.Probe.j (nth_add t.mask c _ q).symm
    have hcK : c + (K - c) = K := by omega
    have spec := go_spec t R.tab.ris R.tab.dm (fun i => (es[i]?.map (·.1)).getD 0) (k.hash w) (10 * SetTable.turns t.mask) (K - c) (nth t.mask (way0 t.mask (k.hash w)) c) (nth_dummy _ _ _ rfl) (by omega)
      (fun q hq => by rw [wq]; exact hKb _ (by omega)) (by rw [wq, hcK]; exact hK)
    have hashes : ∀ (i : Nat) p, L[i]? = some p → (fun i => (es[i]?.map (·.1)).getD 0) i = p.2.hash w := fun i p hp => by
      show (es[i]?.map (·.1)).getD 0 = _
      rw [R.at hp]; rfl
    rcases spec with ⟨q, i, hq, hi, hh, hno, hpr⟩ | ⟨hno, hpr⟩
    · have met : t.probe (fun i => (es[i]?.map (·.1)).getD 0) (k.hash w) (stand.getD (t.probeStart (k.hash w))) = some (.candidate (way t.mask (k.hash w) (c + q)) i (nth t.mask (way0 t.mask (k.hash w)) (c + (q + 1)))) := by
        rw [hst, ← wq, nth_add t.mask c (way0 t.mask (k.hash w)) (q + 1)]
        exact hpr
      rw [met]
      dsimp only
      rw [wq] at hi
      obtain ⟨p, hp⟩ : ∃ p, L[i]? = some p := by
        have h1 := (List.getElem?_eq_some_iff.mp hi).1
        have h2 := R.tab.sz
        rw [List.length_map] at h2
        exact ⟨_, List.getElem?_eq_getElem (h2 ▸ h1)⟩
      have hmem : p ∈ L := List.mem_of_getElem? hp
      have hsl := slot_live R.tab.ris hi
      have more : wpAny (model P w) A (searchRest a (.ref x) (k.hash w) true f es t (way t.mask (k.hash w) (c + q)) i (nth t.mask (way0 t.mask (k.hash w)) (c + (q + 1)))) Q E s := by
        unfold searchRest
        rw [R.at hp]
        dsimp only
        refine wpAny_bind (wpAny_holding (eq_n hu (R.tup p hmem) hx ?_))
        refine wpAny_bind (wpAny_setState_of hob hdt R.fits ?_)
        dsimp only
        by_cases hkk : p.2 = k
        · exact wp_if_pos (by simp [hkk]) (wpAny_pure (hin (List.mem_map.mpr ⟨p, hmem, hkk⟩)))
        · refine wp_if_neg (by simp [hkk]) ?_
          try refine wpAny_bind (wpAny_pure ?_)
          rw [sameMem]
          dsimp only
          simp only [if_true, hsl, R.at hp]
          refine wpAny_bind (wpAny_isSame_ref_self (wpAny_bind (wpAny_pure ?_)))
          simp only [if_true]
          refine wp_if_neg (by simp [hkk]) (seek R hx hu hKf hK hKb hin hout f (c + (q + 1)) _ rfl (by omega) (by omega) fun i0 p0 h0 hk0 => ?_)
          obtain ⟨d, d1, d2, d3⟩ := hre i0 p0 h0 hk0
          refine ⟨d, Classical.byContradiction fun hd => ?_, d2, d3⟩
          by_cases z : d = c + q
          · subst z
            have s0 := slot_live R.tab.ris d3
            rw [hsl] at s0
            cases s0
            rw [hp] at h0
            cases h0
            exact hkk hk0
          · refine hno (d - c) i0 (by omega) (by rw [wq, show c + (d - c) = d by omega]; exact d3) ((hashes i0 p0 h0).trans ?_)
            rw [hk0]
      by_cases hl : t.led = true
      · refine wp_if_neg (by simp [hl]) ?_
        try refine wpAny_bind (wpAny_pure ?_)
        exact more
      · refine wp_if_pos (by simp [hl]) (wpAny_bind (unseen_n hx (fun y hy => ?_) ?_))
        · obtain ⟨e, he, rfl⟩ := List.mem_map.mp hy
          have he2 : e ∈ es.toList := by
            have he1 : e ∈ es ∧ e.1 = k.hash w := by simpa using he
            simpa using he1.1
          rw [R.rows] at he2
          obtain ⟨p2, hp2, rfl⟩ := List.mem_map.mp he2
          exact ⟨p2.2, p2.1, rfl, R.tup p2 hp2⟩
        · refine wp_if_neg (by decide) ?_
          try refine wpAny_bind (wpAny_pure ?_)
          exact more
    · have met : t.probe (fun i => (es[i]?.map (·.1)).getD 0) (k.hash w) (stand.getD (t.probeStart (k.hash w))) = some (.empty (way t.mask (k.hash w) K) none) := by
        have e2 := wq (K - c)
        rw [hcK] at e2
        rw [hst, ← e2]
        exact hpr
      rw [met]
      dsimp only
      refine wpAny_pure (hout fun hm => ?_)
      obtain ⟨p0, h0, hk0⟩ := List.mem_map.mp hm
      obtain ⟨i0, hi0⟩ := List.getElem?_of_mem h0
      obtain ⟨d, d1, d2, d3⟩ := hre i0 p0 hi0 hk0
      refine hno (d - c) i0 (by omega) (by rw [wq, show c + (d - c) = d by omega]; exact d3) ((hashes i0 p0 hi0).trans ?_)
      rw [hk0]
theorem seek_all (R : SetN w s.heap a L es ep t) {x : Addr} {k : NestedKey} (hx : IsN s.heap k x) (hu : A.units + 8 < cLine) {Q : SetFound → Shared → Prop}
    (hin : k ∈ L.map (·.2) → Q (.there none) s)
    (hout : ∀ K, k ∉ L.map (·.2) → way t.mask (k.hash w) K ∉ t.place.toList → (∀ c, c < K → way t.mask (k.hash w) c ∈ t.place.toList) → Q (.free (way t.mask (k.hash w) K) false) s) :
    wpAny (model P w) A (setSearch a (.ref x) (k.hash w) true) Q E s := by
  have rm := R.msk.room
  obtain ⟨K, hKf, hK, hKb⟩ := R.tab.gap (by rw [List.length_map]; exact rm.1) (k.hash w)
  have few : K < 100000 := by
    simp only [SetTable.turns] at hKf
    omega
  unfold setSearch
  refine seek R hx hu hKf hK hKb hin (fun hn => hout K hn hK hKb) 100000 0 none rfl (Nat.zero_le _) (by omega) fun i p hp hk => ?_
  have hi : (L.map fun p => p.2.hash w)[i]? = some (k.hash w) := by rw [List.getElem?_map, hp, ← hk]; rfl
  have hil : i < t.place.toList.length := by
    rw [R.tab.sz]
    exact (List.getElem?_eq_some_iff.mp hi).1
  have hj := List.getElem?_eq_getElem hil
  obtain ⟨c, hc, e⟩ := R.tab.ahead hK hi hj
  exact ⟨c, Nat.zero_le _, hc, by rw [hj, e]⟩
end
end VI
namespace VI
open PySem PySem.Spec PyProof.Rows L2
section
variable {P : Program} {w : World} {A : Around} {E : Value → Shared → Prop} {s : Shared}
variable {a : Addr} {L : List (Addr × NestedKey)} {es : Array (Int × Value)} {ep : Nat} {t : SetTable}
theorem filter_get {α : Type} (L : List α) : ∀ n, n ≤ L.length → (List.range n).filterMap (fun i => L[i]?) = L.take n
  | 0, _ => rfl
  | n + 1, h => by
    rw [List.range_succ, List.filterMap_append, filter_get L n (Nat.le_of_succ_le h), List.take_succ, List.getElem?_eq_getElem (show n < L.length from h)]
    simp [List.getElem?_eq_getElem (show n < L.length from h)]
theorem order_n {order : Array Nat} (hr : es.toList = rowsN w L) (hp : order.toList.Perm (List.range L.length)) :
    ∃ L2, (order.filterMap (es[·]?)).toList = rowsN w L2 ∧ L2.Perm L ∧ (L2.map fun p => p.2.hash w) = order.toList.map fun i => (es.map (·.1)).getD i 0 := by
  have ent : ∀ i, es[i]? = (L[i]?).map fun (p : Addr × NestedKey) => (p.2.hash w, Value.ref p.1) := fun i => by rw [← Array.getElem?_toList, hr, rowsN, List.getElem?_map]
  have key : ∀ l : List Nat, (∀ i ∈ l, i < L.length) → l.filterMap (fun i => es[i]?) = rowsN w (l.filterMap fun i => L[i]?) ∧ ((l.filterMap fun i => L[i]?).map fun (p : Addr × NestedKey) => p.2.hash w) = l.map fun i => (es.map (·.1)).getD i 0 := by
    intro l
    induction l with
    | nil => exact fun _ => ⟨rfl, rfl⟩
    | cons i l ih =>
      intro hl
      obtain ⟨e1, e2⟩ := ih fun j hj => hl j (List.mem_cons_of_mem _ hj)
      have hi := List.getElem?_eq_getElem (hl i List.mem_cons_self)
      have he := ent i
      rw [hi] at he
      refine ⟨?_, ?_⟩
      · rw [List.filterMap_cons_some he, List.filterMap_cons_some hi, e1]; rfl
      · rw [List.filterMap_cons_some hi, List.map_cons, List.map_cons, e2]
        have e5 : (es.map (·.1))[i]? = some ((L[i]'(hl i List.mem_cons_self)).2.hash w) := by rw [Array.getElem?_map, he]; rfl
        simp [Array.getD_eq_getD_getElem?, e5]
  obtain ⟨e1, e2⟩ := key order.toList fun i hi => List.mem_range.mp (hp.mem_iff.mp hi)
  refine ⟨_, by first | (rw [Array.toList_filterMap]; exact e1) | simpa using e1, ?_, e2⟩
  have h1 := hp.filterMap fun i => L[i]?
  rw [filter_get L L.length (Nat.le_refl _), List.take_length] at h1
  exact h1
/-- the table laid anew -/
theorem relay_n {ob : Obj} (hob : s.heap.get? a = some ob) (hex : ob.ExactSet) (hdt : ob.data = .set es ep t) (hrows : es.toList = rowsN w L) (T : TabF t (L.map fun p => p.2.hash w)) (hfl : L.length ≤ t.mask)
    (nd : (L.map (·.2)).Nodup) (tup : ∀ p ∈ L, IsN s.heap p.2 p.1) (ld : w.params.followText "set-order" = true ∨ t.led = true) {wanted M : Nat}
    (hw : SetTable.sizeAbove wanted - 1 = M) (hM : Full M) (hw2 : SetTable.sizeAbove wanted ≤ 512) (hn : Masks M L.length) {Q : Unit → Shared → Prop}
    (hQ : ∀ h' L' es' ep' t', Heap.SameBut a s.heap h' → SetN w h' a L' es' ep' t' → L'.Perm L → Q () { s with heap := h' }) : wpAny (model P w) A (setRelay a wanted) Q E s := by
  have hsl : es.size = L.length := by
    have h := congrArg List.length hrows
    rw [rowsN_len] at h
    exact h
  have rm := hn.room
  obtain ⟨t', order, e, hp, T', em, el, _⟩ := relaid_full t (hs := es.map (·.1)) (wanted := wanted) hw hM (by rw [Array.size_map, hsl]; exact rm.1)
  rw [Array.size_map, hsl] at hp
  obtain ⟨L2, r1, r2, r3⟩ := order_n hrows hp
  rw [← r3] at T'
  have hs2 : (order.filterMap (es[·]?)).size = es.size := by
    have h := congrArg List.length r1
    rw [rowsN_len, r2.length_eq] at h
    rw [hsl]; exact h
  rw [setRelay_eq]
  refine wpAny_bind (wpAny_setState_of hob hdt (fits_n T hsl hfl) ?_)
  dsimp only
  refine wp_if_neg (by rw [sizeLine_eq]; omega) ?_
  try refine wpAny_bind (wpAny_pure ?_)
  rw [e]
  dsimp only
  refine wpAny_bind (wp_if_neg (by rw [hs2]; simp) ?_)
  try refine wpAny_bind (wpAny_pure ?_)
  refine wpAny_pure ?_
  dsimp only
  refine wpAny_storeSet_of hob hdt ?_ (by rw [hs2, hsl, sizeLine_eq]; omega)
  have sb : Heap.SameBut a s.heap (s.heap.update a (Obj.putSet (order.filterMap (es[·]?)) t')) := Heap.SameBut.update ..
  exact hQ _ L2 _ (ep + 1) t' sb ⟨⟨_, store_at hob hdt, ⟨hex.1, hex.2.1, hex.2.2⟩, rfl⟩, r1, T', (r2.map (·.2)).nodup_iff.mpr nd, fun p hpm => (tup p (r2.mem_iff.mp hpm)).but hob hdt sb, by rw [el]; exact ld, by rw [em, r2.length_eq]; exact hn⟩ r2
theorem above20 : SetTable.sizeAbove (SetTable.grown 5) = 32 := by decide +kernel
theorem above76 : SetTable.sizeAbove (SetTable.grown 19) = 128 := by decide +kernel
theorem above308 : SetTable.sizeAbove (SetTable.grown 77) = 512 := by decide +kernel
/-- one put in -/
theorem add_n (R : SetN w s.heap a L es ep t) {x : Addr} {k : NestedKey} (hx : IsN s.heap k x) (hu : A.units + 8 < cLine) (hfew : L.length + 1 < 307) {Q : Bool → Shared → Prop}
    (hQ : ∀ b h' L' es' ep' t', Heap.SameBut a s.heap h' → SetN w h' a L' es' ep' t' → (k ∈ L.map (·.2) → L' = L) → (k ∉ L.map (·.2) → L'.Perm ((x, k) :: L)) → Q b { s with heap := h' }) :
    wpAny (model P w) A (setAddHashed a (.ref x) (k.hash w)) Q E s := by
  obtain ⟨ob, hob, hex, hdt⟩ := R.ob
  have hsl := R.size
  have rm := R.msk.room
  unfold setAddHashed
  refine wpAny_holding ?_
  rw [show (100000 : Nat) = 99999 + 1 from rfl, setAddHashedIn_succ]
  refine wpAny_bind (wpAny_setState_of hob hdt R.fits ?_)
  dsimp only
  refine wp_if_neg (by simp [byScan, Value.scannable]) ?_
  try refine wpAny_bind (wpAny_pure ?_)
  refine wpAny_bind (seek_all R hx hu (fun hm => ?_) fun K hm hK hb => ?_)
  · dsimp only
    exact wpAny_pure (hQ false s.heap L es ep t (Heap.SameBut.refl a s.heap) R (fun _ => rfl) fun z => absurd hm z)
  · dsimp only
    refine wpAny_bind (wpAny_setState_of hob hdt R.fits ?_)
    dsimp only
    obtain ⟨p, hpe⟩ : ∃ p, SetTable.below t.place (way t.mask (k.hash w) K) = p := ⟨_, rfl⟩
    obtain ⟨q2, q3, q9⟩ := R.tab.put hpe hK hb
    have q1 : (t.put (way t.mask (k.hash w) K)).2 = p := hpe
    have q4 : (t.put (way t.mask (k.hash w) K)).1.mask = t.mask := rfl
    have q5 : (t.put (way t.mask (k.hash w) K)).1.led = t.led := rfl
    generalize hpt : t.put (way t.mask (k.hash w) K) = pt at q1 q3 q4 q5 q9 ⊢
    obtain ⟨t0, p'⟩ := pt
    dsimp only at q1 q3 q4 q5 q9 ⊢
    subst q1
    have rest : ∀ bv : Bool, ∀ t1 : SetTable, (t1 = if bv = true then t0 else { t0 with plain := false }) →
        wpAny (model P w) A (do
          storeSet a (SetTable.insertAt es p' (k.hash w, Value.ref x)) t1
          if (!false && t1.tooFull) = true then setRelay a (SetTable.grown (es.size + 1))
          return true) Q E s := by
      intro bv t1 ht1
      have f1 : TabF t1 ((L.map fun p => p.2.hash w).take p' ++ k.hash w :: (L.map fun p => p.2.hash w).drop p') := by
        rw [ht1]; split
        · exact q3
        · exact ⟨q3.ris, q3.dm, q3.sz, q3.full, q3.bd, q3.reach⟩
      have f2 : t1.mask = t.mask ∧ t1.led = t.led ∧ t1.fill = (L.map fun p => p.2.hash w).length + 1 := by
        rw [ht1]; split
        · exact ⟨q4, q5, q9⟩
        · exact ⟨q4, q5, q9⟩
      obtain ⟨m1, l1, fl1⟩ := f2
      have hin : (SetTable.insertAt es p' (k.hash w, Value.ref x)).toList = rowsN w (L.take p' ++ (x, k) :: L.drop p') := by
        rw [SetTable.toList_insertAt, R.rows]
        simp [rowsN]
      have pm : (L.take p' ++ (x, k) :: L.drop p').Perm ((x, k) :: L) := put_perm L p' (x, k)
      have hlen := pm.length_eq
      rw [List.length_cons] at hlen
      have hhs : (L.take p' ++ (x, k) :: L.drop p').map (fun p => p.2.hash w) = (L.map fun p => p.2.hash w).take p' ++ k.hash w :: (L.map fun p => p.2.hash w).drop p' := by simp
      rw [← hhs] at f1
      have nd1 : ((L.take p' ++ (x, k) :: L.drop p').map (·.2)).Nodup := (pm.map (·.2)).nodup_iff.mpr (List.nodup_cons.mpr ⟨hm, R.nd⟩)
      have hes : (SetTable.insertAt es p' (k.hash w, Value.ref x)).size = L.length + 1 := by
        have h := congrArg List.length hin
        rw [rowsN_len, hlen] at h
        exact h
      generalize SetTable.insertAt es p' (k.hash w, Value.ref x) = es1 at hin hes ⊢
      generalize L.take p' ++ (x, k) :: L.drop p' = L1 at pm hlen f1 nd1 hin
      refine wpAny_bind (wpAny_storeSet_of hob hdt ?_ (by rw [hes, sizeLine_eq]; omega))
      have sb : Heap.SameBut a s.heap (s.heap.update a (Obj.putSet es1 t1)) := Heap.SameBut.update ..
      have ho1 := store_at (es' := es1) (t' := t1) hob hdt
      generalize s.heap.update a (Obj.putSet es1 t1) = h1 at sb ho1 ⊢
      have tup1 : ∀ p ∈ L1, IsN h1 p.2 p.1 := fun p hp => by
        rcases List.mem_cons.mp (pm.mem_iff.mp hp) with rfl | hp
        · exact hx.but hob hdt sb
        · exact (R.tup p hp).but hob hdt sb
      have ld1 : w.params.followText "set-order" = true ∨ t1.led = true := by rw [l1]; exact R.led
      have full : t1.tooFull = decide ((L.length + 1) * 5 ≥ t.mask * 3) := by
        unfold SetTable.tooFull
        rw [fl1, List.length_map, m1]
      have msk := R.msk
      unfold Masks at msk
      by_cases hf : (L.length + 1) * 5 ≥ t.mask * 3
      · have hf1 : t1.tooFull = true := by rw [full, decide_eq_true hf]
        have go : ∀ M, SetTable.sizeAbove (SetTable.grown (es.size + 1)) - 1 = M → Full M → SetTable.sizeAbove (SetTable.grown (es.size + 1)) ≤ 512 → Masks M L1.length →
            wpAny (model P w) A (setRelay a (SetTable.grown (es.size + 1))) (fun _ s' => wpAny (model P w) A (pure true) Q E s') E { s with heap := h1 } := fun M g1 g2 g3 g4 =>
          relay_n (s := { s with heap := h1 }) ho1 ⟨hex.1, hex.2.1, hex.2.2⟩ rfl hin f1 (by rw [hlen, m1]; omega) nd1 tup1 ld1 g1 g2 g3 g4 fun h2 L2 es2 ep2 t2 sb2 R2 pm2 =>
            wpAny_pure (hQ true h2 L2 es2 ep2 t2 (sb.trans sb2) R2 (fun z => absurd z hm) fun _ => pm2.trans pm)
        have done : wpAny (model P w) A (setRelay a (SetTable.grown (es.size + 1))) (fun _ s' => wpAny (model P w) A (pure true) Q E s') E { s with heap := h1 } := by
          rw [hsl] at go ⊢
          unfold Masks at go
          rcases msk with ⟨e, e2⟩ | ⟨e, e2⟩ | ⟨e, e2⟩ | ⟨e, e2⟩
          · have e3 : L.length = 4 := by omega
            exact go 31 (by rw [e3, above20]) full31 (by rw [e3, above20]; decide) (by omega)
          · have e3 : L.length = 18 := by omega
            exact go 127 (by rw [e3, above76]) full127 (by rw [e3, above76]; decide) (by omega)
          · have e3 : L.length = 76 := by omega
            exact go 511 (by rw [e3, above308]) full511 (by rw [e3, above308]; decide) (by omega)
          · omega
        first
          | exact wpAny_bind (wp_if_pos (by simp [hf1]) done)
          | exact wp_if_pos (by simp [hf1]) (wpAny_bind done)
      · have hf1 : t1.tooFull = false := by rw [full, decide_eq_false hf]
        have fine : Q true { s with heap := h1 } := hQ true h1 L1 es1 (ep + 1) t1 sb ⟨⟨_, ho1, ⟨hex.1, hex.2.1, hex.2.2⟩, rfl⟩, hin, f1, nd1, tup1, ld1, by unfold Masks; rw [hlen, m1]; omega⟩ (fun z => absurd z hm) fun _ => pm
        first
          | exact wp_if_neg (by simp [hf1]) (wpAny_pure fine)
          | exact wpAny_bind (wp_if_neg (by simp [hf1]) (wpAny_pure (wpAny_pure fine)))
    by_cases hpl : t0.plain = true
    · first
        | (refine wpAny_bind ?_; refine wp_if_pos hpl ?_; refine byv_n _ _ 8 hx.1 hx.2 _ _ _ fun b => ?_; exact rest b _ rfl)
        | exact wp_if_pos hpl (wpAny_bind (byv_n _ _ 8 hx.1 hx.2 _ _ _ fun b => rest b _ rfl))
    · first
        | (refine wpAny_bind ?_; refine wp_if_neg hpl ?_; refine wpAny_pure ?_; exact rest true _ rfl)
        | exact wp_if_neg hpl (wpAny_bind (wpAny_pure (rest true _ rfl)))
        | exact wp_if_neg hpl (rest true _ rfl)
end
end VI
namespace VI
open PySem PySem.Spec PyProof.Rows L2
/-- what the set has of the first i items -/
structure Had (ps : List (Addr × NestedKey)) (i : Nat) (L : List (Addr × NestedKey)) : Prop where
  sub : ∀ p ∈ L, p ∈ ps.take i
  all : ∀ p ∈ ps.take i, p.2 ∈ L.map (·.2)
  len : L.length ≤ i
theorem had0 (ps : List (Addr × NestedKey)) : Had ps 0 [] := ⟨fun p h => (by cases h), fun p h => (by simp at h), Nat.le_refl _⟩
theorem Had.same {ps L : List (Addr × NestedKey)} {i : Nat} {x : Addr × NestedKey} (g : Had ps i L) (h : ps[i]? = some x) (hm : x.2 ∈ L.map (·.2)) : Had ps (i + 1) L := by
  refine ⟨fun p hp => ?_, fun p hp => ?_, Nat.le_succ_of_le g.len⟩
  · rw [take_next h]; exact List.mem_append_left _ (g.sub p hp)
  · rw [take_next h] at hp
    rcases List.mem_append.mp hp with z | z
    · exact g.all p z
    · cases List.mem_singleton.mp z; exact hm
theorem Had.more {ps L L' : List (Addr × NestedKey)} {i : Nat} {x : Addr × NestedKey} (g : Had ps i L) (h : ps[i]? = some x) (pm : L'.Perm (x :: L)) : Had ps (i + 1) L' := by
  refine ⟨fun p hp => ?_, fun p hp => ?_, by rw [pm.length_eq]; exact Nat.succ_le_succ g.len⟩
  · rw [take_next h]
    rcases List.mem_cons.mp (pm.mem_iff.mp hp) with rfl | z
    · exact List.mem_append_right _ (by simp)
    · exact List.mem_append_left _ (g.sub p z)
  · rw [(pm.map (·.2)).mem_iff, List.map_cons]
    rw [take_next h] at hp
    rcases List.mem_append.mp hp with z | z
    · exact List.mem_cons_of_mem _ (g.all p z)
    · cases List.mem_singleton.mp z; exact List.mem_cons_self
abbrev newSet (w : World) : Obj := { cls := .type "set", dict := none, data := .set #[] 0 (.fresh 0 0 (!w.params.followText "set-order")) }
section
variable {P : Program} {w : World} {A : Around} {E : Value → Shared → Prop} {s : Shared}
theorem SetN.keep {h h' : Heap} {a : Addr} {L : List (Addr × NestedKey)} {es : Array (Int × Value)} {ep : Nat} {t : SetTable} (R : SetN w h a L es ep t) (ha : ∀ o, h.get? a = some o → h'.get? a = some o) (ht : ∀ p ∈ L, IsN h' p.2 p.1) : SetN w h' a L es ep t := by
  obtain ⟨o, ho, r⟩ := R.ob
  exact ⟨⟨o, ha o ho, r⟩, R.rows, R.tab, R.nd, ht, R.led, R.msk⟩
theorem newSet_n {h : Heap} {a : Addr} (ho : h.get? a = some (newSet w)) : SetN w h a [] #[] 0 (.fresh 0 0 (!w.params.followText "set-order")) := by
  refine ⟨⟨_, ho, ⟨rfl, rfl, rfl⟩, rfl⟩, rfl, ⟨List.Pairwise.nil, rfl, rfl, full7, fun x hx => (by cases hx), fun i h j hi => (by simp at hi)⟩, List.nodup_nil, fun p hp => (by cases hp), ?_, .inl ⟨rfl, Nat.zero_le _⟩⟩
  show _ ∨ (!w.params.followText "set-order") = true
  cases w.params.followText "set-order"
  · exact .inr rfl
  · exact .inl rfl
/-- the loop that fills it -/
theorem fill_n {I : Addr} {fp wr : List Addr} {G : Array GenState → Array GenState → Prop} {n : Nat} {Pv : Nat → Value → Prop} {St : Nat → Shared → Prop} {R : Result → Shared → Prop}
    (W : WalksS P w A.in1 I fp wr G n Pv St) (S : Addr) (hSf : S ∉ fp) (ps : List (Addr × NestedKey)) (hn : n = ps.length) (hfew : ps.length < 307) (getv : ∀ i v, Pv i v → ∃ p, ps[i]? = some p ∧ v = .ref p.1)
    (h0 : Heap) (hk : ∀ p ∈ ps, IsN h0 p.2 p.1) (hS0 : h0.get? S = none) (hw0 : ∀ b ∈ wr, h0.get? b = none) (hu : A.in1.units + 8 < cLine) :
    ∀ (k i : Nat) (s : Shared), n - i = k → i ≤ n → St i s → (∀ b o, h0.get? b = some o → s.heap.get? b = some o) → (∃ L es ep t, SetN w s.heap S L es ep t ∧ Had ps i L) →
      (∀ s' L es ep t, Moved (S :: wr) G s s' → SetN w s'.heap S L es ep t → Had ps n L → (∀ b o, h0.get? b = some o → s'.heap.get? b = some o) → R (.ok (.ret .none)) s') →
      codeAny (model P w) A (.builtin "set.update.loop" ⟨[.ref S, .ref I], []⟩) R s := by
  have hSw : S ∉ wr := fun h => hSf (W.sub _ h)
  have wide : ∀ b ∈ wr, b ∈ S :: wr := fun b hb => List.mem_cons_of_mem _ hb
  have moved : ∀ {s s' : Shared}, Moved wr G s s' → (∀ b o, h0.get? b = some o → s.heap.get? b = some o) → ∀ b o, h0.get? b = some o → s'.heap.get? b = some o := fun hm old b o e =>
    hm.heap b o (fun hb => by rw [hw0 b hb] at e; cases e) (old b o e)
  intro k
  induction k with
  | zero =>
    intro i s hk' hi hst old ⟨L, es, ep, t, hS, g⟩ hR
    obtain rfl : i = n := by omega
    refine codeAny_builtin F.entry_set_update_loop ?_
    rw [Around.under_plainId F.plain_set_update_loop _]
    refine wpAny_bind (W.done s _ _ hst fun s' hm => ?_)
    have old' := moved hm old
    have sub : ∀ p ∈ L, p ∈ ps := fun p hp => List.mem_of_mem_take (g.sub p hp)
    exact wpAny_pure (hR s' L es ep t (hm.mono wide) (hS.keep (fun o e => hm.heap S o hSw e) fun p hp => (hk p (sub p hp)).keep old') g old')
  | succ k ih =>
    intro i s hk' hi hst old ⟨L, es, ep, t, hS, g⟩ hR
    have hlt : i < n := by omega
    refine codeAny_builtin F.entry_set_update_loop ?_
    rw [Around.under_plainId F.plain_set_update_loop _]
    refine wpAny_bind (W.item i s _ _ hlt hst fun v s' hP hst' hm => ?_)
    obtain ⟨p, hp, rfl⟩ := getv i v hP
    have old' := moved hm old
    have sub : ∀ p ∈ L, p ∈ ps := fun p hp => List.mem_of_mem_take (g.sub p hp)
    have hS' : SetN w s'.heap S L es ep t := hS.keep (fun o e => hm.heap S o hSw e) fun q hq => (hk q (sub q hq)).keep old'
    have hx : IsN s'.heap p.2 p.1 := (hk p (List.mem_of_getElem? hp)).keep old'
    show wpAny _ A.in1 (holding [Value.ref p.1] (setAdd S (.ref p.1)) >>= _) _ _ s'
    refine wpAny_bind (wpAny_holding ?_)
    unfold setAdd
    refine wpAny_holding (wpAny_bind (hash_n hu hx ?_))
    refine add_n (s := { s' with toks := s'.toks + p.2.draws }) hS' hx hu (by have := g.len; omega) fun b h' L' es' ep' t' hsb hS2 c1 c2 => ?_
    have g' : Had ps (i + 1) L' := by
      by_cases c : p.2 ∈ L.map (·.2)
      · rw [c1 c]; exact g.same hp c
      · exact g.more hp (c2 c)
    have old2 : ∀ b o, h0.get? b = some o → h'.get? b = some o := fun b o e => (hsb.2 b (fun z => by rw [z, hS0] at e; cases e)).trans (old' b o e)
    refine wpAny_pure ⟨plainId_quiet F.plain_set_update_loop _, ih (i + 1) _ (by omega) hlt (W.frame _ s' _ _ hst' (Nat.le_add_right _ _) fun b hb o e => ?_) old2 ⟨L', es', ep', t', hS2, g'⟩ fun s2 L2 es2 ep2 t2 hm2 hS3 g2 old3 => ?_⟩
    · rw [hsb.2 b (fun z : b = S => hSf (by rw [← z]; exact hb))]; exact e
    · refine hR s2 L2 es2 ep2 t2 (Moved.trans W.gtrans ((hm.mono wide).then_heap (Nat.le_add_right _ _) fun b o hb e => ?_) hm2) hS3 g2 old3
      rw [hsb.2 b (fun z : b = S => hb (by rw [z]; exact List.mem_cons_self))]; exact e
/-- what the loop of set(xs) is to bring about -/
def Fills (P : Program) (w : World) (s : Shared) (u n : Nat) (Pv : Nat → Value → Prop) (GG : Heap → Prop) : Prop :=
  ∀ {A' : Around} {I : Addr} {fp wr : List Addr} {G : Array GenState → Array GenState → Prop} {St : Nat → Shared → Prop} (W : WalksS P w A'.in1 I fp wr G n Pv St) (s0 : Shared) (R : Result → Shared → Prop),
    s.heap.objs.size ∉ fp → (∀ b ∈ wr, s.heap.get? b = none) → A'.units ≤ u + 8 → A'.in1.handled = none → St 0 s0 → s0.heap.get? s.heap.objs.size = some (newSet w) → (∀ b o, s.heap.get? b = some o → s0.heap.get? b = some o) →
    (∀ s', Moved (s.heap.objs.size :: wr) G s0 s' → GG s'.heap → (∀ b o, s.heap.get? b = some o → s'.heap.get? b = some o) → R (.ok (.ret .none)) s') →
    codeAny (model P w) A' (.builtin "set.update.loop" ⟨[.ref s.heap.objs.size, .ref I], []⟩) R s0
theorem free_size {h : Heap} {b : Addr} (hb : h.objs.size ≤ b) : h.get? b = none := by
  cases q : h.get? b with
  | none => rfl
  | some o => exact absurd (Nat.lt_of_lt_of_le (Heap.lt_size q) hb) (Nat.lt_irrefl _)
theorem fills_n {ps : List (Addr × NestedKey)} {n u : Nat} {Pv : Nat → Value → Prop} (hn : n = ps.length) (hfew : ps.length < 307) (getv : ∀ i v, Pv i v → ∃ p, ps[i]? = some p ∧ v = .ref p.1) (hk : ∀ p ∈ ps, IsN s.heap p.2 p.1) (hu : u + 32 < cLine) :
    Fills P w s u n Pv fun h' => ∃ L es ep t, SetN w h' s.heap.objs.size L es ep t ∧ Had ps ps.length L := by
  intro A' I fp wr G St W s0 R sf hw au hh st0 nw old hR
  refine fill_n W s.heap.objs.size sf ps hn hfew getv s.heap hk (free_size (Nat.le_refl _)) hw (by simp; omega) (n - 0) 0 s0 rfl (Nat.zero_le _) st0 old ⟨[], #[], 0, _, newSet_n nw, had0 ps⟩ fun s' L es ep t hm R2 g o2 => hR s' hm ⟨L, es, ep, t, R2, hn ▸ g⟩ o2
theorem fills_i {ns : List Int} {n u : Nat} {Pv : Nat → Value → Prop} (hn : n = ns.length) (hfew : ns.length + 1 < scanBound) (getv : ∀ i v, Pv i v → ∃ k t, ns[i]? = some k ∧ v = .int k t) :
    Fills P w s u n Pv fun h' => ∃ c, SetR w h' s.heap.objs.size (fun j => decide (j ∈ ns)) c := by
  intro A' I fp wr G St W s0 R sf hw au hh st0 nw old hR
  refine set_update_ints W s.heap.objs.size sf ns hn hfew getv (n - 0) 0 s0 rfl (Nat.zero_le _) st0 ⟨0, Nat.le_refl 0, setR_new_at nw⟩ fun s' c hm _ R2 => hR s' hm ⟨c, R2⟩ fun b o e => ?_
  exact hm.heap b o (fun hb => by
    rcases List.mem_cons.mp hb with rfl | hb
    · exact Nat.lt_irrefl _ (Heap.lt_size e)
    · rw [hw b hb] at e; cases e) (old b o e)

set_option maxHeartbeats 3200000 in
theorem call_set_list {l : Addr} {items : Array Value} {GG : Heap → Prop} {Q : Value → Shared → Prop} (noh : A.handled = none) (hseq : s.heap.IsList l items)
    (fill : Fills P w s A.units items.size (fun i v => items[i]? = some v) GG)
    (h : ∀ (h' : Heap) (tk : Nat), GG h' → (∀ b o, s.heap.get? b = some o → h'.get? b = some o) → Q (.ref s.heap.objs.size) { s with heap := h', toks := tk }) :
    wpAny (model P w) A (call (.type "set") [.ref l]) Q E s := by
  have pieces := F.called_set.mro
  obtain ⟨c1, tl1, mro1⟩ := pieces
  have made1 := F.called_set.made
  have sub1 := F.called_set.sub
  refine wpAny_call (codeAny_of_tree (?_ : wpAny _ _ (callAny (.type "set") _) _ _ _))
  refine wpAny_pure ⟨Code.quiet_builtin _ (by decide +kernel), codeAny_builtin F.entry_type_call ?_⟩
  rw [Around.under_plain (weight_type_call_type "set" [.ref l] []) rfl]
  have nt1 := F.called_set.notType
  have cc1 := F.called_set.canCreate
  have tc1 := F.typeCall_set_1 (.ref l)
  repeat (any_goals (first | assumption | wp_step))

  refine codeAny_mono (code_set_led1 (.ref l) (E := E) (Q₁ := fun made s1 => made = .ref s.heap.objs.size ∧ s1 = { s with heap := s.heap.push (newSet w) }) ⟨rfl, rfl⟩) fun res s1 hres => ?_
  cases res with
  | error e => exact hres
  | ok fl =>
    cases fl with
    | ret made =>
      obtain ⟨rfl, rfl⟩ := hres
      have atS : (s.heap.push (newSet w)).get? s.heap.objs.size = some (newSet w) := Heap.get?_push_size _ rfl
      have isS : Shared.TypeIs { s with heap := s.heap.push (newSet w) } (.ref s.heap.objs.size) "set" := ⟨_, atS, rfl⟩
      have il1 := F.called_set.init.lookup
      have ib1 := F.called_set.init.bind (.ref s.heap.objs.size)
      repeat (any_goals (first | assumption | wp_step))

      refine codeAny_mono (codeAny_call_builtin (R := wants (fun r s₂ => r = .none ∧ ∃ h' tk, s₂ = { s with heap := h', toks := tk } ∧ GG h' ∧ (∀ b o, s.heap.get? b = some o → h'.get? b = some o)) E)
        F.called_set.init.plain F.entry_set_init (check_set_init_1 isS ?_)) fun res2 s₂ hres2 => ?_
      · obtain ⟨ol, hol, hcl, nl, hdl⟩ := hseq
        obtain ⟨kc, kd, kx, ks⟩ := ol
        simp only at hcl hdl
        subst hcl; subst hdl
        have old1 : (s.heap.push (newSet w)).get? l = some { cls := .type "list", dict := kd, data := .seq items nl, slots := ks } := Heap.get?_push_of_some _ hol
        have sb1 := F.sub_list_set
        have sb2 := F.sub_list_frozenset
        have nd1 : (Value.type "list" == Value.type "dict") = false := by decide
        have seq1 : (s.heap.push (newSet w)).IsList l items := ⟨_, old1, rfl, nl, rfl⟩
        unfold Builtin.«set.__init__» noKeywords Builtin.Frozenset.updateFrom
        generalize hPI : pyIter = PI
        wp_walk
        subst hPI

        refine wpAny_pyIter_list seq1 (wpAny_bind (wpAny_runValue ?_))
        have ls : l < s.heap.objs.size := Heap.lt_size hol
        have noh3 : A.in1.in1.in1.handled = none := by simp [noh]
        have sz1 : (s.heap.push (newSet w)).objs.size = s.heap.objs.size + 1 := Heap.size_push ..
        have ne1 : l ≠ (s.heap.push (newSet w)).objs.size := by rw [sz1]; exact Nat.ne_of_lt (Nat.lt_succ_of_lt ls)
        have sf1 : s.heap.objs.size ∉ [(s.heap.push (newSet w)).objs.size, l] := by
          rw [sz1]; simp only [List.mem_cons, List.not_mem_nil, or_false, not_or]
          exact ⟨Nat.ne_of_lt (Nat.lt_succ_self _), Nat.ne_of_gt ls⟩
        have free : ∀ b, s.heap.objs.size ≤ b → s.heap.get? b = none := fun b hb => by
          cases q : s.heap.get? b with
          | none => rfl
          | some o => exact absurd (Nat.lt_of_lt_of_le (Heap.lt_size q) hb) (Nat.lt_irrefl _)
        refine fill (A' := A.in1.in1) ((Walks.list noh3 _ l ne1 items).toS) _ _ sf1 (fun b hb => free b (by rw [List.mem_singleton.mp hb, sz1]; exact Nat.le_succ _)) (by simp) noh3
          ⟨⟨_, Heap.get?_push_size _ rfl, rfl, rfl⟩, (seq1.push _)⟩ (Heap.get?_push_of_some _ atS) (fun b o e => Heap.get?_push_of_some _ (Heap.get?_push_of_some _ e)) ?hR
        case hR =>
          intro s' hm hS' hkp
          obtain ⟨h', gg, dd, tk', oo⟩ := s'
          obtain rfl : gg = s.gens := hm.gens
          obtain rfl : dd = s.drawn := hm.drawn
          obtain rfl : oo = s.os := hm.os
          exact wpAny_pure (wpAny_pure ⟨rfl, h', tk', rfl, hS', hkp⟩)

      · cases res2 with
        | error e => exact hres2
        | ok fl₂ =>
          cases fl₂ with
          | ret r =>
            obtain ⟨rfl, h', tk, rfl, hS', hk'⟩ := hres2
            repeat (any_goals (first | assumption | wp_step))
            exact h _ _ hS' hk'
          | _ => exact hres2.elim
    | _ => exact hres.elim

set_option maxHeartbeats 3200000 in
theorem call_set_tuple {l : Addr} {items : Array Value} {GG : Heap → Prop} {Q : Value → Shared → Prop} (noh : A.handled = none) (hseq : s.heap.IsTuple l items)
    (fill : Fills P w s A.units items.size (fun i v => items[i]? = some v) GG)
    (h : ∀ (h' : Heap) (tk : Nat), GG h' → (∀ b o, s.heap.get? b = some o → h'.get? b = some o) → Q (.ref s.heap.objs.size) { s with heap := h', toks := tk }) :
    wpAny (model P w) A (call (.type "set") [.ref l]) Q E s := by
  have pieces := F.called_set.mro
  obtain ⟨c1, tl1, mro1⟩ := pieces
  have made1 := F.called_set.made
  have sub1 := F.called_set.sub
  refine wpAny_call (codeAny_of_tree (?_ : wpAny _ _ (callAny (.type "set") _) _ _ _))
  refine wpAny_pure ⟨Code.quiet_builtin _ (by decide +kernel), codeAny_builtin F.entry_type_call ?_⟩
  rw [Around.under_plain (weight_type_call_type "set" [.ref l] []) rfl]
  have nt1 := F.called_set.notType
  have cc1 := F.called_set.canCreate
  have tc1 := F.typeCall_set_1 (.ref l)
  repeat (any_goals (first | assumption | wp_step))

  refine codeAny_mono (code_set_led1 (.ref l) (E := E) (Q₁ := fun made s1 => made = .ref s.heap.objs.size ∧ s1 = { s with heap := s.heap.push (newSet w) }) ⟨rfl, rfl⟩) fun res s1 hres => ?_
  cases res with
  | error e => exact hres
  | ok fl =>
    cases fl with
    | ret made =>
      obtain ⟨rfl, rfl⟩ := hres
      have atS : (s.heap.push (newSet w)).get? s.heap.objs.size = some (newSet w) := Heap.get?_push_size _ rfl
      have isS : Shared.TypeIs { s with heap := s.heap.push (newSet w) } (.ref s.heap.objs.size) "set" := ⟨_, atS, rfl⟩
      have il1 := F.called_set.init.lookup
      have ib1 := F.called_set.init.bind (.ref s.heap.objs.size)
      repeat (any_goals (first | assumption | wp_step))

      refine codeAny_mono (codeAny_call_builtin (R := wants (fun r s₂ => r = .none ∧ ∃ h' tk, s₂ = { s with heap := h', toks := tk } ∧ GG h' ∧ (∀ b o, s.heap.get? b = some o → h'.get? b = some o)) E)
        F.called_set.init.plain F.entry_set_init (check_set_init_1 isS ?_)) fun res2 s₂ hres2 => ?_
      · obtain ⟨ol, hol, hcl, nl, hdl⟩ := hseq
        obtain ⟨kc, kd, kx, ks⟩ := ol
        simp only at hcl hdl
        subst hcl; subst hdl
        have old1 : (s.heap.push (newSet w)).get? l = some { cls := .type "tuple", dict := kd, data := .seq items nl, slots := ks } := Heap.get?_push_of_some _ hol
        have sb1 := F.sub_tuple_set
        have sb2 := F.sub_tuple_frozenset
        have nd1 : (Value.type "tuple" == Value.type "dict") = false := by decide
        have seq1 : (s.heap.push (newSet w)).IsTuple l items := ⟨_, old1, rfl, nl, rfl⟩
        unfold Builtin.«set.__init__» noKeywords Builtin.Frozenset.updateFrom
        generalize hPI : pyIter = PI
        wp_walk
        subst hPI

        refine wpAny_pyIter_tuple seq1 (wpAny_bind (wpAny_runValue ?_))
        have ls : l < s.heap.objs.size := Heap.lt_size hol
        have noh3 : A.in1.in1.in1.handled = none := by simp [noh]
        have sz1 : (s.heap.push (newSet w)).objs.size = s.heap.objs.size + 1 := Heap.size_push ..
        have ne1 : l ≠ (s.heap.push (newSet w)).objs.size := by rw [sz1]; exact Nat.ne_of_lt (Nat.lt_succ_of_lt ls)
        have sf1 : s.heap.objs.size ∉ [(s.heap.push (newSet w)).objs.size, l] := by
          rw [sz1]; simp only [List.mem_cons, List.not_mem_nil, or_false, not_or]
          exact ⟨Nat.ne_of_lt (Nat.lt_succ_self _), Nat.ne_of_gt ls⟩
        have free : ∀ b, s.heap.objs.size ≤ b → s.heap.get? b = none := fun b hb => by
          cases q : s.heap.get? b with
          | none => rfl
          | some o => exact absurd (Nat.lt_of_lt_of_le (Heap.lt_size q) hb) (Nat.lt_irrefl _)
        refine fill (A' := A.in1.in1) ((Walks.tuple noh3 _ l ne1 items).toS) _ _ sf1 (fun b hb => free b (by rw [List.mem_singleton.mp hb, sz1]; exact Nat.le_succ _)) (by simp) noh3
          ⟨⟨_, Heap.get?_push_size _ rfl, rfl, rfl⟩, (seq1.push _)⟩ (Heap.get?_push_of_some _ atS) (fun b o e => Heap.get?_push_of_some _ (Heap.get?_push_of_some _ e)) ?hR
        case hR =>
          intro s' hm hS' hkp
          obtain ⟨h', gg, dd, tk', oo⟩ := s'
          obtain rfl : gg = s.gens := hm.gens
          obtain rfl : dd = s.drawn := hm.drawn
          obtain rfl : oo = s.os := hm.os
          exact wpAny_pure (wpAny_pure ⟨rfl, h', tk', rfl, hS', hkp⟩)

      · cases res2 with
        | error e => exact hres2
        | ok fl₂ =>
          cases fl₂ with
          | ret r =>
            obtain ⟨rfl, h', tk, rfl, hS', hk'⟩ := hres2
            repeat (any_goals (first | assumption | wp_step))
            exact h _ _ hS' hk'
          | _ => exact hres2.elim
    | _ => exact hres.elim
end
end VI
namespace VI
open PySem PySem.Spec PyProof.Rows L2
/-! ### sets of tuples as rules of the hand layer -/
structure SetN0 (w : World) (h : Heap) (a : Addr) (L : List (Addr × NestedKey)) : Prop where
  ex : ∃ (es : Array (Int × Value)) (ep : Nat) (t : SetTable), (∃ o, h.get? a = some o ∧ o.ExactSet ∧ o.data = .set es ep t) ∧ es.toList = rowsN w L ∧ TabF t (L.map fun p => p.2.hash w) ∧ (L.map (·.2)).Nodup ∧
    (w.params.followText "set-order" = true ∨ t.led = true) ∧ Masks t.mask L.length
def SetNO (w : World) (a : Addr) (L : List (Addr × NestedKey)) : HO := .ext fun h => SetN0 w h a L
theorem SetN.n0 {w : World} {h : Heap} {a : Addr} {L : List (Addr × NestedKey)} {es : Array (Int × Value)} {ep : Nat} {t : SetTable} (R : SetN w h a L es ep t) : SetN0 w h a L := ⟨es, ep, t, R.ob, R.rows, R.tab, R.nd, R.led, R.msk⟩
theorem SetN0.full {w : World} {h : Heap} {a : Addr} {L : List (Addr × NestedKey)} (R : SetN0 w h a L) (ht : ∀ p ∈ L, IsN h p.2 p.1) : ∃ es ep t, SetN w h a L es ep t := by
  obtain ⟨es, ep, t, h1, h2, h3, h4, h5, h6⟩ := R.ex
  exact ⟨es, ep, t, h1, h2, h3, h4, ht, h5, h6⟩
theorem setNO_new {P : Program} {w : World} {H : Hp} {h : Heap} {a : Addr} {L : List (Addr × NestedKey)} (R : SetN0 w h a L) : ObjOk P w H h a (SetNO w a L) := by
  have ⟨es, ep, t, ⟨o, ho, r⟩, q⟩ := R.ex
  refine ⟨R, ⟨o, ho⟩, fun h1 h2 p k => ?_⟩
  have ⟨es', ep', t', ⟨o', ho', r'⟩, q'⟩ := SetN0.ex p
  exact ⟨es', ep', t', ⟨o', k o' ho', r'⟩, q'⟩
section
variable {X : Cx} {pins : List (Addr × Obj)} {σ : L2.St} {H : Hp} {s : Shared}
mutual
theorem nested_of (I : Inv X pins σ H s) : ∀ (k : NestedKey) (v : V) (u : Value), Dp X.K H v k.data → RelV v u → NestedIs s.heap k u
  | .none, _, _, d, r => by cases d; cases r; exact .none
  | .num i, _, _, d, r => by
    cases d
    obtain ⟨t, rfl⟩ := r
    exact .int i t
  | .text x, _, _, d, r => by
    cases d
    obtain ⟨t, rfl⟩ := r
    exact .text x t
  | .tup ks, _, _, d, r => by
    simp only [NestedKey.data] at d
    cases d with
    | tup h hd =>
      cases r
      obtain ⟨its, rv, ⟨o, ho, hc, n, hdat⟩, _⟩ := I.tuple h
      exact .tup ho hc hdat (nesteds_of I ks _ _ hd (by simpa using rv))
theorem nesteds_of (I : Inv X pins σ H s) : ∀ (ks : List NestedKey) (vs : List V) (us : List Value), DpAll X.K H vs (NestedKey.datas ks) → Vals vs us → NestedAll s.heap ks us
  | [], _, _, d, r => by
    simp only [NestedKey.datas] at d
    cases d; cases r; exact .nil
  | k :: ks, _, _, d, r => by
    simp only [NestedKey.datas] at d
    cases d with
    | cons d1 d2 =>
      cases r with
      | cons r1 r2 => exact .cons (nested_of I k _ _ d1 r1) (nesteds_of I ks _ _ d2 r2)
end
def KeyAt (K : PySem.W.Frag) (H : Hp) (p : Addr × NestedKey) : Prop := Dp K H (.ref p.1) p.2.data ∧ p.2.depth ≤ 8
theorem KeyAt.isN (I : Inv X pins σ H s) {p : Addr × NestedKey} (h : KeyAt X.K H p) : IsN s.heap p.2 p.1 := ⟨nested_of I _ _ _ h.1 (show RelV (.ref p.1) (.ref p.1) from rfl), h.2⟩
theorem refs_vals : ∀ {ps : List (Addr × NestedKey)} {us : List Value}, Vals (ps.map fun p => V.ref p.1) us → us = ps.map fun p => Value.ref p.1
  | [], _, .nil => rfl
  | p :: ps, _, .cons r t => by
    cases r
    rw [refs_vals t]; rfl
theorem vals_refs : ∀ (ps : List (Addr × NestedKey)), Vals (ps.map fun p => V.ref p.1) (ps.map fun p => Value.ref p.1)
  | [] => .nil
  | p :: ps => .cons rfl (vals_refs ps)
/-- set(xs) -/
def rSetN (K : PySem.W.Frag) (w : World) : List V → Hp → VK → Prop := fun xs H Q => ∃ (l : Addr) (ps : List (Addr × NestedKey)), xs = [V.ref l] ∧ (SqL K H l (ps.map fun p => V.ref p.1) ∨ SqT K H l (ps.map fun p => V.ref p.1)) ∧ (∀ p ∈ ps, KeyAt K H p) ∧ ps.length < 307 ∧
  ∀ a L, H a = none → (∀ p ∈ L, p ∈ ps) → (∀ p ∈ ps, p.2 ∈ L.map (·.2)) → (L.map (·.2)).Nodup → Q (.ref a) (upd H a (SetNO w a L))
theorem getv_refs {ps : List (Addr × NestedKey)} {items : Array Value} (h : items.toList = ps.map fun p => Value.ref p.1) (i : Nat) (v : Value) (hv : items[i]? = some v) : ∃ p, ps[i]? = some p ∧ v = .ref p.1 := by
  have q : (ps.map fun p => Value.ref p.1)[i]? = some v := by rw [← h, Array.getElem?_toList]; exact hv
  rw [List.getElem?_map] at q
  cases hq : ps[i]? with
  | none => rw [hq] at q; cases q
  | some p =>
    rw [hq] at q
    exact ⟨p, rfl, (Option.some.inj q).symm⟩
theorem cr_setN (hc : X.calm = true) (hu : X.A.units + 64 < cLine) : CallR X (.type "set") (rSetN X.K X.w) := by
  intro pins s σ H xs us Q I r h
  obtain ⟨l, ps, rfl, hl, hk, hf, q⟩ := h
  rw [Vals.ref1 r]
  have hn : H s.heap.objs.size = none := I.hok.fresh (Nat.le_refl _)
  have fin : ∀ (h' : Heap) (tk : Nat), (∃ L es ep t, SetN X.w h' s.heap.objs.size L es ep t ∧ Had ps ps.length L) → (∀ b o, s.heap.get? b = some o → h'.get? b = some o) →
      ∃ y H', Inv X pins σ H' { s with heap := h', toks := tk } ∧ RelV y (.ref s.heap.objs.size) ∧ Q y H' := fun h' tk ⟨L, es, ep, t, R, g⟩ k =>
    ⟨.ref s.heap.objs.size, upd H s.heap.objs.size (SetNO X.w s.heap.objs.size L), I.laid (t' := tk) k (Nat.le_refl _) (setNO_new R.n0), rfl,
      q _ L hn (fun p hp => List.mem_of_mem_take (g.sub p hp)) (fun p hp => g.all p (by rw [List.take_length]; exact hp)) R.nd⟩
  rcases hl with hl | hl
  · obtain ⟨its, rv, pl, hz⟩ := I.list hl
    have ev : its.toArray.toList = ps.map fun p => Value.ref p.1 := by simpa using refs_vals rv
    exact call_set_list (P := X.prog) (w := X.w) (I.ok.hd hc) pl.isList (fills_n (by rw [← Array.length_toList, ev, List.length_map]) hf (getv_refs ev) (fun p hp => (hk p hp).isN I) (by omega)) fin
  · obtain ⟨its, rv, pl, hz⟩ := I.tuple hl
    have ev : its.toArray.toList = ps.map fun p => Value.ref p.1 := by simpa using refs_vals rv
    exact call_set_tuple (P := X.prog) (w := X.w) (I.ok.hd hc) pl (fills_n (by rw [← Array.length_toList, ev, List.length_map]) hf (getv_refs ev) (fun p hp => (hk p hp).isN I) (by omega)) fin
/-- each once, the last ones kept -/
def nub {α : Type} [DecidableEq α] : List α → List α
  | [] => []
  | d :: r => if d ∈ r then nub r else d :: nub r
theorem mem_nub {α : Type} [DecidableEq α] {x : α} : ∀ {l : List α}, x ∈ nub l ↔ x ∈ l
  | [] => Iff.rfl
  | d :: r => by
    unfold nub
    split
    · rename_i h
      rw [mem_nub (l := r), List.mem_cons]
      exact ⟨.inr, fun z => z.elim (fun e => e ▸ h) id⟩
    · rw [List.mem_cons, List.mem_cons, mem_nub (l := r)]
theorem nodup_nub {α : Type} [DecidableEq α] : ∀ l : List α, (nub l).Nodup
  | [] => List.nodup_nil
  | d :: r => by
    unfold nub
    split
    · exact nodup_nub r
    · rename_i h
      exact List.nodup_cons.mpr ⟨fun z => h (mem_nub.mp z), nodup_nub r⟩
theorem perm_nub {α : Type} [DecidableEq α] {l m : List α} (n : l.Nodup) (h : ∀ x, x ∈ l ↔ x ∈ m) : l.Perm (nub m) := (List.perm_ext_iff_of_nodup n (nodup_nub m)).mpr fun x => (h x).trans mem_nub.symm
/-- set(xs) of whole numbers -/
def rSetI (K : PySem.W.Frag) (w : World) : List V → Hp → VK → Prop := fun xs H Q => ∃ (l : Addr) (ns : List Int), xs = [V.ref l] ∧ (SqL K H l (ns.map V.int) ∨ SqT K H l (ns.map V.int)) ∧ ns.length < 1000 ∧
  ∀ a, H a = none → Q (.ref a) (upd H a (SetO w a (fun j => decide (j ∈ ns)) (nub ns).length))
theorem setR_len {w : World} {h : Heap} {a : Addr} {ns : List Int} {c : Nat} (R : SetR w h a (fun j => decide (j ∈ ns)) c) : SetR w h a (fun j => decide (j ∈ ns)) (nub ns).length := by
  obtain ⟨o, es, ep, t, h1, h2, h3, h4, h5, h6, h7, h8, h9, r⟩ := R
  refine ⟨o, es, ep, t, h1, h2, h3, h4, h5, h6, h7, h8, ?_, r⟩
  have q := (perm_nub h5 fun k => (by rw [← h6 k]; simp : k ∈ es.toList.map keyOf ↔ k ∈ ns)).length_eq
  rw [List.length_map, Array.length_toList] at q
  exact q
theorem getv_ints {ns : List Int} {items : Array Value} (h : IntsAre items.toList ns) (i : Nat) (v : Value) (hv : items[i]? = some v) : ∃ k t, ns[i]? = some k ∧ v = .int k t := by
  have hi : i < ns.length := by
    rw [← IntsAre.length h, Array.length_toList]
    exact (Array.getElem?_eq_some_iff.mp hv).1
  obtain ⟨t, e⟩ := PyProof.Rows.IntsAre.int_at h i v (by rw [Array.getElem?_toList]; exact hv)
  refine ⟨ns[i], t, List.getElem?_eq_getElem hi, ?_⟩
  rw [e, List.getD_eq_getElem?_getD, List.getElem?_eq_getElem hi]; rfl
theorem cr_setI (hc : X.calm = true) : CallR X (.type "set") (rSetI X.K X.w) := by
  intro pins s σ H xs us Q I r h
  obtain ⟨l, ns, rfl, hl, hf, q⟩ := h
  rw [Vals.ref1 r]
  have hn : H s.heap.objs.size = none := I.hok.fresh (Nat.le_refl _)
  have fin : ∀ (h' : Heap) (tk : Nat), (∃ c, SetR X.w h' s.heap.objs.size (fun j => decide (j ∈ ns)) c) → (∀ b o, s.heap.get? b = some o → h'.get? b = some o) →
      ∃ y H', Inv X pins σ H' { s with heap := h', toks := tk } ∧ RelV y (.ref s.heap.objs.size) ∧ Q y H' := fun h' tk ⟨c, R⟩ k =>
    ⟨.ref s.heap.objs.size, _, I.laid (t' := tk) k (Nat.le_refl _) (setO_new (setR_len R)), rfl, q _ hn⟩
  rcases hl with hl | hl
  · obtain ⟨its, rv, pl, hz⟩ := I.list hl
    have ev : IntsAre its.toArray.toList ns := by simpa using rv.ints
    exact call_set_list (P := X.prog) (w := X.w) (I.ok.hd hc) pl.isList (fills_i (by rw [← IntsAre.length ev, Array.length_toList]) (by unfold scanBound; omega) (getv_ints ev)) fin
  · obtain ⟨its, rv, pl, hz⟩ := I.tuple hl
    have ev : IntsAre its.toArray.toList ns := by simpa using rv.ints
    exact call_set_tuple (P := X.prog) (w := X.w) (I.ok.hd hc) pl (fills_i (by rw [← IntsAre.length ev, Array.length_toList]) (by unfold scanBound; omega) (getv_ints ev)) fin
/-- len(set) -/
def rLenN (w : World) : List V → Hp → VK → Prop := fun vs H Q => ∃ (a : Addr) (L : List (Addr × NestedKey)), vs = [V.ref a] ∧ H a = some (SetNO w a L) ∧ Q (.int L.length) H
theorem cr_lenN : CallR X (.builtin "len") (rLenN X.w) := by
  intro pins s σ H vs us Q I r h
  obtain ⟨a, L, rfl, ha, q⟩ := h
  have R0 : SetN0 X.w s.heap a L := (I.hok a _ ha).1
  obtain ⟨es, ep, t, ⟨o, ho, hex, hdt⟩, h2, h3, h4, h5, h6⟩ := R0.ex
  rw [Vals.ref1 r]
  have hsz : es.size = L.length := by
    have h := congrArg List.length h2
    rw [rowsN_len] at h
    exact h
  have rm := h6.room
  exact call_len_set ho hex hdt (fits_n h3 hsz rm.1) (by rw [hsz]; omega) ⟨.int L.length, H, I.tok _, ⟨_, by rw [hsz]⟩, q⟩

/-! ### sorted -/
theorem perm_map_back {α β : Type} {f : α → β} {l m : List β} (h : l.Perm m) : ∀ {L : List α}, m = L.map f → ∃ L1 : List α, L1.Perm L ∧ L1.map f = l := by
  induction h with
  | nil => intro L e; exact ⟨L, .refl _, e.symm⟩
  | @cons x l m _ ih =>
    intro L e
    cases L with
    | nil => cases e
    | cons a L =>
      simp only [List.map_cons, List.cons.injEq] at e
      obtain ⟨L1, p, rfl⟩ := ih e.2
      exact ⟨a :: L1, p.cons a, by rw [List.map_cons, e.1]⟩
  | @swap x y l =>
    intro L e
    match L, e with
    | a :: b :: L, e =>
      simp only [List.map_cons, List.cons.injEq] at e
      exact ⟨b :: a :: L, .swap .., by simp [e.1, e.2.1, e.2.2]⟩
  | trans _ _ ih1 ih2 =>
    intro L e
    obtain ⟨L2, p2, e2⟩ := ih2 e
    obtain ⟨L1, p1, e1⟩ := ih1 e2.symm
    exact ⟨L1, p1.trans p2, e1⟩
/-- sorted(set), tuples that are alike -/
def encN (p : Addr × NestedKey) : PyData := p.2.data
def rSortN (K : PySem.W.Frag) (w : World) : List V → Hp → VK → Prop := fun vs H Q => ∃ (a : Addr) (L : List (Addr × NestedKey)), vs = [V.ref a] ∧ H a = some (SetNO w a L) ∧ (∀ p ∈ L, KeyAt K H p) ∧ W.AllAlike (L.map encN) ∧ W.Sortable (L.map encN) ∧ (∀ p ∈ L, (encN p).depth ≤ 30) ∧
  ∀ (L1 : List (Addr × NestedKey)) (p : Addr), L1.Perm L → H p = none → Q (.ref p) (upd H p (.lst ((L1.mergeSort (W.dataLe false encN)).map fun q => V.ref q.1)))
mutual
theorem reads_nil {h : Heap} : ∀ (k : NestedKey) (v : Value) (as : List Addr), Reads h v k.data as → as = []
  | .none, _, _, r => by cases r; rfl
  | .num i, _, _, r => by cases r; rfl
  | .text x, _, _, r => by cases r; rfl
  | .tup ks, _, _, r => by
    simp only [NestedKey.data] at r
    cases r with
    | tuple _ _ _ r => exact reads_nils ks _ _ r
theorem reads_nils {h : Heap} : ∀ (ks : List NestedKey) (vs : List Value) (as : List Addr), ReadsAll h vs (NestedKey.datas ks) as → as = []
  | [], _, _, r => by simp only [NestedKey.datas] at r; cases r; rfl
  | k :: ks, _, _, r => by
    simp only [NestedKey.datas] at r
    cases r with
    | cons r1 r2 => rw [reads_nil k _ _ r1, reads_nils ks _ _ r2]; rfl
end
theorem reads_key (I : Inv X pins σ H s) {p : Addr × NestedKey} (h : KeyAt X.K H p) : Reads s.heap (.ref p.1) (encN p) [] := by
  obtain ⟨as, r⟩ := Dp.reads I _ _ (.ref p.1) h.1 rfl
  have e := reads_nil _ _ _ r
  rw [e] at r
  exact r
theorem each_of {R : Value → (Addr × NestedKey) → Prop} : ∀ {L : List (Addr × NestedKey)}, (∀ p ∈ L, R (.ref p.1) p) → W.EachIs R (L.map fun p => Value.ref p.1) L
  | [], _ => .nil
  | p :: L, h => .cons (h p List.mem_cons_self) (each_of fun q hq => h q (List.mem_cons_of_mem _ hq))
theorem each_refs : ∀ {L : List (Addr × NestedKey)} {out : List Value}, W.EachIs (fun (v : Value) (p : Addr × NestedKey) => v = Value.ref p.1) out L → out = L.map fun p => Value.ref p.1
  | _, _, .nil => rfl
  | _, _, .cons h t => by rw [h, each_refs t]; rfl
theorem alike_perm {α : Type} {enc : α → PyData} {l m : List α} (p : l.Perm m) (h : W.AllAlike (m.map enc)) : W.AllAlike (l.map enc) := fun d hd d' hd' => h d ((p.map enc).mem_iff.mp hd) d' ((p.map enc).mem_iff.mp hd')
theorem sortable_perm {α : Type} {enc : α → PyData} {l m : List α} (p : l.Perm m) (h : W.Sortable (m.map enc)) : W.Sortable (l.map enc) :=
  h.imp (fun h d hd => h d ((p.map enc).mem_iff.mp hd)) fun h d hd => h d ((p.map enc).mem_iff.mp hd)
theorem cr_sortedN (hc : X.calm = true) (hu : X.A.units + 64 < cLine) : CallR X (.builtin "sorted") (rSortN X.K X.w) := by
  intro pins s σ H vs us Q I r h
  obtain ⟨a, L, rfl, ha, hk, hal, hso, hdp, q⟩ := h
  have R0 : SetN0 X.w s.heap a L := (I.hok a _ ha).1
  obtain ⟨es, ep, t, R⟩ := R0.full fun p hp => (hk p hp).isN I
  rw [Vals.ref1 r]
  obtain ⟨ob, hob, hex, hdt⟩ := R.ob
  have rm := R.msk.room
  refine Calls.call_function_entry kind_sorted plain_sorted entry_sorted (args_sorted1 _) ?_
  unfold Builtin.«sorted»
  refine wpAny_bind (m := checkCount "sorted" 1 1 _) (wpAny_pure ?_)
  refine wpAny_bind (collect_set (A := X.A.in1) (I.ok.hd hc) ⟨ob, hob, hex.1, hdt⟩ R.fits (by have := R.size; unfold scanBound; omega) R.tab.ris R.led fun s1 vs k1 hz g1 o1 pm => ?_)
  have hes : es.toList.map (·.2) = L.map fun q => Value.ref q.1 := by rw [R.rows, rowsN, List.map_map]; rfl
  rw [hes] at pm
  obtain ⟨L1, p1, rfl⟩ := perm_map_back pm rfl
  have few : L1.length < 307 := by rw [p1.length_eq]; exact rm.2.1
  refine wpAny_bind (wpAny_newList ?_ (by simp [sizeLine_eq]; omega))
  have hoL : (s1.heap.push (seqObj "list" (L1.map fun q => Value.ref q.1).toArray 0)).get? s1.heap.objs.size = some (seqObj "list" (L1.map fun q => Value.ref q.1).toArray 0) := Heap.get?_push_size _ rfl
  refine wpAny_bind (wpAny_holding (W.list_sort_data (s := { s1 with heap := s1.heap.push (seqObj "list" (L1.map fun q => Value.ref q.1).toArray 0) }) (bs := L1) (enc := encN) (R := fun v p => v = Value.ref p.1) hoL (each_of fun _ _ => rfl)
    (each_of fun p hp => ⟨[], PyProof.Rows.Reads.keeps (fun b o e => Heap.get?_push_of_some _ (k1 b o e)) (reads_key I (hk p (p1.mem_iff.mp hp))), by simp⟩) (alike_perm p1 hal) (sortable_perm p1 hso) (by rw [sizeLine_eq]; omega)
    (fun p hp => by have := hdp p (p1.mem_iff.mp hp); simp; omega) fun out ho he => ?_))
  have eo := each_refs he
  obtain ⟨c, hcp⟩ := sortedHeap_at (vs := L1.map fun q => Value.ref q.1) (out := out.toArray) hoL
  have hn : H s1.heap.objs.size = none := I.hok.fresh hz
  have old : ∀ b o, s.heap.get? b = some o → (sortedHeap (s1.heap.push (seqObj "list" (L1.map fun q => Value.ref q.1).toArray 0)) s1.heap.objs.size (L1.map fun q => Value.ref q.1) out.toArray).get? b = some o := fun b o e => by
    have k := k1 b o e
    have hlt := Heap.lt_size k
    rw [sortedHeap_old (Nat.ne_of_lt hlt) (by rw [size_push']; exact Nat.lt_succ_of_lt hlt)]
    exact Heap.get?_push_of_some _ k
  have J : Inv X pins σ (upd H s1.heap.objs.size (.lst ((L1.mergeSort (W.dataLe false encN)).map fun q => V.ref q.1))) { s with heap := sortedHeap (s1.heap.push (seqObj "list" (L1.map fun q => Value.ref q.1).toArray 0)) s1.heap.objs.size (L1.map fun q => Value.ref q.1) out.toArray, gens := s1.gens, drawn := s1.drawn, toks := s1.toks } :=
    I.call (ch := []) (Un.laid old hz hn) (I.hok.laid old hz ⟨by rw [List.length_map, List.length_mergeSort, sizeLine_eq]; omega, out, c, by rw [eo]; exact vals_refs _, hcp⟩) (by rw [g1]; exact I.bare) (fun _ z => nomatch z)
  have e : ({ s1 with heap := sortedHeap (s1.heap.push (seqObj "list" (L1.map fun q => Value.ref q.1).toArray 0)) s1.heap.objs.size (L1.map fun q => Value.ref q.1) out.toArray } : Shared) = { s with heap := sortedHeap (s1.heap.push (seqObj "list" (L1.map fun q => Value.ref q.1).toArray 0)) s1.heap.objs.size (L1.map fun q => Value.ref q.1) out.toArray, gens := s1.gens, drawn := s1.drawn, toks := s1.toks } := by
    cases s1
    cases s
    cases o1
    rfl
  refine wpAny_pure ⟨_, rfl, ?_⟩
  rw [e]
  exact ⟨.ref _, _, J, rfl, q L1 _ p1 hn⟩
/-- sorted(xs), xs a list of alike data -/
def encV (p : V × PyData) : PyData := p.2
def rSortD (K : PySem.W.Frag) : List V → Hp → VK → Prop := fun vs H Q => ∃ (a : Addr) (L : List (V × PyData)), vs = [V.ref a] ∧ SqL K H a (L.map (·.1)) ∧ (∀ p ∈ L, Dp K H p.1 p.2) ∧ W.AllAlike (L.map encV) ∧ W.Sortable (L.map encV) ∧ (∀ p ∈ L, p.2.depth ≤ 30) ∧
  ∀ p, H p = none → Q (.ref p) (upd H p (.lst ((L.mergeSort (W.dataLe false encV)).map (·.1))))
theorem each_dps (I : Inv X pins σ H s) : ∀ {L : List (V × PyData)} {us : List Value}, Vals (L.map (·.1)) us → (∀ p ∈ L, Dp X.K H p.1 p.2) → W.EachIs (fun v (p : V × PyData) => RelV p.1 v) us L ∧ W.EachIs (fun v (p : V × PyData) => ∃ as, Reads s.heap v (encV p) as) us L
  | [], _, .nil, _ => ⟨.nil, .nil⟩
  | p :: L, _, .cons r t, h => by
    obtain ⟨e1, e2⟩ := each_dps I t fun q hq => h q (List.mem_cons_of_mem _ hq)
    exact ⟨.cons r e1, .cons (Dp.reads I _ _ _ (h p List.mem_cons_self) r) e2⟩
theorem each_vals : ∀ {L : List (V × PyData)} {us : List Value}, W.EachIs (fun v (p : V × PyData) => RelV p.1 v) us L → Vals (L.map (·.1)) us
  | _, _, .nil => .nil
  | _, _, .cons r t => .cons r (each_vals t)
theorem cr_sortedD (hu : X.A.units + 64 < cLine) : CallR X (.builtin "sorted") (rSortD X.K) := by
  intro pins s σ H vs us Q I r h
  obtain ⟨a, L, rfl, hl, hk, hal, hso, hdp, q⟩ := h
  rw [Vals.ref1 r]
  obtain ⟨its, rv, pl, hz⟩ := I.list hl
  obtain ⟨e1, e2⟩ := each_dps I rv hk
  have hn : its.length = L.length := e1.length
  refine W.sorted_data (bs := L) (enc := encV) (R := fun v p => RelV p.1 v) pl.isList e1 e2 hal hso (by rw [← hn]; exact (by simpa [rv.length] using hz)) (fun p hp => by have := hdp p hp; show _ + (p.2).depth < _; omega) fun out ho he => ?_
  obtain ⟨ep, hat⟩ := PyProof.Rows.sortedAll_at s.heap its out.toArray
  refine ⟨.ref _, upd H (s.heap.objs.size + 1) (.lst ((L.mergeSort (W.dataLe false encV)).map (·.1))), I.laid (t' := s.toks) (fun _ _ => PyProof.Rows.sortedAll_old) (Nat.le_succ _) ⟨?_, out, ep, each_vals he, hat⟩, rfl, q _ (I.hok.fresh (Nat.le_succ _))⟩
  rw [List.length_map, List.length_mergeSort, ← hn, ← rv.length]
  exact hz
end
end VI
namespace VI
open PySem PySem.Spec PyProof.Rows L2
/-! ### order of alike data -/
section
variable {α : Type}
theorem sorted_one {le : α → α → Bool} : ∀ {l m : List α}, l.Perm m → l.Pairwise (fun a b => le a b = true) → m.Pairwise (fun a b => le a b = true) → (∀ a ∈ l, ∀ b ∈ l, le a b = true → le b a = true → a = b) → l = m
  | [], m, p, _, _, _ => p.nil_eq
  | a :: l, [], p, _, _, _ => nomatch p.eq_nil
  | a :: l, b :: m, p, hl, hm, anti => by
    have e : a = b := by
      have ha : a ∈ b :: m := p.mem_iff.mp List.mem_cons_self
      have hb : b ∈ a :: l := p.mem_iff.mpr List.mem_cons_self
      rcases List.mem_cons.mp ha with e | ha
      · exact e
      · rcases List.mem_cons.mp hb with e | hb'
        · exact e.symm
        · exact anti a List.mem_cons_self b hb ((List.pairwise_cons.mp hl).1 b hb') ((List.pairwise_cons.mp hm).1 a ha)
    subst e
    rw [sorted_one (List.perm_cons a |>.mp p) (List.pairwise_cons.mp hl).2 (List.pairwise_cons.mp hm).2 fun x hx y hy => anti x (List.mem_cons_of_mem _ hx) y (List.mem_cons_of_mem _ hy)]
theorem sort_perm {le : α → α → Bool} (T : W.TotalLe le) {l m : List α} (p : l.Perm m) (anti : ∀ a ∈ l, ∀ b ∈ l, le a b = true → le b a = true → a = b) : l.mergeSort le = m.mergeSort le :=
  sorted_one ((List.mergeSort_perm l le).trans (p.trans (List.mergeSort_perm m le).symm)) (W.sort_pairwise T l) (W.sort_pairwise T m) fun a ha b hb => anti a ((List.mergeSort_perm l le).mem_iff.mp ha) b ((List.mergeSort_perm l le).mem_iff.mp hb)
end
/-- sorted by putting each in its place -/
def insO {α : Type} (le : α → α → Bool) (x : α) : List α → List α
  | [] => [x]
  | y :: l => if le x y = true then x :: y :: l else y :: insO le x l
def isort {α : Type} (le : α → α → Bool) : List α → List α
  | [] => []
  | x :: l => insO le x (isort le l)
section
variable {α : Type} {le : α → α → Bool}
theorem insO_perm (x : α) : ∀ l : List α, (insO le x l).Perm (x :: l)
  | [] => .refl _
  | y :: l => by
    unfold insO
    split
    · exact .refl _
    · exact ((insO_perm x l).cons y).trans (.swap x y l)
theorem isort_perm : ∀ l : List α, (isort le l).Perm l
  | [] => .refl _
  | x :: l => (insO_perm x _).trans ((isort_perm l).cons x)
theorem insO_sorted (T : W.TotalLe le) (x : α) : ∀ {l : List α}, l.Pairwise (fun a b => le a b = true) → (insO le x l).Pairwise (fun a b => le a b = true)
  | [], _ => List.pairwise_singleton _ _
  | y :: l, h => by
    obtain ⟨h1, h2⟩ := List.pairwise_cons.mp h
    unfold insO
    split
    · rename_i hx
      exact List.pairwise_cons.mpr ⟨fun z hz => (List.mem_cons.mp hz).elim (fun e => e ▸ hx) fun hz => T.trans _ _ _ hx (h1 z hz), h⟩
    · rename_i hx
      have hy : le y x = true := (T.total x y).resolve_left hx
      refine List.pairwise_cons.mpr ⟨fun z hz => ?_, insO_sorted T x h2⟩
      rcases List.mem_cons.mp ((insO_perm x l).mem_iff.mp hz) with rfl | hz
      · exact hy
      · exact h1 z hz
theorem isort_sorted (T : W.TotalLe le) : ∀ l : List α, (isort le l).Pairwise (fun a b => le a b = true)
  | [] => List.Pairwise.nil
  | x :: l => insO_sorted T x (isort_sorted T l)
theorem isort_merge (T : W.TotalLe le) (l : List α) (anti : ∀ a ∈ l, ∀ b ∈ l, le a b = true → le b a = true → a = b) : l.mergeSort le = isort le l :=
  sorted_one ((List.mergeSort_perm l le).trans (isort_perm l).symm) (W.sort_pairwise T l) (isort_sorted T l) fun a ha b hb => anti a ((List.mergeSort_perm l le).mem_iff.mp ha) b ((List.mergeSort_perm l le).mem_iff.mp hb)
theorem isort_same (T : W.TotalLe le) {l m : List α} (p : l.Perm m) (anti : ∀ a ∈ l, ∀ b ∈ l, le a b = true → le b a = true → a = b) : isort le l = isort le m :=
  sorted_one ((isort_perm l).trans (p.trans (isort_perm m).symm)) (isort_sorted T l) (isort_sorted T m) fun a ha b hb => anti a ((isort_perm l).mem_iff.mp ha) b ((isort_perm l).mem_iff.mp hb)
end
theorem dataLe_total {α : Type} (k : α → PyData) : W.TotalLe (W.dataLe false k) := W.sortLe_total _ _ _
theorem lex_nil_cons (x : Int ⊕ List Nat) : PyProof.Rows.lexLt itemOrd [] [x] = true := rfl
mutual
theorem eqv_key : ∀ x y : NestedKey, PyData.eqv x.data y.data = true → x = y
  | .none, .none, _ => rfl
  | .none, .num _, h => by simp [NestedKey.data, PyData.eqv] at h
  | .none, .text _, h => by simp [NestedKey.data, PyData.eqv] at h
  | .none, .tup _, h => by simp [NestedKey.data, PyData.eqv] at h
  | .num i, .none, h => by simp [NestedKey.data, PyData.eqv] at h
  | .num i, .num j, h => by simp [NestedKey.data, PyData.eqv] at h; rw [h]
  | .num i, .text _, h => by simp [NestedKey.data, PyData.eqv] at h
  | .num i, .tup _, h => by simp [NestedKey.data, PyData.eqv] at h
  | .text x, .none, h => by simp [NestedKey.data, PyData.eqv] at h
  | .text x, .num _, h => by simp [NestedKey.data, PyData.eqv] at h
  | .text x, .text y, h => by simp [NestedKey.data, PyData.eqv] at h; rw [h]
  | .text x, .tup _, h => by simp [NestedKey.data, PyData.eqv] at h
  | .tup a, .none, h => by simp [NestedKey.data, PyData.eqv] at h
  | .tup a, .num _, h => by simp [NestedKey.data, PyData.eqv] at h
  | .tup a, .text _, h => by simp [NestedKey.data, PyData.eqv] at h
  | .tup a, .tup b, h => by
    simp only [NestedKey.data, PyData.eqv] at h
    rw [eqv_keys a b h]
theorem eqv_keys : ∀ x y : List NestedKey, PyData.eqvAll (NestedKey.datas x) (NestedKey.datas y) = true → x = y
  | [], [], _ => rfl
  | [], _ :: _, h => by simp [NestedKey.datas, PyData.eqvAll] at h
  | _ :: _, [], h => by simp [NestedKey.datas, PyData.eqvAll] at h
  | a :: x, b :: y, h => by
    simp only [NestedKey.datas, PyData.eqvAll, Bool.and_eq_true] at h
    rw [eqv_key a b h.1, eqv_keys x y h.2]
end
theorem key_anti {x y : NestedKey} (h : W.alike x.data y.data = true) (h1 : W.dataLt y.data x.data = false) (h2 : W.dataLt x.data y.data = false) : x = y := by
  have e : W.keyToks x.data = W.keyToks y.data := lex_total _ _ h2 h1
  cases q : PyData.eqv x.data y.data with
  | true => exact eqv_key x y q
  | false =>
    have z := (W.toks_eqv _ _ h).2 q [] [.inl 0]
    rw [e, W.lex_pre, lex_nil_cons, lex_irrefl] at z
    cases z

/-! ### data as keys -/
mutual
def nkD : D → NestedKey
  | .int i => .num i
  | .str x => .text x
  | .tup ds => .tup (nkDs ds)
  | _ => .none
def nkDs : List D → List NestedKey
  | [] => []
  | d :: ds => nkD d :: nkDs ds
end
mutual
def isKey : D → Bool
  | .non => true
  | .int _ => true
  | .str _ => true
  | .tup ds => isKeys ds
  | _ => false
def isKeys : List D → Bool
  | [] => true
  | d :: ds => isKey d && isKeys ds
end
mutual
theorem dOf_nkD : ∀ d : D, isKey d = true → dOf (nkD d) = d
  | .non, _ => by simp [nkD, dOf]
  | .int _, _ => by simp [nkD, dOf]
  | .str _, _ => by simp [nkD, dOf]
  | .tup ds, h => by simp only [nkD, dOf]; rw [dOfs_nkDs ds (by simpa only [isKey] using h)]
  | .bl _, h => by simp [isKey] at h
  | .ty _, h => by simp [isKey] at h
  | .cl _, h => by simp [isKey] at h
  | .ref _, h => by simp [isKey] at h
  | .lst _, h => by simp [isKey] at h
  | .dic _, h => by simp [isKey] at h
  | .obj _ _, h => by simp [isKey] at h
theorem dOfs_nkDs : ∀ ds : List D, isKeys ds = true → dOfs (nkDs ds) = ds
  | [], _ => by simp [nkDs, dOfs]
  | d :: ds, h => by
    simp only [isKeys, Bool.and_eq_true] at h
    simp only [nkDs, dOfs]
    rw [dOf_nkD d h.1, dOfs_nkDs ds h.2]
end
mutual
theorem nkD_dOf : ∀ k : NestedKey, nkD (dOf k) = k
  | .none => by simp [nkD, dOf]
  | .num _ => by simp [nkD, dOf]
  | .text _ => by simp [nkD, dOf]
  | .tup ks => by simp only [dOf, nkD]; rw [nkDs_dOfs ks]
theorem nkDs_dOfs : ∀ ks : List NestedKey, nkDs (dOfs ks) = ks
  | [] => by simp [nkDs, dOfs]
  | k :: ks => by simp only [dOfs, nkDs]; rw [nkD_dOf k, nkDs_dOfs ks]
end
mutual
theorem toPy_dOf : ∀ k : NestedKey, toPy (dOf k) = k.data
  | .none => by simp [toPy, dOf, NestedKey.data]
  | .num _ => by simp [toPy, dOf, NestedKey.data]
  | .text _ => by simp [toPy, dOf, NestedKey.data]
  | .tup ks => by simp only [dOf, toPy, NestedKey.data]; rw [toPys_dOfs ks]
theorem toPys_dOfs : ∀ ks : List NestedKey, toPys (dOfs ks) = NestedKey.datas ks
  | [] => by simp [toPys, dOfs, NestedKey.datas]
  | k :: ks => by simp only [dOfs, toPys, NestedKey.datas]; rw [toPy_dOf k, toPys_dOfs ks]
end
mutual
theorem isPy_dOf : ∀ k : NestedKey, isPy (dOf k) = true
  | .none => by simp [isPy, dOf]
  | .num _ => by simp [isPy, dOf]
  | .text _ => by simp [isPy, dOf]
  | .tup ks => by simp only [dOf, isPy]; exact isPys_dOfs ks
theorem isPys_dOfs : ∀ ks : List NestedKey, isPys (dOfs ks) = true
  | [] => by simp [isPys, dOfs]
  | k :: ks => by simp only [dOfs, isPys, isPy_dOf k, isPys_dOfs ks, Bool.and_self]
end
def leD (a b : D) : Bool := W.dataLe false toPy a b
theorem leD_dOf (a b : NestedKey) : leD (dOf a) (dOf b) = W.dataLe false NestedKey.data a b := by
  unfold leD W.dataLe W.sortLe
  simp only [toPy_dOf]
theorem leD_total : W.TotalLe leD := dataLe_total toPy
/-- a tuple that may stand in a set and be sorted -/
def keyTup : D → Bool
  | .tup (d :: ds) => isKeys (d :: ds) && decide ((nkD (.tup (d :: ds))).depth ≤ 8) && decide ((toPy (.tup (d :: ds))).depth ≤ 30)
  | _ => false
def alikes (ds : List D) : Bool := ds.all fun a => ds.all fun b => W.alike (toPy a) (toPy b)
theorem leD_anti {a b : D} (ha : keyTup a = true) (hb : keyTup b = true) (h : W.alike (toPy a) (toPy b) = true) (h1 : leD a b = true) (h2 : leD b a = true) : a = b := by
  have key : ∀ d, keyTup d = true → isKey d = true := fun d h => by
    unfold keyTup at h
    split at h
    · simp only [Bool.and_eq_true] at h
      simp only [isKey]; exact h.1.1
    · cases h
  have ea := dOf_nkD a (key a ha)
  have eb := dOf_nkD b (key b hb)
  rw [← ea, ← eb] at h h1 h2 ⊢
  rw [toPy_dOf, toPy_dOf] at h
  rw [leD_dOf] at h1 h2
  have h1 : (!W.dataLt (nkD b).data (nkD a).data) = true := h1
  have h2 : (!W.dataLt (nkD a).data (nkD b).data) = true := h2
  rw [key_anti h (by simpa using h1) (by simpa using h2)]
/-- sorted(set(ds)), tuples -/
def sortSet (ds : List D) : List D := isort leD (nub ds)
theorem sortSet_congr {ds es : List D} (h : ∀ d, d ∈ ds ↔ d ∈ es) (hk : ds.all keyTup = true) (ha : alikes ds = true) : sortSet ds = sortSet es := by
  refine isort_same leD_total (perm_nub (nodup_nub ds) fun x => mem_nub.trans (h x)) fun a ma b mb h1 h2 => ?_
  rw [mem_nub] at ma mb
  unfold alikes at ha
  rw [List.all_eq_true] at hk ha
  exact leD_anti (hk a ma) (hk b mb) (List.all_eq_true.mp (ha a ma) b mb) h1 h2
theorem mem_sortSet {ds : List D} {d : D} : d ∈ sortSet ds ↔ d ∈ ds := ((isort_perm _).mem_iff).trans mem_nub
def sortI (ns : List Int) : List Int := isort (fun a b => decide (a ≤ b)) (nub ns)
theorem mem_sortI {ns : List Int} {d : Int} : d ∈ sortI ns ↔ d ∈ ns := ((isort_perm _).mem_iff).trans mem_nub
theorem leI_total : W.TotalLe fun a b : Int => decide (a ≤ b) := ⟨fun a b c h1 h2 => by simp at *; omega, fun a b => by simp; omega⟩
theorem sortI_of {ns out : List Int} (h : out.Pairwise (· < ·)) (m : ∀ k, k ∈ out ↔ k ∈ ns) : out = sortI ns := by
  have nd : out.Nodup := h.imp fun h => by omega
  refine sorted_one (le := fun a b => decide (a ≤ b)) ((perm_nub nd m).trans (isort_perm _).symm) (h.imp fun h => by simp; omega) (isort_sorted leI_total _) fun a _ b _ h1 h2 => ?_
  simp at h1 h2; omega
end VI
namespace VI
open PySem PySem.Spec PyProof.Rows L2
/-! ### sorted(..), sorted(set(..)), len(set(..)) by value -/
/-- a tuple's or a list's items -/
def colOf (d : D) (st : Store) : Option (List D) := match d with
  | .tup ds => some ds
  | d => (lstOf d st).map (·.1)
def intsD : List D → Option (List Int)
  | [] => some []
  | .int i :: ds => (intsD ds).map fun is => i :: is
  | _ => none
def okKeys (ds : List D) : Bool := decide (ds.length < 307) && ds.all keyTup && alikes ds
def fSortSet (ds : List D) (st : Store) : Res Wv := match ds with
  | [d] => match colOf d st with
    | none => .stuck
    | some ds => match intsD ds with
      | some is => if is.length < 1000 ∧ (nub is).length < 64 then .ok (.new (.lst ((sortI is).map D.int))) st else .stuck
      | none => if okKeys ds = true then .ok (.new (.lst (sortSet ds))) st else .stuck
  | _ => .stuck
def fLenSet (ds : List D) (st : Store) : Res Wv := match ds with
  | [d] => match colOf d st with
    | none => .stuck
    | some ds => if (decide (ds.length < 307) && ds.all keyTup) = true then .ok (.val (.int (nub ds).length)) st else .stuck
  | _ => .stuck
def plainD : D → Bool
  | .bl _ => true
  | .int _ => true
  | .str _ => true
  | .lst ds => isPys ds && decide ((toPy (.lst ds)).depth ≤ 30)
  | _ => false
def fullTup : D → Bool
  | .tup (d :: ds) => isPys (d :: ds) && decide ((toPy (.tup (d :: ds))).depth ≤ 30)
  | _ => false
def antis (ds : List D) : Bool := ds.all fun a => ds.all fun b => !(leD a b && leD b a) || decide (a = b)
def okSort (ds : List D) : Bool := (ds.all plainD || ds.all fullTup) && alikes ds && antis ds
def fSorted (ds : List D) (st : Store) : Res Wv := match ds with
  | [d] => match lstOf d st with
    | none => .stuck
    | some (ds, _) => if okSort ds = true then .ok (.new (.lst (isort leD ds))) st else .stuck
  | _ => .stuck
section
variable {X : Cx} {G : Gx} {E : WX} {as as' : List Addr} {st st' : Store} {H : Hp} {L : Addr → Prop}
theorem colOf_sq (s : StR G as st H) {d : D} {v : V} {ds : List D} (r : RelD G as (Live as st) H d v) (h : colOf d st = some ds) :
    ∃ p vs, v = .ref p ∧ (SqL G.K H p vs ∨ SqT G.K H p vs) ∧ RelDs G as (Live as st) H ds vs := by
  have other : (lstOf d st).map (·.1) = some ds → ∃ p vs, v = .ref p ∧ (SqL G.K H p vs ∨ SqT G.K H p vs) ∧ RelDs G as (Live as st) H ds vs := fun h => by
    cases q : lstOf d st with
    | none => rw [q] at h; cases h
    | some x =>
      rw [q] at h
      obtain ⟨ds', src⟩ := x
      cases h
      obtain ⟨p, vs, e, h1, h2⟩ := lstOf_sq s r q
      exact ⟨p, vs, e, .inl h1, h2⟩
  cases d with
  | tup es =>
    cases h
    cases r with
    | tup h1 h2 => exact ⟨_, _, rfl, .inr h1, h2⟩
  | _ => exact other h
theorem intsD_rel : ∀ {ds : List D} {vs : List V} {is : List Int}, RelDs G as L H ds vs → intsD ds = some is → vs = is.map V.int
  | _, _, _, .nil, h => by cases h; rfl
  | _, _, is, .cons (ds := ds) r t, h => by
    cases r with
    | int b =>
      simp only [intsD] at h
      cases q : intsD ds with
      | none => rw [q] at h; cases h
      | some bs' =>
        rw [q] at h
        cases h
        rw [intsD_rel t q]; rfl
    | _ => simp only [intsD] at h; cases h
theorem callR_or {f : Value} {r r' : List V → Hp → VK → Prop} (h : CallR X f r) (h' : CallR X f r') : CallR X f (fun vs H Q => r vs H Q ∨ r' vs H Q) := by
  intro pins s σ H vs us Q I rv q
  rcases q with q | q
  · exact h pins s σ H vs us Q I rv q
  · exact h' pins s σ H vs us Q I rv q
/-- what stands behind a key -/
def NodeAt (G : Gx) (as : List Addr) (L : Addr → Prop) (H : Hp) (p : Addr × NestedKey) : Prop := KeyAt G.K H p ∧ RelD G as L H (dOf p.2) (.ref p.1) ∧ keyTup (dOf p.2) = true
theorem keyTup_key {d : D} (h : keyTup d = true) : isKey d = true ∧ (nkD d).depth ≤ 8 ∧ (toPy d).depth ≤ 30 ∧ ∃ x r, d = .tup (x :: r) := by
  unfold keyTup at h
  split at h
  · simp only [Bool.and_eq_true, decide_eq_true_eq] at h
    exact ⟨by simp only [isKey]; exact h.1.1, h.1.2, h.2, _, _, rfl⟩
  · cases h
theorem keys_of : ∀ {ds : List D} {vs : List V}, RelDs G as L H ds vs → (∀ d ∈ ds, keyTup d = true) →
    ∃ ps : List (Addr × NestedKey), vs = ps.map (fun p => V.ref p.1) ∧ ps.map (fun p => dOf p.2) = ds ∧ ∀ p ∈ ps, NodeAt G as L H p
  | _, _, .nil, _ => ⟨[], rfl, rfl, fun p h => (by cases h)⟩
  | _, _, .cons (d := d) (v := v) r t, h => by
    obtain ⟨ps, e1, e2, e3⟩ := keys_of t fun x hx => h x (List.mem_cons_of_mem _ hx)
    have hd := h d List.mem_cons_self
    obtain ⟨k1, k2, k3, x, rr, k4⟩ := keyTup_key hd
    have ed := dOf_nkD d k1
    obtain ⟨a, ea⟩ : ∃ a, v = .ref a := by
      subst k4
      cases r with
      | tup _ _ => exact ⟨_, rfl⟩
    subst ea
    have hp : isPy d = true := by rw [← ed]; exact isPy_dOf _
    have dp := r.dp hp
    rw [← ed, toPy_dOf] at dp
    refine ⟨(a, nkD d) :: ps, by rw [e1]; rfl, by rw [List.map_cons, e2, ed], fun p hp => ?_⟩
    rcases List.mem_cons.mp hp with rfl | hp
    · exact ⟨⟨dp, k2⟩, by rw [ed]; exact r, by rw [ed]; exact hd⟩
    · exact e3 p hp
theorem rels_map {M : List (Addr × NestedKey)} (h : ∀ p ∈ M, RelD G as L H (dOf p.2) (.ref p.1)) : RelDs G as L H (M.map fun p => dOf p.2) (M.map fun p => V.ref p.1) := by
  induction M with
  | nil => exact .nil
  | cons p M ih => exact .cons (h p List.mem_cons_self) (ih fun q hq => h q (List.mem_cons_of_mem _ hq))
theorem Dp.ext : ∀ {v : V} {d : PyData} {H' : Hp}, Dp G.K H v d → (∀ b o, H b = some o → H' b = some o) → Dp G.K H' v d
  | _, _, _, .non, _ => .non
  | _, _, _, .bl b, _ => .bl b
  | _, _, _, .int i, _ => .int i
  | _, _, _, .str x, _ => .str x
  | _, _, _, .lst h t, k => .lst (h.imp (fun h => h.imp (k _ _) fun ⟨o, h⟩ => ⟨o, k _ _ h⟩) id) (DpAll.ext t k)
  | _, _, _, .tup h t, k => .tup (h.imp (fun h => h.imp (k _ _) fun ⟨o, h⟩ => ⟨o, k _ _ h⟩) id) (DpAll.ext t k)
where DpAll.ext : ∀ {vs : List V} {ds : List PyData} {H' : Hp}, DpAll G.K H vs ds → (∀ b o, H b = some o → H' b = some o) → DpAll G.K H' vs ds
  | _, _, _, .nil, _ => .nil
  | _, _, _, .cons h t, k => .cons (Dp.ext h k) (DpAll.ext t k)
def rSetA (K : PySem.W.Frag) (w : World) : List V → Hp → VK → Prop := fun vs H Q => rSetN K w vs H Q ∨ rSetI K w vs H Q
def rSortSetA (K : PySem.W.Frag) (w : World) : List V → Hp → VK → Prop := fun vs H Q => rSortN K w vs H Q ∨ rSortedSet w vs H Q
theorem alike_of {ds : List D} {L1 : List (Addr × NestedKey)} (h : alikes ds = true) (hm : ∀ p ∈ L1, dOf p.2 ∈ ds) : W.AllAlike (L1.map encN) := by
  unfold alikes at h
  rw [List.all_eq_true] at h
  intro d hd e he
  obtain ⟨p, hp, rfl⟩ := List.mem_map.mp hd
  obtain ⟨q, hq, rfl⟩ := List.mem_map.mp he
  have z := List.all_eq_true.mp (h _ (hm p hp)) _ (hm q hq)
  rw [toPy_dOf, toPy_dOf] at z
  exact z
theorem sortSet_key {ds : List D} {L1 : List (Addr × NestedKey)} (hok : ds.all keyTup = true) (ha : alikes ds = true) (nd : (L1.map (·.2)).Nodup) (hm : ∀ d, d ∈ L1.map (fun p => dOf p.2) ↔ d ∈ ds) :
    (L1.mergeSort (W.dataLe false encN)).map (fun p => dOf p.2) = sortSet ds := by
  rw [W.sort_maps (r := W.dataLe false encN) (s := leD) (fun p : Addr × NestedKey => dOf p.2) fun a _ b _ => (leD_dOf a.2 b.2).symm]
  have inj : ∀ a b : NestedKey, dOf a = dOf b → a = b := fun a b e => by rw [← nkD_dOf a, e, nkD_dOf]
  have n2 : (L1.map fun p => dOf p.2).Nodup := by
    have : (L1.map fun p => dOf p.2) = (L1.map (·.2)).map dOf := by rw [List.map_map]; rfl
    rw [this]
    exact List.pairwise_map.mpr (nd.imp fun h e => h (inj _ _ e))
  rw [List.all_eq_true] at hok
  unfold alikes at ha
  rw [List.all_eq_true] at ha
  have an : ∀ a ∈ L1.map (fun p => dOf p.2), ∀ b ∈ L1.map (fun p => dOf p.2), leD a b = true → leD b a = true → a = b := fun a ma b mb h1 h2 => leD_anti (hok a ((hm a).mp ma)) (hok b ((hm b).mp mb)) (List.all_eq_true.mp (ha a ((hm a).mp ma)) b ((hm b).mp mb)) h1 h2
  rw [isort_merge leD_total _ an]
  exact isort_same leD_total (perm_nub n2 hm) an
/-- set, then sorted -/
theorem callS_sortSet {w : World} : CallS G E fSortSet (fun vs H Q => rSetA G.K w vs H fun v H1 => rSortSetA G.K w [v] H1 Q) := by
  intro E' as st H ds xs Q s r p
  unfold fSortSet at p
  split at p
  · rename_i d
    cases r with
    | cons r t =>
    cases t
    split at p
    · exact p.elim
    · rename_i ds hd
      obtain ⟨l, vs, rfl, hl, hr⟩ := colOf_sq s r hd
      split at p
      · rename_i is hi
        have ev := intsD_rel hr hi
        subst ev
        split at p
        · rename_i hc
          refine .inr ⟨l, is, rfl, hl, hc.1, fun a ha => .inr ⟨a, _, _, rfl, upd_same, hc.2, fun ns q h1 h2 h3 hq => ?_⟩⟩
          have e : ns = sortI is := sortI_of h1 fun k => (h2 k).trans (by simp)
          have hqa : q ≠ a := fun z => by rw [z, upd_same] at hq; cases hq
          have hqH : H q = none := by rw [upd_ne hqa] at hq; exact hq
          have w1 := RelW.newLst (s.laid ha (o := SetO w a (fun j => decide (j ∈ is)) (nub is).length)) (vs := (sortI is).map V.int) (ds := (sortI is).map D.int) (rel_ints _) hq
          rw [e]
          exact p as _ ((Ext.lay ha).trans (Ext.lay hq) s.len) ((s.laid ha).laid hq) _ (w1.from fun b hb => (by
            by_cases hba : b = a
            · rw [hba]; exact ha
            · rw [upd_ne hba] at hb; exact hb))
        · exact p.elim
      · split at p
        · rename_i hok
          unfold okKeys at hok
          simp only [Bool.and_eq_true, decide_eq_true_eq] at hok
          obtain ⟨⟨hlen, hkt⟩, hal⟩ := hok
          have hkt' := List.all_eq_true.mp hkt
          obtain ⟨ps, rfl, e2, hps⟩ := keys_of hr hkt'
          have memD : ∀ q ∈ ps, dOf q.2 ∈ ds := fun q hq => e2 ▸ List.mem_map.mpr ⟨q, hq, rfl⟩
          refine .inl ⟨l, ps, rfl, hl, fun q hq => (hps q hq).1, by rw [← List.length_map (f := fun p : Addr × NestedKey => dOf p.2), e2]; exact hlen, fun a L ha sub all nd => ?_⟩
          have old : ∀ b o, H b = some o → upd H a (SetNO w a L) b = some o := fun b o e => by rw [upd_ne (ne_of_none e ha)]; exact e
          refine .inl ⟨a, L, rfl, upd_same, fun q hq => ⟨Dp.ext (hps q (sub q hq)).1.1 old, (hps q (sub q hq)).1.2⟩, alike_of hal fun q hq => memD q (sub q hq), .inl fun d hd => ?_, fun q hq => ?_, fun L1 q p1 hq => ?_⟩
          · obtain ⟨q, hq, rfl⟩ := List.mem_map.mp hd
            obtain ⟨_, _, _, x, rr, e⟩ := keyTup_key (hps q (sub q hq)).2.2
            refine ⟨toPy x, toPys rr, ?_⟩
            show q.2.data = _
            rw [← toPy_dOf, e]; simp only [toPy, toPys]
          · have := (keyTup_key (hps q (sub q hq)).2.2).2.2.1
            rw [toPy_dOf] at this
            exact this
          · have ev := sortSet_key (L1 := L1) hkt hal ((p1.map (·.2)).nodup_iff.mpr nd) fun d => by
              constructor
              · intro hd
                obtain ⟨q, hq, rfl⟩ := List.mem_map.mp hd
                exact memD q (sub q (p1.mem_iff.mp hq))
              · intro hd
                rw [← e2] at hd
                obtain ⟨q, hq, rfl⟩ := List.mem_map.mp hd
                obtain ⟨q', hq', e'⟩ := List.mem_map.mp (all q hq)
                exact List.mem_map.mpr ⟨q', p1.mem_iff.mpr hq', by rw [e']⟩
            have eL : ∀ q ∈ L1.mergeSort (W.dataLe false encN), q ∈ ps := fun q hq => sub q (p1.mem_iff.mp ((List.mergeSort_perm _ _).mem_iff.mp hq))
            have w1 := RelW.newLst (s.laid ha (o := SetNO w a L)) (rels_map fun q hq => ((hps q (eL q hq)).2.1).ext (Ext.lay ha) s.len) hq
            rw [ev] at w1
            exact p as _ ((Ext.lay ha).trans (Ext.lay hq) s.len) ((s.laid ha).laid hq) _ (w1.from fun b hb => (by
              by_cases hba : b = a
              · rw [hba]; exact ha
              · rw [upd_ne hba] at hb; exact hb))
        · exact p.elim
  · exact p.elim
theorem callS_lenSet {w : World} : CallS G E fLenSet (fun vs H Q => rSetA G.K w vs H fun v H1 => rLenN w [v] H1 Q) := by
  intro E' as st H ds xs Q s r p
  unfold fLenSet at p
  split at p
  · rename_i d
    cases r with
    | cons r t =>
    cases t
    split at p
    · exact p.elim
    · rename_i ds hd
      obtain ⟨l, vs, rfl, hl, hr⟩ := colOf_sq s r hd
      split at p
      · rename_i hok
        simp only [Bool.and_eq_true, decide_eq_true_eq] at hok
        obtain ⟨hlen, hkt⟩ := hok
        obtain ⟨ps, rfl, e2, hps⟩ := keys_of hr (List.all_eq_true.mp hkt)
        have memD : ∀ q ∈ ps, dOf q.2 ∈ ds := fun q hq => e2 ▸ List.mem_map.mpr ⟨q, hq, rfl⟩
        refine .inl ⟨l, ps, rfl, hl, fun q hq => (hps q hq).1, by rw [← List.length_map (f := fun p : Addr × NestedKey => dOf p.2), e2]; exact hlen, fun a L ha sub all nd => ⟨a, L, rfl, upd_same, ?_⟩⟩
        have inj : ∀ a b : NestedKey, dOf a = dOf b → a = b := fun a b e => by rw [← nkD_dOf a, e, nkD_dOf]
        have n2 : (L.map fun p => dOf p.2).Nodup := by
          have : (L.map fun p => dOf p.2) = (L.map (·.2)).map dOf := by rw [List.map_map]; rfl
          rw [this]
          exact List.pairwise_map.mpr (nd.imp fun h e => h (inj _ _ e))
        have pm := perm_nub (m := ds) n2 fun d => by
          constructor
          · intro hd
            obtain ⟨q, hq, rfl⟩ := List.mem_map.mp hd
            exact memD q (sub q hq)
          · intro hd
            rw [← e2] at hd
            obtain ⟨q, hq, rfl⟩ := List.mem_map.mp hd
            obtain ⟨q', hq', e'⟩ := List.mem_map.mp (all q hq)
            exact List.mem_map.mpr ⟨q', hq', by rw [e']⟩
        have el : L.length = (nub ds).length := by rw [← pm.length_eq, List.length_map]
        rw [el]
        exact p as _ (Ext.lay ha) (s.laid ha) _ (.int _)
      · exact p.elim
  · exact p.elim
/-- sorted of a list -/
theorem pairs_of : ∀ {ds : List D} {vs : List V}, RelDs G as L H ds vs → (∀ d ∈ ds, isPy d = true) →
    ∃ ps : List (V × D), vs = ps.map (·.1) ∧ ps.map (·.2) = ds ∧ ∀ p ∈ ps, RelD G as L H p.2 p.1
  | _, _, .nil, _ => ⟨[], rfl, rfl, fun p h => (by cases h)⟩
  | _, _, .cons (d := d) (v := v) r t, h => by
    obtain ⟨ps, e1, e2, e3⟩ := pairs_of t fun x hx => h x (List.mem_cons_of_mem _ hx)
    refine ⟨(v, d) :: ps, by rw [e1]; rfl, by rw [List.map_cons, e2], fun p hp => ?_⟩
    rcases List.mem_cons.mp hp with rfl | hp
    · exact r
    · exact e3 p hp
theorem rels_pairs {M : List (V × D)} (h : ∀ p ∈ M, RelD G as L H p.2 p.1) : RelDs G as L H (M.map (·.2)) (M.map (·.1)) := by
  induction M with
  | nil => exact .nil
  | cons p M ih => exact .cons (h p List.mem_cons_self) (ih fun q hq => h q (List.mem_cons_of_mem _ hq))
theorem plainD_py {d : D} (h : plainD d = true) : isPy d = true ∧ (toPy d).depth ≤ 30 ∧ toPy d ≠ .none ∧ ∀ xs, toPy d ≠ .tuple xs := by
  unfold plainD at h
  split at h
  · exact ⟨by simp [isPy], by simp [toPy, PyData.depth], by simp [toPy], fun xs => by simp [toPy]⟩
  · exact ⟨by simp [isPy], by simp [toPy, PyData.depth], by simp [toPy], fun xs => by simp [toPy]⟩
  · exact ⟨by simp [isPy], by simp [toPy, PyData.depth], by simp [toPy], fun xs => by simp [toPy]⟩
  · simp only [Bool.and_eq_true, decide_eq_true_eq] at h
    exact ⟨by simp only [isPy]; exact h.1, h.2, by simp [toPy], fun xs => by simp [toPy]⟩
  · cases h
theorem fullTup_py {d : D} (h : fullTup d = true) : isPy d = true ∧ (toPy d).depth ≤ 30 ∧ ∃ x r, toPy d = .tuple (x :: r) := by
  unfold fullTup at h
  split at h
  · rename_i d ds
    simp only [Bool.and_eq_true, decide_eq_true_eq] at h
    exact ⟨by simp only [isPy]; exact h.1, h.2, toPy d, toPys ds, by simp only [toPy, toPys]⟩
  · cases h
theorem callS_sorted : CallS G E fSorted (rSortD G.K) := by
  intro E' as st H ds xs Q s r p
  unfold fSorted at p
  split at p
  · rename_i d
    cases r with
    | cons r t =>
    cases t
    split at p
    · exact p.elim
    · rename_i ds src hd
      obtain ⟨l, vs, rfl, hl, hr⟩ := lstOf_sq s r hd
      split at p
      · rename_i hok
        unfold okSort at hok
        rw [Bool.and_eq_true, Bool.and_eq_true, Bool.or_eq_true] at hok
        obtain ⟨⟨hkind, hal⟩, han⟩ := hok
        have an : ∀ a ∈ ds, ∀ b ∈ ds, leD a b = true → leD b a = true → a = b := fun a ma b mb h1 h2 => by
          have z := List.all_eq_true.mp (List.all_eq_true.mp han a ma) b mb
          rw [h1, h2] at z
          simpa using z
        have py : ∀ d ∈ ds, isPy d = true ∧ (toPy d).depth ≤ 30 := fun d hd => by
          rcases hkind with h | h
          · have := plainD_py (List.all_eq_true.mp h d hd); exact ⟨this.1, this.2.1⟩
          · have := fullTup_py (List.all_eq_true.mp h d hd); exact ⟨this.1, this.2.1⟩
        obtain ⟨ps, rfl, e2, hps⟩ := pairs_of hr fun d hd => (py d hd).1
        have memD : ∀ q ∈ ps, q.2 ∈ ds := fun q hq => e2 ▸ List.mem_map.mpr ⟨q, hq, rfl⟩
        have em : (ps.map fun q => (q.1, toPy q.2)).map (·.1) = ps.map (·.1) := by rw [List.map_map]; rfl
        refine ⟨l, ps.map fun q => (q.1, toPy q.2), rfl, by rw [em]; exact hl, fun q hq => ?_, fun d hd e he => ?_, ?_, fun q hq => ?_, fun x hx => ?_⟩
        · obtain ⟨q', hq', rfl⟩ := List.mem_map.mp hq
          exact (hps q' hq').dp (py _ (memD q' hq')).1
        · rw [List.map_map] at hd he
          obtain ⟨q, hq, rfl⟩ := List.mem_map.mp hd
          obtain ⟨q', hq', rfl⟩ := List.mem_map.mp he
          unfold alikes at hal
          rw [List.all_eq_true] at hal
          exact List.all_eq_true.mp (hal _ (memD q hq)) _ (memD q' hq')
        · rcases hkind with h | h
          · refine .inr fun d hd => ?_
            rw [List.map_map] at hd
            obtain ⟨q, hq, rfl⟩ := List.mem_map.mp hd
            exact (plainD_py (List.all_eq_true.mp h _ (memD q hq))).2.2
          · refine .inl fun d hd => ?_
            rw [List.map_map] at hd
            obtain ⟨q, hq, rfl⟩ := List.mem_map.mp hd
            exact (fullTup_py (List.all_eq_true.mp h _ (memD q hq))).2.2
        · obtain ⟨q', hq', rfl⟩ := List.mem_map.mp hq
          exact (py _ (memD q' hq')).2
        · have s1 : ((ps.map fun q => (q.1, toPy q.2)).mergeSort (W.dataLe false encV)) = (ps.mergeSort fun a b => leD a.2 b.2).map fun q => (q.1, toPy q.2) :=
            (W.sort_maps (r := fun a b : V × D => leD a.2 b.2) (s := W.dataLe false encV) (fun q : V × D => (q.1, toPy q.2)) fun a _ b _ => rfl).symm
          have s2 : (ps.mergeSort fun a b => leD a.2 b.2).map (·.2) = isort leD ds := by
            rw [W.sort_maps (r := fun a b : V × D => leD a.2 b.2) (s := leD) (fun q : V × D => q.2) fun a _ b _ => rfl, e2, isort_merge leD_total _ an]
          rw [s1, List.map_map]
          have w1 := RelW.newLst s (rels_pairs fun q hq => hps q ((List.mergeSort_perm ps fun a b => leD a.2 b.2).mem_iff.mp hq)) hx
          rw [s2] at w1
          exact p as _ (Ext.lay hx) (s.laid hx) _ w1
      · exact p.elim
  · exact p.elim
variable {σ : L2.St} {Q : VK} {e : Expr} {pos p1 p2 : Pos} {m : EM} {ma : AM}
theorem tI_two {f : List D → Store → Res Wv} {r1 r2 : List V → Hp → VK → Prop} (hs : CallS G E f fun vs H Q => r1 vs H fun v H1 => r2 [v] H1 Q) (h : tI G E (evA f ma) σ H Q) : tCB r2 (tCons (tCB r1 (tAr G E ma)) tNil) σ H Q := by
  have z : tCB (fun vs H Q => r1 vs H fun v H1 => r2 [v] H1 Q) (tAr G E ma) σ H Q := tI_evA hs h
  exact z
theorem pI_sortSet {x1 x2 : Str} {pp : Pos} (ex1 : x1 = "sorted" := by rfl) (ex2 : x2 = "set" := by rfl) (hc : X.calm = true) (hu : X.A.units + 64 < cLine) (hK : G.K = X.K) (hg : Gl X "sorted") (hm : X.mg "sorted" = none) (hg2 : Gl X "set") (hm2 : X.mg "set" = none) (ha : PA X [e] (tAr G E ma))
    (he : starEach [e] X.env = (false, eval e X.env) :: starEach [] X.env := by rfl) : PE X (.Call (.Name "sorted" p1) [.Call (.Name "set" p2) [e] [] pp] [] pos) (tI G E (evA fSortSet ma)) := by
  have i1 := pe_callTy (pos := pp) (p := p2) (callR_or (cr_setN hc hu) (cr_setI hc)) hg2 hm2 (by decide +kernel) ha (by decide) (by decide) he rfl
  have i2 := pe_callB (pos := pos) (p := p1) (callR_or (cr_sortedN hc hu) (cr_sortedSet hc)) hg hm (by decide +kernel) (pa_cons i1 pa_nil (by rfl)) (by decide) (by decide) (by rfl) (by rfl)
  rw [← hK] at i2
  exact i2.vi fun _ _ _ => tI_two (callS_sortSet (w := X.w))
theorem pI_lenSet {pp : Pos} (hc : X.calm = true) (hu : X.A.units + 64 < cLine) (hK : G.K = X.K) (hg : Gl X "len") (hm : X.mg "len" = none) (hg2 : Gl X "set") (hm2 : X.mg "set" = none) (ha : PA X [e] (tAr G E ma))
    (he : starEach [e] X.env = (false, eval e X.env) :: starEach [] X.env := by rfl) : PE X (.Call (.Name "len" p1) [.Call (.Name "set" p2) [e] [] pp] [] pos) (tI G E (evA fLenSet ma)) := by
  have i1 := pe_callTy (pos := pp) (p := p2) (callR_or (cr_setN hc hu) (cr_setI hc)) hg2 hm2 (by decide +kernel) ha (by decide) (by decide) he rfl
  have i2 := pe_callB (pos := pos) (p := p1) (cr_lenN (X := X)) hg hm (by decide +kernel) (pa_cons i1 pa_nil (by rfl)) (by decide) (by decide) (by rfl) (by rfl)
  rw [← hK] at i2
  exact i2.vi fun _ _ _ => tI_two (callS_lenSet (w := X.w))
end
end VI
namespace VI
open PySem PySem.Spec PyProof.Rows L2
theorem room65 {k : Nat} {A : Around} (r : Room k A) : A.units + 65 < cLine := by have := r.un; omega
/-! ### methods without arguments -/
def evMt0 (T : String) (f : D → List D → Store → Res Wv) (o : EM) : EM := fun env st => (o env st).bind fun w st1 => if tyD w.d st1 = some T ∧ (T = "str" ∨ T = "list" ∨ T = "dict") then f w.d [] st1 else .stuck
def fClear (o : D) (ds : List D) (st : Store) : Res Wv := match o, ds with
  | .ref n, [] => match st[n]? with
    | some (some (.lst xs)) => .ok (.val .non) (st.set n (some (.lst [])))
    | _ => .stuck
  | _, _ => .stuck
section
variable {X : Cx} {G : Gx} {W : WX} {E : WX} {as as' : List Addr} {st st' : Store} {H : Hp} {L : Addr → Prop}
theorem pI_bm0 {T id : String} {o : Expr} {name : Str} {apos cpos : Pos} {f : D → List D → Store → Res Wv} {r : V → List V → Hp → VK → Prop} {mo : EM} (hK : G.K = X.K) (pa : PlainAttrs T) (slot : Slot T name id) (hty : typeOf (.builtin id) = pure (.type "method_descriptor")) (hm : MtR X id r) (hs : MtS' G W f r) (ho : PE X o (tI G W mo))
    (hbase : attributeBase o name X.env (eval o X.env) = eval o X.env := by rfl) (hline : (apos.endLine == cpos.line) = true := by rfl) : PE X (.Call (.Attribute o name apos) [] [] cpos) (tI G W (evMt0 T f mo)) :=
  (pe_bm0 pa slot hty hm ho hbase hline).vi fun σ H Q h => by
    rw [← hK]
    obtain ⟨as, st, env, s, er, p⟩ := h
    refine ⟨as, st, env, s, er, (p.bind s.len).mono fun w as1 st1 H1 e1 s1 p1 v1 r1 => ?_⟩
    split at p1
    · rename_i c
      exact ⟨tyD_v s1 r1.d c.1 c.2, hs _ as1 st1 H1 _ _ _ _ _ s1 r1.d .nil (p1.mono fun w as3 st3 H3 e3 s3 q v rv => q v (rv.from (fresh_of e1)))⟩
    · exact p1.elim
theorem mtS_clear : MtS' G E fClear rClear := by
  intro E' as st H d ds x xs Q s r rs p
  unfold fClear at p
  split at p
  · cases rs
    split at p
    · rename_i zs e
      cases r with
      | @ref _ a ha =>
      obtain ⟨a', ha', vs, hv, rr⟩ := s.cells _ _ e
      rw [ha] at ha'; cases ha'
      have live : Live as st a := ⟨_, _, ha, e⟩
      refine ⟨a, vs, rfl, rfl, hv, ?_⟩
      obtain ⟨a1, a2⟩ := s.write (d := .lst []) (o := .lst []) e ha ⟨[], upd_same, .nil⟩
      exact p as _ a2 a1 _ .non
    · exact p.elim
  · exact p.elim
/-! ### a cell given up: from now on it is a value -/
def evKill (i : Nat) : EM := fun env st => match env[i]? with
  | some (some (.ref m)) => match st[m]? with
    | some (some d) => .ok (.val d) (st.set m none)
    | _ => .stuck
  | _ => .stuck
theorem live_kill {m : Nat} {b : Addr} (h : Live as (st.set m none) b) : Live as st b := by
  obtain ⟨j, d, h1, h2⟩ := h
  by_cases hj : m = j
  · subst hj
    by_cases hlt : m < st.length
    · rw [List.getElem?_set_self hlt] at h2; cases h2
    · rw [List.getElem?_eq_none (by simp; omega)] at h2; cases h2
  · rw [List.getElem?_set_ne hj] at h2
    exact ⟨j, d, h1, h2⟩
theorem kill_ext (s : StR G as st H) (m : Nat) : Ext as st H as (st.set m none) H ∧ StR G as (st.set m none) H := by
  refine ⟨⟨List.prefix_refl _, fun i a h hi => ?_, fun i h => ?_, by simp, fun _ _ h _ => h, fun _ o h => ⟨o, h⟩⟩, ⟨by simp [s.len], s.nd, fun i d h => ?_, s.there⟩⟩
  · rw [List.getElem?_eq_none_iff.mpr hi] at h; cases h
  · by_cases hj : m = i
    · subst hj
      obtain ⟨hlt, _⟩ := List.getElem?_eq_some_iff.mp h
      rw [List.getElem?_set_self hlt]
    · rw [List.getElem?_set_ne hj]; exact h
  · have hj : m ≠ i := fun z => by
      subst z
      by_cases hlt : m < st.length
      · rw [List.getElem?_set_self hlt] at h; cases h
      · rw [List.getElem?_eq_none (by simp; omega)] at h; cases h
    rw [List.getElem?_set_ne hj] at h
    obtain ⟨a, h1, c⟩ := s.cells i d h
    exact ⟨a, h1, c.lessL fun b z => live_kill z⟩
theorem tI_kill {i : Nat} {σ : L2.St} {Q : VK} (h : tI G W (evKill i) σ H Q) : tVar i σ H Q := by
  obtain ⟨as, st, env, s, er, p⟩ := h
  unfold evKill at p
  split at p
  · rename_i m hm
    split at p
    · rename_i d hd
      obtain ⟨v, hv, r⟩ := er.2 i _ hm
      cases r with
      | @ref _ a ha =>
      obtain ⟨a', ha', c⟩ := s.cells m d hd
      rw [ha] at ha'; cases ha'
      obtain ⟨e1, s1⟩ := kill_ext s m
      have nl : ¬ Live as (st.set m none) a := fun ⟨j, d', h1, h2⟩ => by
        obtain ⟨hj, ej⟩ := List.getElem?_eq_some_iff.mp h1
        obtain ⟨hm', em⟩ := List.getElem?_eq_some_iff.mp ha
        have q := (List.getElem_inj s.nd).mp (ej.trans em.symm)
        subst q
        obtain ⟨hlt, _⟩ := List.getElem?_eq_some_iff.mp hd
        rw [List.getElem?_set_self hlt] at h2; cases h2
      exact ⟨_, hv, p as H e1 s1 _ ((c.lessL fun b z => live_kill z).val nl)⟩
    · exact p.elim
  · exact p.elim
theorem pI_kill {i : Nat} {x : Str} {pos : Pos} (hN : X.N[i]? = some x) (hv : Vis X.env.scope x) (hd : (x == ("__debug__" : Str)) = false := by decide) (hcd : (x == ("__classdict__" : Str)) = false := by decide) : PE X (.Name x pos) (tI G W (evKill i)) :=
  (pe_var hN hv hd hcd).vi fun _ _ _ => tI_kill
end
end VI
namespace VI
open PySem PySem.Spec PyProof.Rows L2
/-! ### mathematics: comprehensions whose tests and items write the store -/
def closedB (k : Nat) (st : Store) : Bool := st.all (cellLt k)
theorem closed_set {k n : Nat} {st : Store} {d : D} (h : closedB k st = true) (hd : refsLt k d = true) : closedB k (st.set n (some d)) = true := by
  unfold closedB at h ⊢
  rw [List.all_eq_true] at h ⊢
  intro x hx
  rcases List.mem_or_eq_of_mem_set hx with hx | rfl
  · exact h x hx
  · exact hd
theorem closed_none {k n : Nat} {st : Store} (h : closedB k st = true) : closedB k (st.set n none) = true := by
  unfold closedB at h ⊢
  rw [List.all_eq_true] at h ⊢
  intro x hx
  rcases List.mem_or_eq_of_mem_set hx with hx | rfl
  · exact h x hx
  · rfl
theorem closed_app {k : Nat} {st more : Store} : closedB k (st ++ more) = true ↔ closedB k st = true ∧ closedB k more = true := by
  unfold closedB
  rw [List.all_append, Bool.and_eq_true]
theorem cutOk_closed {st st' : Store} (hl : st.length ≤ st'.length) (h : closedB st.length (st'.take st.length) = true) : cutOk st st' = true := by
  unfold cutOk closedB at *
  simp [hl, h]
theorem lcGo_inv {α : Type} {iv : IterV} (hs : iv.src = none) {g : GD} {t : TM} {e : EM} {env : DEnv} (inj : α → D) (e1 : α → DEnv) (I : Nat → List D → Store → Prop) (k : Nat) :
    ∀ (items : List α) (i0 : Nat) (acc : List D) (b : Store), b.length = k → acc.length + items.length ≤ 100000 → I i0 acc b → (∀ d ∈ items, g (inj d) env = some (e1 d)) →
      (∀ j d, items[j]? = some d → ∀ acc b, b.length = k → I (i0 + j) acc b → ∃ c b1, t (e1 d) (b ++ [some (.lst acc)]) = .ok c (b1 ++ [some (.lst acc)]) ∧ b1.length = k ∧ (c = false → I (i0 + j + 1) acc b1) ∧
        (c = true → ∃ w b2, e (e1 d) (b1 ++ [some (.lst acc)]) = .ok w (b2 ++ [some (.lst acc)]) ∧ b2.length = k ∧ I (i0 + j + 1) (acc ++ [w.d]) b2)) →
      ∃ acc' b', lcGo iv g t e k (items.map inj) acc env (b ++ [some (.lst acc)]) = .ok acc' (b' ++ [some (.lst acc')]) ∧ b'.length = k ∧ I (i0 + items.length) acc' b'
  | [], i0, acc, b, hb, _, hI, _, _ => by
    refine ⟨acc, b, ?_, hb, hI⟩
    unfold lcGo
    have h1 : (b ++ [some (D.lst acc)])[k]? = some (some (.lst acc)) := by rw [← hb]; simp
    simp [List.map_nil, srcOk, hs, h1]
  | d :: items, i0, acc, b, hb, hl, hI, hg, hstep => by
    obtain ⟨c, b1, q1, hb1, n1, y1⟩ := hstep 0 d rfl acc b hb hI
    have h1 : (b ++ [some (D.lst acc)])[k]? = some (some (.lst acc)) := by rw [← hb]; simp
    simp only [List.length_cons] at hl
    have next : ∀ j x, items[j]? = some x → ∀ acc b, b.length = k → I (i0 + 1 + j) acc b → ∃ c b1, t (e1 x) (b ++ [some (.lst acc)]) = .ok c (b1 ++ [some (.lst acc)]) ∧ b1.length = k ∧ (c = false → I (i0 + 1 + j + 1) acc b1) ∧
        (c = true → ∃ w b2, e (e1 x) (b1 ++ [some (.lst acc)]) = .ok w (b2 ++ [some (.lst acc)]) ∧ b2.length = k ∧ I (i0 + 1 + j + 1) (acc ++ [w.d]) b2) := fun j x hx acc b hb hI => by
      have q := hstep (j + 1) x (by simpa using hx) acc b hb (by rw [show i0 + (j + 1) = i0 + 1 + j by omega]; exact hI)
      rw [show i0 + (j + 1) + 1 = i0 + 1 + j + 1 by omega] at q
      exact q
    rw [List.map_cons]
    unfold lcGo
    have go1 : srcOk iv (b ++ [some (.lst acc)]) = true := by simp [srcOk, hs]
    rw [if_pos ⟨go1, h1⟩, hg d List.mem_cons_self]
    simp only [q1, noX, bind_ok]
    have fl : i0 + (d :: items).length = i0 + 1 + items.length := by simp; omega
    rw [fl]
    cases c with
    | false =>
      rw [if_neg Bool.false_ne_true]
      exact lcGo_inv hs inj e1 I k items (i0 + 1) acc b1 hb1 (by omega) (n1 rfl) (fun x hx => hg x (List.mem_cons_of_mem _ hx)) next
    | true =>
      obtain ⟨w, b2, q2, hb2, I2⟩ := y1 rfl
      rw [if_pos rfl, q2]
      have h2 : (b2 ++ [some (D.lst acc)])[k]? = some (some (.lst acc)) := by rw [← hb2]; simp
      have h3 : (b2 ++ [some (D.lst acc)]).set k (some (.lst (acc ++ [w.d]))) = b2 ++ [some (.lst (acc ++ [w.d]))] := by
        rw [List.set_append_right _ _ (by omega), show k - b2.length = 0 by omega]; rfl
      simp only [noX, bind_ok]
      rw [if_pos ⟨h2, by omega⟩, h3]
      exact lcGo_inv hs inj e1 I k items (i0 + 1) (acc ++ [w.d]) b2 hb2 (by simp; omega) I2 (fun x hx => hg x (List.mem_cons_of_mem _ hx)) next
/-- a comprehension that writes the store, by an invariant -/
theorem evLc_inv {α : Type} {own : List Nat} {m : IM} {g : GD} {t : TM} {e : EM} {env : DEnv} {st st1 : Store} {items : List α} (inj : α → D) (e1 : α → DEnv) (I : Nat → List D → Store → Prop) (hm : m env st = .ok ⟨items.map inj, none⟩ st1) (hl : items.length ≤ 100000) (h0 : I 0 [] st1)
    (hc : ∀ acc b, b.length = st1.length → I items.length acc b → refsLts st1.length acc = true ∧ closedB st1.length b = true) (hg : ∀ d ∈ items, g (inj d) (wipeD env own) = some (e1 d))
    (hstep : ∀ j d, items[j]? = some d → ∀ acc b, b.length = st1.length → I j acc b → ∃ c b1, t (e1 d) (b ++ [some (.lst acc)]) = .ok c (b1 ++ [some (.lst acc)]) ∧ b1.length = st1.length ∧ (c = false → I (j + 1) acc b1) ∧
        (c = true → ∃ w b2, e (e1 d) (b1 ++ [some (.lst acc)]) = .ok w (b2 ++ [some (.lst acc)]) ∧ b2.length = st1.length ∧ I (j + 1) (acc ++ [w.d]) b2)) :
    ∃ acc b, evLc own m g t e env st = .ok (.new (.lst acc)) b ∧ b.length = st1.length ∧ I items.length acc b := by
  unfold evLc
  rw [hm]
  simp only [bind_ok]
  obtain ⟨acc, b, q, hb, hI⟩ := lcGo_inv (iv := ⟨items.map inj, none⟩) rfl inj e1 I st1.length items 0 [] st1 rfl (by simpa using hl) h0 hg (fun j d hd acc b hb hI => by
    have q := hstep j d hd acc b hb (by rw [Nat.zero_add] at hI; exact hI)
    rw [show 0 + j + 1 = j + 1 by omega]
    exact q)
  rw [Nat.zero_add] at hI
  obtain ⟨r1, r2⟩ := hc acc b hb hI
  refine ⟨acc, b, ?_, hb, hI⟩
  rw [q]
  simp only [bind_ok]
  have tk : (b ++ [some (D.lst acc)]).take st1.length = b := by rw [← hb]; simp
  rw [if_pos ⟨cutOk_closed (by simp; omega) (by rw [tk]; exact r2), r1⟩, tk]
end VI
namespace VI
open PySem PySem.Spec PyProof.Rows L2
theorem lcGo_mapS {α : Type} {g : GD} {t : TM} {e : EM} {env : DEnv} {iv : IterV} (st : Store) (hs : ∀ more : Store, srcOk iv (st ++ more) = true) (inj : α → D) (c : α → Bool) (f : α → D) (e1 : α → DEnv) : ∀ (items : List α) (acc : List D), items.length + acc.length ≤ 100000 →
    (∀ d ∈ items, g (inj d) env = some (e1 d) ∧ ∀ more : Store, t (e1 d) (st ++ more) = .ok (c d) (st ++ more) ∧ (c d = true → ∃ w, e (e1 d) (st ++ more) = .ok w (st ++ more) ∧ w.d = f d)) →
    lcGo iv g t e st.length (items.map inj) acc env (st ++ [some (.lst acc)]) = .ok (acc ++ (items.filter c).map f) (st ++ [some (.lst (acc ++ (items.filter c).map f))])
  | [], acc, _, _ => by
    unfold lcGo
    have : srcOk iv (st ++ [some (.lst acc)]) = true := hs _
    simp [this]
  | d :: items, acc, hl, h => by
    have ok : srcOk iv (st ++ [some (.lst acc)]) = true := hs _
    obtain ⟨h1, h2⟩ := h d List.mem_cons_self
    obtain ⟨h3, h4⟩ := h2 [some (D.lst acc)]
    have hc : (st ++ [some (.lst acc)])[st.length]? = some (some (.lst acc)) := by simp
    rw [List.map_cons]
    unfold lcGo
    rw [if_pos ⟨ok, hc⟩]
    simp only [h1, h3, noX_ok, bind_ok]
    simp only [List.length_cons] at hl
    cases q : c d with
    | true =>
      obtain ⟨w, hw, hd⟩ := h4 q
      rw [if_pos rfl, hw]
      simp only [noX_ok, bind_ok]
      rw [if_pos ⟨hc, by omega⟩, hd]
      have e2 : (st ++ [some (D.lst acc)]).set st.length (some (D.lst (acc ++ [f d]))) = st ++ [some (D.lst (acc ++ [f d]))] := by
        rw [List.set_append_right _ _ (Nat.le_refl _)]; simp
      rw [e2, lcGo_mapS st hs inj c f e1 items (acc ++ [f d]) (by simp; omega) fun x hx => h x (List.mem_cons_of_mem _ hx)]
      simp [List.filter_cons, q]
    | false =>
      rw [if_neg Bool.false_ne_true, lcGo_mapS st hs inj c f e1 items acc (by omega) fun x hx => h x (List.mem_cons_of_mem _ hx)]
      simp [List.filter_cons, q]

/-- a comprehension over a list that may be a cell -/
theorem evLc_mapS {own : List Nat} {m : IM} {g : GD} {t : TM} {e : EM} {env : DEnv} {st : Store} {items : List D} {src : Option Nat} (c : D → Bool) (f : D → D) (e1 : D → DEnv) (hm : m env st = .ok ⟨items, src⟩ st) (hsrc : ∀ k, src = some k → st[k]? = some (some (.lst items))) (hl : items.length ≤ 100000)
    (h : ∀ d ∈ items, g d (wipeD env own) = some (e1 d) ∧ ∀ more : Store, t (e1 d) (st ++ more) = .ok (c d) (st ++ more) ∧ (c d = true → ∃ w, e (e1 d) (st ++ more) = .ok w (st ++ more) ∧ w.d = f d))
    (hr : ∀ d ∈ items, c d = true → refsLt st.length (f d) = true) :
    evLc own m g t e env st = .ok (.new (.lst ((items.filter c).map f))) st := by
  have ok : ∀ more : Store, srcOk ⟨items, src⟩ (st ++ more) = true := fun more => by
    cases src with
    | none => rfl
    | some k =>
      have q := hsrc k rfl
      obtain ⟨hk, _⟩ := List.getElem?_eq_some_iff.mp q
      simp [srcOk, List.getElem?_append_left hk, q]
  unfold evLc
  rw [hm]
  simp only [bind_ok]
  have q := lcGo_mapS (iv := ⟨items, src⟩) (g := g) (t := t) (e := e) (env := wipeD env own) st ok (fun d => d) c f e1 items [] (by simpa using hl) h
  rw [List.map_id'] at q
  rw [q]
  simp only [bind_ok, List.nil_append]
  have hr' : refsLts st.length ((items.filter c).map f) = true := by
    rw [refsLts_all]
    intro d hd
    obtain ⟨x, hx, rfl⟩ := List.mem_map.mp hd
    obtain ⟨h1, h2⟩ := List.mem_filter.mp hx
    exact hr x h1 h2
  have e2 : (st ++ [some (D.lst ((items.filter c).map f))]).take st.length = st := by simp
  rw [if_pos ⟨cutOk_self _ _, hr'⟩, e2]
end VI
namespace VI
open PySem PySem.Spec PyProof.Rows L2
theorem chars_inj : ∀ {a b : List Char}, a.map Char.toNat = b.map Char.toNat → a = b
  | [], [], _ => rfl
  | [], _ :: _, h => by simp at h
  | _ :: _, [], h => by simp at h
  | x :: a, y :: b, h => by
    simp only [List.map_cons, List.cons.injEq] at h
    have h1 : x.val.toNat = y.val.toNat := h.1
    have e : x = y := Char.ext (UInt32.toNat_inj.mp h1)
    rw [e, chars_inj h.2]
@[simp] theorem ofStr_inj (a b : String) : (Str.ofString a = Str.ofString b) ↔ a = b := by
  constructor
  · intro h
    rw [Str.ofString_eq_toList, Str.ofString_eq_toList] at h
    have h1 := congrArg (fun s : Str => s.cps.toList) h
    simp only [List.toList_toArray] at h1
    exact String.toList_inj.mp (chars_inj h1)
  · intro h; rw [h]
@[simp] theorem ofStr_beq (a b : String) : (Str.ofString a == Str.ofString b) = decide (a = b) := by
  rw [Bool.eq_iff_iff]; simp
end VI
namespace VI
open PySem PySem.Spec PyProof.Rows L2
/-! ### promises where no repr is under way -/
structure FnG (P : Program) (w : World) (K : PySem.W.Frag) (mg : Str → Option Value) (base : Heap)
    (CX : CXT) (k : Nat) (f : Addr) (fd : FuncData) (ps : List Str) (sp : Sp) : Prop where
  ln : ∀ vs H Q E, sp vs H Q E → vs.length = ps.length
  go : ∀ (A : Around) (outer : List Env) (s : Shared) (H : Hp) (args : Args)
    (us : List Value) (vs : List V) (Q : VK) (E : XK), Room k A → A.guards = some [] →
      Env0 P w K mg base A outer s H → BindsTo s fd args (ps.zip us) → Vals vs us →
        sp vs H Q E → codeAny (model P w) A (.call (.ref f) args) (CR CX outer P w H s Q E) s
section
variable {P : Program} {w : World} {K : PySem.W.Frag} {mg : Str → Option Value} {base : Heap} {CX : CXT}
theorem FnG.of {k : Nat} {f : Addr} {fd : FuncData} {ps : List Str} {sp : Sp} (F : FnOk P w K mg base CX k f fd ps sp) : FnG P w K mg base CX k f fd ps sp :=
  ⟨F.len, fun A outer s H args us vs Q E hr _ => F.run A outer s H args us vs Q E hr⟩
theorem FnG.imp {k : Nat} {f : Addr} {fd : FuncData} {ps : List Str} {sp sp' : Sp} (F : FnG P w K mg base CX k f fd ps sp) (h : ∀ vs H Q E, sp' vs H Q E → sp vs H Q E) : FnG P w K mg base CX k f fd ps sp' :=
  ⟨fun vs H Q E z => F.ln vs H Q E (h _ _ _ _ z), fun A outer s H args us vs Q E hr hg e b r z => F.go A outer s H args us vs Q E hr hg e b r (h _ _ _ _ z)⟩
/-- a def's body keeps it -/
theorem fnG_of {x qual : Str} {st : Stmt} {f : Addr} {fd : FuncData} {N ps : List Str} {k : Nat} {sp : Sp} (F : Fun K x qual st f fd) (S : FnScope N ps (defScope st))
    (ln : ∀ vs H Q E, sp vs H Q E → vs.length = ps.length)
    (bd : ∀ (cdv : Value) (A : Around) (outer : List Env) (s : Shared) (H : Hp) (vs : List V) (Q : VK) (E : XK),
      Room k (A.deeper (envOfC qual (defScope st) s.heap.objs.size f cdv)) → (A.deeper (envOfC qual (defScope st) s.heap.objs.size f cdv)).guards = some [] →
      sp vs H Q E → ∃ t, PSs (cxOf CX P w K mg base N qual (defScope st) f cdv A outer s H E) (defBody st) t ∧ t { nx := fun _ H' => Q .non H', rt := Q } (L2.start N vs) H) :
    FnG P w K mg base CX (k + 1) f fd ps sp := by
  obtain ⟨oc, od, kV, doc, pm, an, cdv, ct, osl, rfl, lk, hcd⟩ := F.ex
  constructor
  · exact ln
  · intro A outer s H args us vs Q E hr hg e0 hb r z
    have n1 := ln _ _ _ _ z
    have kx : K.In s.heap := e0.mod.kin.keeps fun b o q => (e0.bs b o q).1
    have nl : s.heap.NoLimit := e0.mod.nolimit.keeps fun b o q => (e0.bs b o q).1
    have kinds : ∀ y ∈ ps.zip us, (defScope st).names.lookup y.1 = some .local ∨
        ((defScope st).names.lookup y.1 = some .cell ∧ ((cellsFrom (s.heap.objs.size + 1) (defScope st).names []).lookup y.1).isSome = true) := by
      rintro ⟨n, v⟩ hy
      rcases S.par n (List.of_mem_zip hy).1 with q | q
      · exact Or.inl q
      · exact Or.inr (And.intro q (PySem.W.cellsFrom_some _ _ _ (.inl q)))
    apply codeAny_call_function hr.depth (kx _ _ lk) rfl S.co S.gen rfl (PySem.W.codeRec_of kx hcd) (hb _ _ _ _ ?_)
    apply wpAny_newFunctionEnv_cells S.kind kinds
    intro env he s1 x
    subst he
    refine And.intro (nl.keeps x.toInCall.keep) (codeAny_func ?_)
    obtain ⟨t, ht, hq⟩ := bd cdv A outer s H vs Q E (hr.deeper _) hg z
    have J0 : Inv (cxOf CX P w K mg base N qual (defScope st) f cdv A outer s H E) [] (L2.start N vs) H s1 := inv_start S hr.hd e0 n1 r x
    refine wpAny_mono (ht.run [] s1 (L2.start N vs) H _ J0 hq) ?_ (fun e s' hs => hs)
    intro fl s' hs
    have done : ∀ {σ' : L2.St} {H' : Hp} {v : V} {u : Value}, Inv (cxOf CX P w K mg base N qual (defScope st) f cdv A outer s H E) [] σ' H' s' → RelV v u → Q v H' → CE outer P w H s Q u s' := by
      intro σ' H' v u J rv q
      exact ⟨v, H', J.os, J.bare, J.base, J.hok, rv, q⟩
    cases fl with
    | next => obtain ⟨σ', H', J, q⟩ := hs; exact done (v := V.non) (u := Value.none) J rfl q
    | ret u => obtain ⟨v, σ', H', J, rv, q⟩ := hs; exact done J rv q
    | brk => exact hs.elim fun _ z => z.elim fun _ z => False.elim z.2
    | cont => exact hs.elim fun _ z => z.elim fun _ z => False.elim z.2
end
section
variable {X : Cx} {CX : CXT} {k : Nat} {f : Addr} {fd : FuncData} {ps : List Str} {sp : Sp} {E : XK} {x : Str} {p pos : Pos} {e : Expr} {es : List Expr} {t : TA}
theorem runG_fn {pins : List (Addr × Obj)} {σ : L2.St} {H : Hp} {s : Shared} {Q : VK} {us : List Value} {vs : List V} (F : FnG X.prog X.w X.K X.mg X.base CX k f fd ps sp)
    (hr : Room k X.A) (hgd : X.A.guards = some []) (hb : Binds X.K fd ps []) (hx : Passes CX X E) (I : Inv X pins σ H s) (r : Vals vs us) (h : sp vs H Q E) :
    wpAny (model X.prog X.w) X.A (call (.ref f) us) (EP X pins σ Q) X.xe s := by
  have n1 : us.length = ps.length := by
    rw [← r.length]; exact F.ln _ _ _ _ h
  have hb' := hb s us I.kIn (by rw [List.append_nil]; exact n1)
  rw [List.append_nil] at hb'
  apply wpAny_call
  refine codeAny_mono (F.go X.A X.stack s H ⟨us, []⟩ us vs Q E hr hgd I.env0 hb' r h) ?_
  intro res s' hq
  match res, hq with
  | .error e, hq => exact hx pins σ H s e s' I hq
  | .ok (.ret u), hq => exact I.after hq
  | .ok .next, hq => exact hq.elim
  | .ok .brk, hq => exact hq.elim
  | .ok .cont, hq => exact hq.elim
theorem peG_call (F : FnG X.prog X.w X.K X.mg X.base CX k f fd ps sp) (hr : Room k X.A) (hgd : X.A.guards = some []) (hg : Gl X x) (hm : X.mg x = some (.ref f)) (hk : PySem.W.keepIn X.K (.ref f) = true) (hb : Binds X.K fd ps [])
    (hx : Passes CX X E) (ha : PA X (e :: es) t) (hdb : (x == ("__debug__" : Str)) = false := by decide)
    (he : starEach (e :: es) X.env = (false, eval e X.env) :: starEach es X.env := by rfl) (hpl : (backTo pos (starEach es X.env)).any (·.1) = false := by rfl) :
    PE X (.Call (.Name x p) (e :: es) [] pos) (fun σ H Q => t σ H fun vs H1 => sp vs H1 Q E) := by
  constructor
  intro pins s σ H Q I h
  apply wpAny_Call_Name_kw (ld_glob I hg hm ?_ hdb)
  exact PySem.W.callWith_K (h₀ := X.base) I.ok.mod.kin hk (thn (ha.run pos pins s σ H _ I h) fun us s1 ⟨vs, H1, I1, r, q⟩ => And.intro I1.kIn (runG_fn F hr hgd hb hx I1 r q)) he hpl
end
/-! by value -/
def OkG (P : Program) (w : World) (K : PySem.W.Frag) (mg : Str → Option Value) (base : Heap) (G : Gx) (k : Nat) (x : Str) (n : Nat) (fs : FnSem) : Prop :=
  ∃ a fd ps, FnG P w K mg base CX0 k a fd ps (spN G n fs) ∧ PySem.W.keepIn K (.ref a) = true ∧ Binds K fd ps [] ∧ mg x = some (.ref a)
section
variable {P : Program} {w : World} {K : PySem.W.Frag} {mg : Str → Option Value} {base : Heap} {G : Gx} {E : WX} {X : Cx}
theorem fnG_ok {x qual : Str} {st : Stmt} {f : Addr} {fd : FuncData} {N ps : List Str} {k n : Nat} {m : SM} (F : Fun K x qual st f fd) (S : FnScope N ps (defScope st)) (hn : N.length = n)
    (hb : ∀ (cdv : Value) (A : Around) (outer : List Env) (s : Shared) (H : Hp) (Ex : XK), Room k (A.deeper (envOfC qual (defScope st) s.heap.objs.size f cdv)) → (A.deeper (envOfC qual (defScope st) s.heap.objs.size f cdv)).guards = some [] →
      PSs (cxOf CX0 P w K mg base N qual (defScope st) f cdv A outer s H Ex).nox (defBody st) (tS G E0w m)) : FnG P w K mg base CX0 (k + 1) f fd ps (spN G ps.length (runP n m)) :=
  fnG_of F S (fun vs H Q E h => h.1) (fun cdv A outer s H vs Q Ex hr hg h => ⟨_, (hb cdv A outer s H Ex hr hg).nox, run_body hn h.2⟩)
theorem okG_of {x qual : Str} {st : Stmt} {N ps : List Str} {k n nn : Nat} {m : SM} (D : At K mg x qual st ps) (S : FnScope N ps (defScope st)) (hn : N.length = nn) (hp : ps.length = n)
    (hb : ∀ (f : Addr) (cdv : Value) (A : Around) (outer : List Env) (s : Shared) (H : Hp) (Ex : XK), Room k (A.deeper (envOfC qual (defScope st) s.heap.objs.size f cdv)) → (A.deeper (envOfC qual (defScope st) s.heap.objs.size f cdv)).guards = some [] →
      PSs (cxOf CX0 P w K mg base N qual (defScope st) f cdv A outer s H Ex).nox (defBody st) (tS G E0w m)) : OkG P w K mg base G (k + 1) x n (runP nn m) := by
  obtain ⟨a, fd, F, b, g⟩ := D
  subst hp
  exact ⟨a, fd, ps, fnG_ok F S hn (hb a), F.kp, b, g⟩
theorem pI_callG {k n : Nat} {x : Str} {p pos : Pos} {e : Expr} {es : List Expr} {m : AM} {fs : FnSem} (O : OkG X.prog X.w X.K X.mg X.base G k x n fs) (hr : Room k X.A) (hgd : X.A.guards = some []) (hg : Gl X x) (ha : PA X (e :: es) (tAr G E m))
    (hdb : (x == ("__debug__" : Str)) = false := by decide) (he : starEach (e :: es) X.env = (false, eval e X.env) :: starEach es X.env := by rfl) (hpl : (backTo pos (starEach es X.env)).any (·.1) = false := by rfl) : PE X (.Call (.Name x p) (e :: es) [] pos) (tI G E (evCall n fs m)) := by
  obtain ⟨a, fd, ps, F, kp, b, g⟩ := O
  refine (peG_call (E := fun _ _ _ => False) F hr hgd hg g kp b (fun _ _ _ _ _ _ _ h => h.elim) ha hdb he hpl).vi fun σ H Q h => ?_
  obtain ⟨as, st, env, s, er, p⟩ := h
  refine ⟨as, st, env, s, er, (p.bind s.len).mono fun ds as1 st1 H1 e1 s1 p1 vs r1 => ?_⟩
  split at p1
  · rename_i hn
    exact ⟨r1.len_of hn, as1, st1, ds, s1, r1, Post.noX (p1.mono fun w as3 st3 H3 e3 s3 q v rv => q v (rv.from (fresh_of e1)))⟩
  · exact p1.elim
end
/-! ### repr of data -/
def rRepr (K : PySem.W.Frag) : List V → Hp → VK → Prop := fun xs H Q => ∃ (x : V) (d : PyData), xs = [x] ∧ Dp K H x d ∧ d.showable = true ∧ d.hasDict = false ∧ d.depth ≤ 60 ∧ d.shown.length ≤ sizeLine ∧ Q (.str d.shown) H
theorem call_repr {X : Cx} (hu : X.A.units + 65 < cLine) (hgd : X.A.guards = some []) : CallR X (.builtin "repr") (rRepr X.K) := by
  intro pins s σ H xs us Q I r h
  obtain ⟨x, d, rfl, hd, hs, hn, hdp, hz, q⟩ := h
  obtain ⟨u, rfl, rx⟩ : ∃ u, us = [u] ∧ RelV x u := by
    cases r with
    | cons a t => cases t; exact ⟨_, rfl, a⟩
  obtain ⟨as, rd⟩ := Dp.reads I d x u hd rx
  cases hd with
  | non => cases rx; exact PySem.P.repr_of_none ⟨.str _, H, I.tok _, ⟨_, rfl⟩, q⟩
  | bl b => cases rx; exact PySem.P.repr_of_bool ⟨.str _, H, I.tok _, ⟨_, rfl⟩, q⟩
  | int i =>
    obtain ⟨t, rfl⟩ := rx
    exact PySem.P.repr_of_int (by simpa [PyData.showable] using hs) ⟨.str _, H, I.tok _, ⟨_, rfl⟩, q⟩
  | str z =>
    obtain ⟨t, rfl⟩ := rx
    exact PySem.P.repr_of_str ⟨.str _, H, I.tok _, ⟨_, rfl⟩, q⟩ (by simpa [PyData.shown] using hz)
  | lst h1 h2 =>
    obtain rfl : u = Value.ref _ := rx
    exact repr_of_reads' rd hs (PyData.noDict_hsm hn) hgd (by omega) (fun b o e => e) (fun h' u tk hk => ⟨.str _, H, I.kept (t' := tk) hk, ⟨u, rfl⟩, q⟩) hz
  | tup h1 h2 =>
    obtain rfl : u = Value.ref _ := rx
    exact repr_of_reads' rd hs (PyData.noDict_hsm hn) hgd (by omega) (fun b o e => e) (fun h' u tk hk => ⟨.str _, H, I.kept (t' := tk) hk, ⟨u, rfl⟩, q⟩) hz
def fRepr (ds : List D) (st : Store) : Res Wv := match ds with
  | [d] => if isPy (unref d st) = true ∧ (toPy (unref d st)).showable = true ∧ (toPy (unref d st)).hasDict = false ∧ (toPy (unref d st)).depth ≤ 60 ∧ (toPy (unref d st)).shown.length ≤ 100000 then .ok (.val (.str (toPy (unref d st)).shown)) st else .stuck
  | _ => .stuck
theorem callS_repr {G : Gx} {E : WX} : CallS G E fRepr (rRepr G.K) := by
  intro E' as st H ds xs Q s r p
  unfold fRepr at p
  split at p
  · split at p
    · rename_i c
      cases r with
      | cons r t =>
      cases t
      exact ⟨_, _, rfl, unref_dp s r c.1, c.2.1, c.2.2.1, c.2.2.2.1, szl c.2.2.2.2, p.now s _ (.str _)⟩
    · exact p.elim
  · exact p.elim
end VI
namespace VI
open PySem PySem.Spec PyProof.Rows L2
/-! ### the head for promises where no repr is under way -/
section
variable {P : Program} {w : World} {K : PySem.W.Frag} {mg mb : Str → Option Value} {CX : CXT} {k : Nat} {fa a : Addr} {fd : FuncData} {x : Str} {sp : Sp} {s1 : Shared} {vs : List Value} {ns : List Int}
abbrev LawEnd (s1 : Shared) (r : Result) (s' : Shared) : Prop := r = .ok (.ret (.bool true)) ∧ OldK s1.heap s'.heap ∧ s'.os = s1.os ∧ AllBare s'.gens
theorem lawG_core (kx : K.In s1.heap) (nsM : s1.heap.Ns mainGlobals mg) (nsB : s1.heap.Ns builtinsNs mb) (boot : ∀ y : Str, y ≠ "__name__" → mb y = bootBuiltins y) (lim : s1.heap.NoLimit) (gen0 : s1.gens = #[])
    (scr : s1.heap.get? a = some { cls := .type "list", data := .seq vs.toArray }) (room : Room k callerA)
    (F : ∀ base : Heap, K.In base → base.Ns mainGlobals mg → FnG P w K mg base CX k fa fd [x] sp) (bind : ∀ (s : Shared) (u : Value), BindsTo s fd ⟨[u], []⟩ [(x, u)])
    (noX : ∀ H e s', CX [] H s1 (fun _ _ _ => False) e s' → False) {H : Hp} (only : Only H) (want : sp [.ref a] H (fun v _ => v = .bl true) fun _ _ _ => False)
    (ok : HOk P w H s1.heap) (at1 : ∀ b, H b ≠ none → b = a) (atK : H a ≠ none → K.lookup a = none) :
    codeAny (model P w) callerA (.call (.ref fa) ⟨[.ref a], []⟩) (LawEnd s1) s1 := by
  have isA : ∀ {b : Addr} {u : HO}, H b = some u → b = a := fun {b u} q => at1 b (by rw [q]; exact fun z => nomatch z)
  have keepD : ∀ {b : Addr} {o : Obj} {es : Array DictEntry} {ep : Nat}, s1.heap.get? b = some o → o.data = .dict es ep → H b = none := by
    intro b o es ep e d
    cases q : H b with
    | none => rfl
    | some u =>
      obtain rfl := isA q
      rw [scr] at e
      cases e
      exact nomatch (show Data.seq vs.toArray _ = Data.dict es ep from d)
  have ns1 : ∀ {b : Addr} {m : Str → Option Value}, s1.heap.Ns b m → (hidT s1.heap H).Ns b m := by
    rintro b m ⟨o, es, ep, e, d, r⟩
    exact ⟨o, es, ep, hidT_get e (keepD e d), d, r⟩
  have inb : K.In (hidT s1.heap H) := by
    intro b o e
    refine hidT_get (kx b o e) ?_
    cases q : H b with
    | none => rfl
    | some u =>
      obtain rfl := isA q
      rw [atK (by rw [q]; exact fun z => nomatch z)] at e
      cases e
  obtain ⟨mc, lim1, lim2⟩ := lim
  have env0 : Env0 P w K mg (hidT s1.heap H) callerA [] s1 H := by
    refine ⟨rfl, ⟨inb, ns1 nsM, ⟨mb, ns1 nsB, boot⟩, ⟨mc, ns1 lim1, lim2⟩⟩, fun b o e => of_hidT e, Nat.le_of_eq (hidT_size _ _), trivial, ?_, ok, .of_eq gen0⟩
    intro b hb
    exact nomatch (show b ∈ ([] : List Addr) from hb)
  have run := (F _ inb (ns1 nsM)).go callerA [] s1 H ⟨[.ref a], []⟩ [.ref a] [.ref a] _ _ room rfl env0 (bind s1 (.ref a)) (.cons rfl .nil) want
  refine codeAny_mono run ?_
  intro r s' hr
  match r, hr with
  | .error e, hr => exact (noX H e s' hr).elim
  | .ok .next, hr => exact hr.elim
  | .ok .brk, hr => exact hr.elim
  | .ok .cont, hr => exact hr.elim
  | .ok (.ret u), hr =>
    obtain ⟨v, H', hos, hbare, hun, hok', hrel, hv⟩ := hr
    obtain rfl : v = .bl true := hv
    obtain rfl : u = Value.bool true := hrel
    refine ⟨rfl, OldK.of_keep ?_, hos, hbare⟩
    intro b o e
    cases q : H b with
    | none => exact hun.keep b o e q (fun z => nomatch (show b ∈ ([] : List Addr) from z)) (fun z => nomatch z)
    | some u =>
      rcases only b with z | ⟨ob, xs, z⟩
      · rw [z] at q; cases q
      · have z2 := hun.frzs b ob _ z
        obtain ⟨e1, _⟩ := ok b _ z
        obtain ⟨e2, _⟩ := hok' b _ z2
        rw [e] at e1
        cases e1
        exact e2
theorem lawG_call (kx : K.In s1.heap) (nsM : s1.heap.Ns mainGlobals mg) (nsB : s1.heap.Ns builtinsNs mb) (boot : ∀ y : Str, y ≠ "__name__" → mb y = bootBuiltins y) (lim : s1.heap.NoLimit) (gen0 : s1.gens = #[])
    (scr : s1.heap.get? a = some { cls := .type "list", data := .seq vs.toArray }) (scrI : IntsAre vs ns) (ln : ns.length ≤ sizeLine) (room : Room k callerA)
    (F : ∀ base : Heap, K.In base → base.Ns mainGlobals mg → FnG P w K mg base CX k fa fd [x] sp) (bind : ∀ (s : Shared) (u : Value), BindsTo s fd ⟨[u], []⟩ [(x, u)])
    (want : ∀ H : Hp, Only H → SqL K H a (ns.map V.int) → sp [.ref a] H (fun v _ => v = .bl true) fun _ _ _ => False)
    (noX : ∀ H e s', CX [] H s1 (fun _ _ _ => False) e s' → False) :
    codeAny (model P w) callerA (.call (.ref fa) ⟨[.ref a], []⟩) (LawEnd s1) s1 := by
  have rel := vals_ints scrI
  have lv := scrI.length
  cases hk : K.lookup a with
  | some o =>
    have e := kx a o hk
    rw [scr] at e
    cases e
    have only : Only fun _ => none := fun _ => Or.inl rfl
    have sq : SqL K (fun _ => none) a (ns.map V.int) := Or.inr ⟨_, vs.toArray, _, hk, rfl, rfl, rfl, by rw [List.size_toArray, lv]; exact ln, by simpa using rel⟩
    exact lawG_core kx nsM nsB boot lim gen0 scr room F bind noX only (want _ only sq) (fun b u z => nomatch (show (none : Option HO) = some u from z)) (fun b z => absurd rfl z) (fun z => absurd rfl z)
  | none =>
    let o1 : Obj := { cls := .type "list", data := .seq vs.toArray }
    let H1 : Hp := fun b => if b = a then some (.frz o1 (.lst (ns.map V.int))) else none
    have yes : H1 a = some (.frz o1 (.lst (ns.map V.int))) := if_pos rfl
    have no : ∀ {b : Addr}, b ≠ a → H1 b = none := fun h => if_neg h
    have only : Only H1 := by
      intro b
      by_cases hb : b = a
      · subst hb; exact Or.inr ⟨_, _, yes⟩
      · exact Or.inl (no hb)
    refine lawG_core kx nsM nsB boot lim gen0 scr room F bind noX only (want _ only (Or.inl (Or.inr ⟨o1, yes⟩))) ?_ ?_ (fun _ => hk)
    · intro b u z
      by_cases hb : b = a
      · subst hb
        rw [yes] at z
        cases z
        exact ⟨scr, by rw [List.length_map]; exact ln, vs, _, rel, scr⟩
      · rw [no hb] at z; cases z
    · intro b z
      by_cases hb : b = a
      · exact hb
      · exact absurd (no hb) z
end
theorem walkG_of {l : PySem.W.OpenLaw} {n k : Nat} {q : Program} {loose : List Str} {XP : (Str → Option Value) → Heap → Prop} {YP : World → Heap → Prop} {d : DefRec} {K : Params → PySem.W.Frag} {CX : World → CXT} {sp : World → Sp} {x : Str}
    (most : l.most = some n) (mostL : n ≤ sizeLine) (nodef : d.params.defaults = []) (room : Room k callerA) (inK : ∀ (w : World) (h : Heap), YP w h → (K w.params).In h)
    (F : ∀ (w : World) (mg : Str → Option Value) (fa : Addr) (h : Heap), (K w.params).In h → h.Ns mainGlobals mg → mg d.name = some (.ref fa) → ∃ fd : FuncData, (∀ (s : Shared) (u : Value), BindsTo s fd ⟨[u], []⟩ [(x, u)]) ∧
        ∀ base : Heap, (K w.params).In base → base.Ns mainGlobals mg → FnG l.prog w (K w.params) mg base (CX w) k fa fd [x] (sp w))
    (want : ∀ (w : World) (H : Hp) (a : Addr) (ns : List Int), ns.length ≤ n → Only H → SqL (K w.params) H a (ns.map V.int) → sp w [.ref a] H (fun v _ => v = .bl true) fun _ _ _ => False)
    (noX : ∀ (w : World) (H : Hp) (s : Shared) (e : Value) (s' : Shared), CX w [] H s (fun _ _ _ => False) e s' → False) :
    PySem.W.WalkO q loose XP YP l.row.toRowW d [] (fun f vs => PySem.call f vs) := by
  refine Att.attach_call most nodef fun w s0 s1 mg mb fa o pm cd doc a vs ns G Y ho hd hcd hmg hobj scrI ln hg => ?_
  have kx := inK w _ Y
  obtain ⟨fd, hb, hF⟩ := F w mg fa _ kx G.T.g hmg
  exact lawG_call kx G.T.g G.T.b G.T.builtins G.T.nolimit hg hobj scrI (Nat.le_trans ln mostL) room hF hb (fun H only sq => want w H a ns ln only sq) (fun H e s' => noX w H s1 e s')
end VI
namespace VI
open PySem PySem.Spec PyProof.Rows L2
section
variable {X : Cx} {G : Gx} {E : WX} {De : Ends} {as as' as1 : List Addr} {st st' st1 : Store} {H H' H1 : Hp} {σ : L2.St} {pos : Pos} {L : Addr → Prop}
/-! ### xs[::-1] -/
def evRev (m : EM) : EM := fun env st => (m env st).bind fun w st1 => match lstOf w.d st1 with
  | some (ds, _) => .ok (.new (.lst ds.reverse)) st1
  | none => .stuck
theorem RelDs.rev {ds : List D} {vs : List V} (r : RelDs G as L H ds vs) : RelDs G as L H ds.reverse vs.reverse := by
  induction ds generalizing vs with
  | nil => cases r; exact .nil
  | cons d ds ih =>
    cases r with
    | cons r t =>
      rw [List.reverse_cons, List.reverse_cons]
      exact (ih t).append (.cons r .nil)
theorem pI_rev {e : Expr} {k : Nat} {p1 p2 p3 : Pos} {m : EM} (hK : G.K = X.K) (he : PE X e (tI G E m)) : PE X (.Subscript e (.Slice none none (some (.UnaryOp .USub (.Constant (.int 1) k p1) p2)) p3) pos) (tI G E (evRev m)) :=
  (pe_revL he).vi fun σ H Q ⟨as, st, env, s, er, p⟩ => ⟨as, st, env, s, er, (p.bind s.len).mono fun w as1 st1 H1 e1 s1 p1 v r => by
    split at p1
    · rename_i ds src hl
      obtain ⟨pa, vs, rfl, h1, hr⟩ := lstOf_sq s1 r.d hl
      rw [← hK]
      exact ⟨pa, vs, rfl, h1, fun t ht => p1 as1 _ (Ext.lay ht) (s1.laid ht) _ ((RelW.newLst s1 hr.rev ht).from (fresh_of e1))⟩
    · exact p1.elim⟩
/-! ### a text so many times -/
def fMulA (a b : D) (st : Store) : Res Wv := match a, b with
  | .str x, .int n => if x.length ≤ 1000 ∧ 0 ≤ n ∧ n ≤ 1000 then .ok (.val (.str (Txt.mul x n))) st else .stuck
  | a, b => fMulT a b st
def rMulS : R2 := fun x y H Q => ∃ i n, x = .str i ∧ y = .int n ∧ MulOk i n ∧ Q (.str (Txt.mul i n)) H
theorem op_mulS : OpR X (binaryOp .Mult) rMulS := by
  intro pins s σ H x y v u Q I rx ry h
  obtain ⟨i, n, rfl, rfl, ok, q⟩ := h
  obtain ⟨t, rfl⟩ := rx
  obtain ⟨t2, rfl⟩ := ry
  exact SB.mul ok fun t' k => ⟨.str _, H, I.tok _, ⟨_, rfl⟩, q⟩
theorem mulOk {x : Str} {n : Int} (h : x.length ≤ 1000) (h0 : 0 ≤ n) (h1 : n ≤ 1000) : MulOk x n := by
  refine ⟨by rw [decide_eq_false (by omega), decide_eq_false (by omega)]; rfl, fun h2 _ => ?_, fun h2 _ => ?_⟩
  · have : (9223372036854775 : Int) ≤ (2 ^ 63 - 1) / n := by
      rw [Int.le_ediv_iff_mul_le (by omega)]; omega
    omega
  · have e : x.length * n.toNat ≤ 1000 * 1000 := Nat.mul_le_mul h (by omega)
    unfold Builtin.Str.tooLong
    exact decide_eq_false (by have : (1000 * 1000 : Nat) < sizeLine := by decide
                              omega)
theorem opS_mulA : OpS G E fMulA (fun x y H Q => rMulS x y H Q ∨ (rI CMul (fun i j => .int (i * j)) x y H Q ∨ rRepT G.K x y H Q)) := by
  intro E' as st H d1 d2 x y Q s r1 r2 p
  unfold fMulA at p
  split at p
  · split at p
    · rename_i h
      cases r1; cases r2
      exact .inl ⟨_, _, rfl, rfl, mulOk h.1 h.2.1 h.2.2, p.now s _ (.str _)⟩
    · exact p.elim
  · exact .inr (opS_mulT (E := E) E' as st H _ _ x y Q s r1 r2 p)
/-! ### int(..), str(..) -/
def fInt1 (ds : List D) (st : Store) : Res Wv := match ds with
  | [.int i] => .ok (.val (.int i)) st
  | [.bl b] => .ok (.val (.int (if b then 1 else 0))) st
  | _ => .stuck
theorem callS_int1 : CallS G E fInt1 (fun xs H Q => (∃ i, xs = [.int i] ∧ Q (.int i) H) ∨ ∃ k, xs = [.bl k] ∧ Q (.int (if k then 1 else 0)) H) := by
  intro E' as st H ds xs Q s r p
  unfold fInt1 at p
  split at p
  · cases r with
    | cons r t =>
    cases t; cases r
    exact .inl ⟨_, rfl, p.now s _ (.int _)⟩
  · cases r with
    | cons r t =>
    cases t; cases r
    exact .inr ⟨_, rfl, p.now s _ (.int _)⟩
  · exact p.elim
def fStrI (ds : List D) (st : Store) : Res Wv := match ds with
  | [.int i] => if i.natAbs.log2 < 1920 then .ok (.val (.str (toString i : String))) st else .stuck
  | _ => .stuck
theorem callS_strI : CallS G E fStrI (fun xs H Q => ∃ i, xs = [.int i] ∧ i.natAbs.log2 < 1920 ∧ Q (.str (toString i)) H) := by
  intro E' as st H ds xs Q s r p
  unfold fStrI at p
  split at p
  · split at p
    · rename_i h
      cases r with
      | cons r t =>
      cases t; cases r
      exact ⟨_, rfl, h, p.now s _ (.str _)⟩
    · exact p.elim
  · exact p.elim
/-! ### a, b, .. = x, x a tuple, a list or a cell -/
def colX (d : D) (st : Store) : Option (List D) := match d with
  | .tup ds => some ds
  | d => (lstOf d st).map (·.1)
def sUn (gs : List GD) (m : EM) : SM := fun env st => SRes.of env (m env st) fun w st1 => match colX w.d st1 with
  | some ds => match gdSeq gs ds env with
    | some env1 => .nx env1 st1
    | none => .stuck
  | none => .stuck
def tGX (G : Gx) (gs : List GD) (sl : List Nat) : TG := fun v σ H Q => ∃ as st env d ds env', StR G as st H ∧ EnvR G as (Live as st) H env σ ∧ RelD G as (Live as st) H d v ∧ colX d st = some ds ∧ gdSeq gs ds env = some env' ∧ ∀ σ', EnvR G as (Live as st) H env' σ' → SameBut sl σ' σ → Q σ' H
theorem gdSeq_len : ∀ (gs : List GD) (ds : List D) (env env' : DEnv), gdSeq gs ds env = some env' → ds.length = gs.length
  | [], [], _, _, _ => rfl
  | [], _ :: _, _, _, h => nomatch h
  | _ :: _, [], _, _, h => nomatch h
  | g :: gs, d :: ds, env, env', h => by
    have h : (g d env).bind (fun env1 => gdSeq gs ds env1) = some env' := h
    cases q1 : g d env with
    | none => rw [q1] at h; cases h
    | some env1 =>
      rw [q1] at h
      simp [gdSeq_len gs ds env1 env' h]
theorem pG_unX {es : List Expr} {k : Nat} {gs : List GD} {sl : List Nat} {n : Nat} (hK : G.K = X.K) (hc : X.calm = true) (h : PGs X es (tGs G gs sl)) (hgs : gs.length = n)
    (hn : (assignEach es X.env).length = n := by rfl) (hst : (assignEach es X.env).findIdx? (·.1) = none := by rfl) : PG X (.Tuple es k pos) (tGX G gs sl) :=
  (L2.PG.viOr (pg_tup (k := k) (pos := pos) hc h hn hst) (pg_unl (k := k) (pos := pos) hc h hn hst)).vi fun v σ H Q ⟨as, st, env, d, ds, env', s, er, r, hcol, q, kk⟩ => by
    have ln := gdSeq_len _ _ _ _ q
    cases d with
    | tup ds' =>
      cases hcol
      cases r with
      | @tup _ p vs hT hd =>
        rw [hK] at hT
        exact .inl ⟨p, vs, rfl, hT, by rw [← hd.length, ln, hgs], as, st, env, _, env', s, er, hd, q, kk⟩
    | _ =>
      simp only [colX] at hcol
      cases hl : lstOf _ st with
      | none => rw [hl] at hcol; cases hcol
      | some ps =>
        obtain ⟨ds', src⟩ := ps
        rw [hl] at hcol
        cases hcol
        obtain ⟨p, vs, rfl, h1, hr⟩ := lstOf_sq s r hl
        rw [hK] at h1
        exact .inr ⟨p, vs, rfl, h1, by rw [← hr.length, ln, hgs], as, st, env, _, env', s, er, hr, q, kk⟩
theorem pS_un {es : List Expr} {k : Nat} {e : Expr} {m : EM} {gs : List GD} {sl : List Nat} {n : Nat} {p2 : Pos} (hK : G.K = X.K) (hc : X.calm = true) (he : PE X e (tI G E m)) (h : PGs X es (tGs G gs sl)) (hgs : gs.length = n)
    (hn : (assignEach es X.env).length = n := by rfl) (hst : (assignEach es X.env).findIdx? (·.1) = none := by rfl)
    (hs : swapsWithSole [.Tuple es k p2] e pos.line X.env = pure false := by rfl) (hw : swappedStores [.Tuple es k p2] e X.env = pure none := by rfl)
    (h1 : (assignEach [.Tuple es k p2] X.env).map (·.2) = [assign (.Tuple es k p2) X.env] := by rfl) : PS X (.Assign [.Tuple es k p2] e pos) (tS G E (sUn gs m)) :=
  (ps_asg he (pG_unX (k := k) (pos := p2) hK hc h hgs hn hst) hs hw h1).vi fun De σ H ⟨as, st, env, s, er, p⟩ => by
    refine ⟨as, st, env, s, er, (SPost.of s.len er p).mono fun w as1 st1 H1 e1 s1 p1 v r => ?_⟩
    split at p1
    · rename_i ds hcol
      split at p1
      · rename_i env1 q
        exact ⟨as1, st1, env, w.d, ds, env1, s1, er.ext e1 s.len, r.d, hcol, q, fun σ' er' _ => p1 as1 H1 σ' e1 s1 er'⟩
      · exact p1.elim
    · exact p1.elim
end
end VI
namespace VI
open PySem PySem.Spec PyProof.Rows L2
theorem le_lv {j m n : Nat} (h : j ≤ m) : j ≤ Nat.add m n := Nat.le_trans h (Nat.le_add_right m n)
/-- what never comes to an end promises anything -/
theorem ok_stuck {P : Program} {w : World} {K : PySem.W.Frag} {mg : Str → Option Value} {base : Heap} {G : Gx} {k n : Nat} {x qual : Str} {st : Stmt} {ps : List Str} (D : At K mg x qual st ps) (hp : ps.length = n) :
    Ok P w K mg base G k x n (fun _ _ => .stuck) := by
  obtain ⟨a, fd, F, b, g⟩ := D
  have no : ∀ vs H Q E, spN G n (fun _ _ => .stuck) vs H Q E → False := fun vs H Q E ⟨_, as, st, ds, s, r, p⟩ => p.elim
  exact ⟨a, fd, ps, ⟨fun vs H Q E h => (no _ _ _ _ h).elim, fun A outer s H args us vs Q E _ _ _ _ h => (no _ _ _ _ h).elim⟩, F.kp, b, g⟩
end VI
namespace VI
open PySem PySem.Spec PyProof.Rows L2
/-! ### comprehensions whose items leave cells behind -/
theorem lcGo_full {α : Type} {iv : IterV} (hs : iv.src = none) {g : GD} {t : TM} {e : EM} {env : DEnv} (inj : α → D) (e1 : α → DEnv) (I : Nat → List D → Store → Prop) (k : Nat) :
    ∀ (items : List α) (i0 : Nat) (acc : List D) (s : Store), s[k]? = some (some (.lst acc)) → acc.length + items.length ≤ 100000 → I i0 acc s → (∀ d ∈ items, g (inj d) env = some (e1 d)) →
      (∀ j d, items[j]? = some d → ∀ acc s, s[k]? = some (some (.lst acc)) → I (i0 + j) acc s → ∃ c s1, t (e1 d) s = .ok c s1 ∧ s1[k]? = some (some (.lst acc)) ∧ (c = false → I (i0 + j + 1) acc s1) ∧
        (c = true → ∃ w s2, e (e1 d) s1 = .ok w s2 ∧ s2[k]? = some (some (.lst acc)) ∧ I (i0 + j + 1) (acc ++ [w.d]) (s2.set k (some (.lst (acc ++ [w.d])))))) →
      ∃ acc' s', lcGo iv g t e k (items.map inj) acc env s = .ok acc' s' ∧ s'[k]? = some (some (.lst acc')) ∧ I (i0 + items.length) acc' s'
  | [], i0, acc, s, hk, _, hI, _, _ => by
    refine ⟨acc, s, ?_, hk, hI⟩
    unfold lcGo
    simp [List.map_nil, srcOk, hs, hk]
  | d :: items, i0, acc, s, hk, hl, hI, hg, hstep => by
    obtain ⟨c, s1, q1, hk1, n1, y1⟩ := hstep 0 d rfl acc s hk hI
    simp only [List.length_cons] at hl
    have next : ∀ j x, items[j]? = some x → ∀ acc s, s[k]? = some (some (.lst acc)) → I (i0 + 1 + j) acc s → ∃ c s1, t (e1 x) s = .ok c s1 ∧ s1[k]? = some (some (.lst acc)) ∧ (c = false → I (i0 + 1 + j + 1) acc s1) ∧
        (c = true → ∃ w s2, e (e1 x) s1 = .ok w s2 ∧ s2[k]? = some (some (.lst acc)) ∧ I (i0 + 1 + j + 1) (acc ++ [w.d]) (s2.set k (some (.lst (acc ++ [w.d]))))) := fun j x hx acc s hk hI => by
      have q := hstep (j + 1) x (by simpa using hx) acc s hk (by rw [show i0 + (j + 1) = i0 + 1 + j by omega]; exact hI)
      rw [show i0 + (j + 1) + 1 = i0 + 1 + j + 1 by omega] at q
      exact q
    rw [List.map_cons]
    unfold lcGo
    have go1 : srcOk iv s = true := by simp [srcOk, hs]
    rw [if_pos ⟨go1, hk⟩, hg d List.mem_cons_self]
    simp only [q1, noX, bind_ok]
    have fl : i0 + (d :: items).length = i0 + 1 + items.length := by simp; omega
    rw [fl]
    cases c with
    | false =>
      rw [if_neg Bool.false_ne_true]
      exact lcGo_full hs inj e1 I k items (i0 + 1) acc s1 hk1 (by omega) (n1 rfl) (fun x hx => hg x (List.mem_cons_of_mem _ hx)) next
    | true =>
      obtain ⟨w, s2, q2, hk2, I2⟩ := y1 rfl
      rw [if_pos rfl, q2]
      obtain ⟨hlt, _⟩ := List.getElem?_eq_some_iff.mp hk2
      simp only [noX, bind_ok]
      rw [if_pos ⟨hk2, by omega⟩]
      exact lcGo_full hs inj e1 I k items (i0 + 1) (acc ++ [w.d]) (s2.set k (some (.lst (acc ++ [w.d])))) (List.getElem?_set_self hlt) (by simp; omega) I2 (fun x hx => hg x (List.mem_cons_of_mem _ hx)) next
theorem evLc_full {α : Type} {own : List Nat} {m : IM} {g : GD} {t : TM} {e : EM} {env : DEnv} {st st1 : Store} {items : List α} (inj : α → D) (e1 : α → DEnv) (I : Nat → List D → Store → Prop) (hm : m env st = .ok ⟨items.map inj, none⟩ st1) (hl : items.length ≤ 100000) (h0 : I 0 [] (st1 ++ [some (.lst [])]))
    (hc : ∀ acc s, I items.length acc s → refsLts st1.length acc = true ∧ cutOk st1 s = true) (hg : ∀ d ∈ items, g (inj d) (wipeD env own) = some (e1 d))
    (hstep : ∀ j d, items[j]? = some d → ∀ acc s, s[st1.length]? = some (some (.lst acc)) → I j acc s → ∃ c s1, t (e1 d) s = .ok c s1 ∧ s1[st1.length]? = some (some (.lst acc)) ∧ (c = false → I (j + 1) acc s1) ∧
        (c = true → ∃ w s2, e (e1 d) s1 = .ok w s2 ∧ s2[st1.length]? = some (some (.lst acc)) ∧ I (j + 1) (acc ++ [w.d]) (s2.set st1.length (some (.lst (acc ++ [w.d])))))) :
    ∃ acc s, evLc own m g t e env st = .ok (.new (.lst acc)) (s.take st1.length) ∧ I items.length acc s := by
  unfold evLc
  rw [hm]
  simp only [bind_ok]
  obtain ⟨acc, s, q, _, hI⟩ := lcGo_full (iv := ⟨items.map inj, none⟩) rfl inj e1 I st1.length items 0 [] (st1 ++ [some (.lst [])]) (by simp) (by simpa using hl) h0 hg (fun j d hd acc s hk hI => by
    have q := hstep j d hd acc s hk (by rw [Nat.zero_add] at hI; exact hI)
    rw [show 0 + j + 1 = j + 1 by omega]
    exact q)
  rw [Nat.zero_add] at hI
  obtain ⟨r1, r2⟩ := hc acc s hI
  refine ⟨acc, s, ?_, hI⟩
  rw [q]
  simp only [bind_ok]
  rw [if_pos ⟨r2, r1⟩]
/-- statement by statement -/
theorem run_step {a b : SM} {env env' : DEnv} {s s' : Store} (h : a env s = .nx env' s') : sSeq a b env s = b env' s' := by
  rw [sSeq_s, h]; rfl
theorem run_ret {k : Nat} {b : SM} {args : List D} {s s' : Store} {w : Wv} (h : b (args.map some ++ List.replicate (k - args.length) none) s = .ret w s') : runP k b args s = fin s w s' := by
  unfold runP
  rw [h]
theorem itR1_of {me : EM} {env : DEnv} {st st1 : Store} {j : Int} (h : me env st = .ok (.val (.int j)) st1) (ok : okR j = true) : itR1 (acons me anil) env st = .ok ⟨rangeD 0 j.toNat, none⟩ st1 := by simp [h, ok]
end VI
namespace VI
open PySem PySem.Spec PyProof.Rows L2
abbrev Xs := List (NestedKey × Addr × Value)
/-! ### dicts whose keys are tuples -/
def KeysN (K : PySem.W.Frag) (H : Hp) (xs : Xs) : Prop := ∀ x ∈ xs, KeyAt K H (x.2.1, x.1)
def HasN (w : World) (H : Hp) (a : Addr) (xs : Xs) : Prop := H a = some (DicN w xs a) ∨ (xs = [] ∧ H a = some (.dK []))
section
variable {X : Cx} {pins : List (Addr × Obj)} {σ : L2.St} {H : Hp} {s : Shared} {a : Addr} {A : Around} {E : Value → Shared → Prop}
theorem dicN_new {P : Program} {w : World} {H' : Hp} {h' : Heap} {xs : Xs} (lo : (a == sysModules) = false) (hl : xs.length ≤ sizeLine) (hd : ∀ x ∈ xs, x.1.depth ≤ 8) (dd : h'.DictOfH (nestedKind P w) a xs) : ObjOk P w H' h' a (DicN w xs a) := by
  obtain ⟨o, es, ep, h1, h2, h3, h4, h5, h6⟩ := dd
  refine ⟨⟨lo, hl, h6, hd, o, es, ep, h1, h2, h3, h4⟩, ⟨o, h1⟩, ?_⟩
  rintro h1 h2 ⟨q1, q2, q3, q4, o, es, ep, q5, q6⟩ k
  exact ⟨q1, q2, q3, q4, o, es, ep, k o q5, q6⟩
theorem HasN.heap {xs : Xs} (I : Inv X pins σ H s) (h : HasN X.w H a xs) (hk : KeysN X.K H xs) : s.heap.DictOfH (nestedKind X.prog X.w) a xs ∧ (a == sysModules) = false ∧ xs.length ≤ sizeLine := by
  rcases h with h | ⟨rfl, h⟩
  · obtain ⟨⟨lo, hl, hn, hd, o, es, ep, h1, h2, h3, h4⟩, _, _⟩ := I.hok a _ h
    exact ⟨⟨o, es, ep, h1, h2, h3, h4, fun x hx => (hk x hx).isN I, hn⟩, lo, hl⟩
  · obtain ⟨z, lo, vs, rel, o, es, ep, h1, h2, h3, _, h5, _⟩ := dk_of I.hok h
    have hes : es.toList = [] := by
      cases rel
      cases q : es.toList with
      | nil => rfl
      | cons e r => rw [q] at h5; cases h5
    exact ⟨⟨o, es, ep, h1, h2, h3, hes, fun x hx => (nomatch hx), List.nodup_nil⟩, lo, Nat.zero_le _⟩
theorem HasN.mut {w : World} {xs : Xs} (h : HasN w H a xs) : Mut (H a) := by
  rcases h with h | ⟨rfl, h⟩ <;> rw [h] <;> exact True.intro
theorem HasN.ty {xs : Xs} (I : Inv X pins σ H s) (h : HasN X.w H a xs) (hk : KeysN X.K H xs) : s.TypeIs (.ref a) "dict" ∧ ∀ b, Value.ref a = .ref b → ∃ ob, s.heap.get? b = some ob ∧ ob.dict = none := by
  obtain ⟨dd, _, _⟩ := h.heap I hk
  refine ⟨dd.typeIs, fun b q => ?_⟩
  cases q
  obtain ⟨ob, _, _, h1, h2, _⟩ := dd
  exact ⟨ob, h1, h2.2.1⟩
/-- what stands at the key y -/
def DGetN (K : PySem.W.Frag) (w : World) (H : Hp) (a : Addr) (y : V) (o : Option V) : Prop := ∃ (xs : Xs) (b : Addr) (k : NestedKey), HasN w H a xs ∧ KeysN K H xs ∧ y = .ref b ∧ KeyAt K H (b, k) ∧ RelO o ((atKey xs k).map (·.2))
def DGet2 (K : PySem.W.Frag) (w : World) (H : Hp) (a : Addr) (y : V) (o : Option V) : Prop := DGet H a y o ∨ DGetN K w H a y o
theorem room_n {A : Around} (hu : A.units + 9 < cLine) : (nestedKind X.prog X.w).room A.in1 := by
  show A.units + 1 + 8 < cLine
  omega
def rDIn (K : PySem.W.Frag) (w : World) (neg : Bool) : R2 := fun x y H Q => ∃ (a : Addr) (o : Option V), y = .ref a ∧ DGet2 K w H a x o ∧ Q (.bl (if neg then !o.isSome else o.isSome)) H
theorem op_dIn (hu : X.A.units + 9 < cLine) : OpR X (compareOp .In) (rDIn X.K X.w false) := by
  intro pins s σ H x y v u Q I rx ry ⟨a, o, ey, g, q⟩
  subst ey
  obtain rfl : u = Value.ref a := ry
  rcases g with g | ⟨xs, b, k, hx, hk, ey, kb, ro⟩
  · exact d_in (by omega) I g rx fun s' I' => ⟨.bl _, H, I', rfl, q⟩
  · subst ey
    obtain rfl : v = Value.ref b := rx
    obtain ⟨dd, lo, hl⟩ := hx.heap I hk
    refine wpAny_in_heap (room_n hu) (kb.isN I) lo dd ?_
    have e := ro.isSome_eq
    rw [Option.isSome_map] at e
    rw [← e]
    exact ⟨.bl _, H, I.tok _, rfl, q⟩
theorem op_dNotIn (hu : X.A.units + 9 < cLine) : OpR X (compareOp .NotIn) (rDIn X.K X.w true) := by
  intro pins s σ H x y v u Q I rx ry ⟨a, o, ey, g, q⟩
  subst ey
  obtain rfl : u = Value.ref a := ry
  rcases g with g | ⟨xs, b, k, hx, hk, ey, kb, ro⟩
  · exact d_notIn (by omega) I g rx fun s' I' => ⟨.bl _, H, I', rfl, q⟩
  · subst ey
    obtain rfl : v = Value.ref b := rx
    obtain ⟨dd, lo, hl⟩ := hx.heap I hk
    refine wpAny_notIn_heap (room_n hu) (kb.isN I) lo dd ?_
    have e := ro.isSome_eq
    rw [Option.isSome_map] at e
    rw [← e]
    exact ⟨.bl _, H, I.tok _, rfl, q⟩
theorem d2_ty {y : V} {o : Option V} (I : Inv X pins σ H s) (g : DGet2 X.K X.w H a y o) : s.TypeIs (.ref a) "dict" := by
  rcases g with g | ⟨xs, b, k, hx, hk, _⟩
  · exact dict_typeIs I g
  · exact (hx.ty I hk).1
theorem d2_getItem {y v : V} {u : Value} {Q : Value → Shared → Prop} (hu : A.units + 9 < cLine) (I : Inv X pins σ H s) (g : DGet2 X.K X.w H a y (some v)) (ry : RelV y u) (h : ∀ w' s', Inv X pins σ H s' → RelV v w' → Q w' s') :
    wpAny (model X.prog X.w) A (getItem (.ref a) u) Q E s := by
  rcases g with g | ⟨xs, b, k, hx, hk, ey, kb, ro⟩
  · exact d_getItem (by omega) I g ry h
  · subst ey
    obtain rfl : u = Value.ref b := ry
    obtain ⟨dd, lo, hl⟩ := hx.heap I hk
    obtain ⟨w', hw, rw'⟩ := RelO.some_of (v := v) ro
    obtain ⟨p, hp, hp2⟩ := Option.map_eq_some_iff.mp hw
    refine wpAny_getItem_heap (knd := nestedKind X.prog X.w) (by show A.units + 1 + 8 < cLine; omega) (kb.isN I) dd hp ?_
    rw [hp2]
    exact h w' _ (I.tok _) rw'
/-- d[k] -/
def rIxD (K : PySem.W.Frag) (w : World) : R2 := fun x y H Q => ∃ (a : Addr) (v : V), x = .ref a ∧ DGet2 K w H a y (some v) ∧ Q v H
theorem ix_dict (hu : X.A.units + 9 < cLine) : IxR X (rIxD X.K X.w) := by
  intro value slice pins s σ H x y v u Q I rx ry ⟨a, z, ex, g, q⟩ hs
  subst ex
  obtain rfl : v = Value.ref a := rx
  have hT := d2_ty I g
  unfold subscriptTail
  refine wpAny_bind ?_
  rw [getitemInPython_of_ne hT.not_modules]
  refine wpAny_bind (wpAny_specialOf hT PySem.F.slot_dict_getitem.lookup ?_)
  have fin : wpAny (model X.prog X.w) X.A (subscripted slice false (.ref a) u) (fun r s3 => wpAny (model X.prog X.w) X.A (letTemporaryGo value (.ref a) r >>= fun _ => pure r) (EP X pins σ Q) X.xe s3) X.xe s := by
    rw [hs]
    exact wpAny_operating (d2_getItem hu I g ry fun w' s' I' rw' => wpAny_bind (wpAny_letTemporaryGo (wpAny_pure ⟨z, H, I', rw', q⟩)))
  first
    | exact wpAny_pure (wpAny_bind fin)
    | exact wpAny_bind (wpAny_pure (wpAny_bind fin))
    | exact wpAny_bind fin
end
end VI
namespace VI
open PySem PySem.Spec PyProof.Rows L2
section
variable {X : Cx} {pins : List (Addr × Obj)} {σ : L2.St} {H : Hp} {s : Shared} {a : Addr} {A : Around} {E : Value → Shared → Prop}
theorem storedH_len (xs : Xs) (k : NestedKey) (b : Addr) (v : Value) : (storedH xs k b v).length ≤ xs.length + 1 := by
  unfold storedH
  split <;> simp
theorem storedH_mem {xs : Xs} {k : NestedKey} {b : Addr} {v : Value} {x : NestedKey × Addr × Value} (h : x ∈ storedH xs k b v) : (∃ u, (x.1, x.2.1, u) ∈ xs) ∨ (x.1 = k ∧ x.2.1 = b) := by
  unfold storedH at h
  split at h
  · obtain ⟨y, hy, e⟩ := List.mem_map.mp h
    unfold putAt at e
    split at e
    · subst e; exact .inl ⟨y.2.2, hy⟩
    · subst e; exact .inl ⟨y.2.2, hy⟩
  · rcases List.mem_append.mp h with h | h
    · exact .inl ⟨x.2.2, h⟩
    · rw [List.mem_singleton.mp h]; exact .inr ⟨rfl, rfl⟩
/-- d[k] = v -/
def rSetD (K : PySem.W.Frag) (w : World) : TSet := fun o i v H Q => ∃ a : Addr, o = .ref a ∧
  ((∃ (kvs : List (Key × V)) (k : Key), H a = some (.dK kvs) ∧ i = kV k ∧ kvs.length < sizeLine ∧ Q (upd H a (.dK (putK kvs k v)))) ∨
   ∃ (xs : Xs) (b : Addr) (k : NestedKey), HasN w H a xs ∧ KeysN K H xs ∧ i = .ref b ∧ KeyAt K H (b, k) ∧ xs.length < sizeLine ∧ ∀ u : Value, RelV v u → Q (upd H a (DicN w (storedH xs k b u) a)))
theorem set_dict (hu : X.A.units + 9 < cLine) : PSet X (rSetD X.K X.w) := by
  intro pins s σ H o i v ov iv u Q I ro ri rv ⟨a, eo, h⟩
  subst eo
  obtain rfl : ov = Value.ref a := ro
  rcases h with ⟨kvs, k, e, ei, l, q⟩ | ⟨xs, b, k, hx, hk, ei, kb, l, q⟩
  · subst ei
    exact d_setItem (by omega) I (DPut.k e l) ri rv fun s' I' => ⟨_, I', q⟩
  · subst ei
    obtain rfl : iv = Value.ref b := ri
    obtain ⟨dd, lo, hl⟩ := hx.heap I hk
    refine wpAny_setItem_heap (knd := nestedKind X.prog X.w) (room_n hu) (kb.isN I) dd (fun h' hm hs => ?_) hl
    have he : ∃ q, h'.get? a = some q := let ⟨q, _, _, hq, _⟩ := hm; ⟨q, hq⟩
    refine ⟨_, d_write I hx.mut hs he (dicN_new lo (by have := storedH_len xs k b u; show (storedH xs k b u).length ≤ sizeLine; omega) (fun x h => ?_) hm), q u rv⟩
    rcases storedH_mem h with ⟨w, h⟩ | ⟨h, _⟩
    · exact (hk _ h).2
    · rw [h]; exact kb.2
/-- d.get(k), d.get(k, x) -/
def rDGet1 (K : PySem.W.Frag) (w : World) : V → List V → Hp → VK → Prop := fun x xs H Q => ∃ (a : Addr) (y : V) (o : Option V), x = .ref a ∧ xs = [y] ∧ DGet2 K w H a y o ∧ Q (o.getD .non) H
def rDGet2 (K : PySem.W.Frag) (w : World) : V → List V → Hp → VK → Prop := fun x xs H Q => ∃ (a : Addr) (y d : V) (o : Option V), x = .ref a ∧ xs = [y, d] ∧ DGet2 K w H a y o ∧ Q (o.getD d) H
theorem vals2' {x y : V} {us : List Value} (r : Vals [x, y] us) : ∃ u w, us = [u, w] ∧ RelV x u ∧ RelV y w := by
  cases r with
  | cons a t =>
    cases t with
    | cons b t => cases t; exact ⟨_, _, rfl, a, b⟩
theorem mt_dget1 (hu : X.A.units + 9 < cLine) : MtR X "dict.get" (rDGet1 X.K X.w) := by
  intro pins s σ H x xs v us Q I rx rs ⟨a, y, o, ex, es, g, q⟩
  subst ex es
  obtain rfl : v = Value.ref a := rx
  obtain ⟨u, rfl, ru⟩ := vals1 rs
  rcases g with g | ⟨ys, b, k, hx, hk, ey, kb, ro⟩
  · exact d_get1 (by omega) I g ru fun w' s' I' rw' => ⟨_, H, I', rw', q⟩
  · subst ey
    obtain rfl : u = Value.ref b := ru
    obtain ⟨dd, lo, hl⟩ := hx.heap I hk
    refine call_meetsIn PySem.F.slot_dict_get dd.typeIs PySem.F.entry_dict_get (PySem.F.args_dict_get_2 _ _) (meetsH_dict_get (nestedKind X.prog X.w) a b lo) ⟨room_n hu, k, ys, kb.isN I, dd, ?_⟩
    exact ⟨_, H, I.tok _, RelO.getD (d := .non) (d' := .none) ro rfl, q⟩
theorem mt_dget2 (hu : X.A.units + 9 < cLine) : MtR X "dict.get" (rDGet2 X.K X.w) := by
  intro pins s σ H x xs v us Q I rx rs ⟨a, y, d, o, ex, es, g, q⟩
  subst ex es
  obtain rfl : v = Value.ref a := rx
  obtain ⟨u, r, rfl, ru, rd⟩ := vals2' rs
  rcases g with g | ⟨ys, b, k, hx, hk, ey, kb, ro⟩
  · exact d_get2 (by omega) I g ru rd fun w' s' I' rw' => ⟨_, H, I', rw', q⟩
  · subst ey
    obtain rfl : u = Value.ref b := ru
    obtain ⟨dd, lo, hl⟩ := hx.heap I hk
    refine call_meetsIn PySem.F.slot_dict_get dd.typeIs PySem.F.entry_dict_get (PySem.F.args_dict_get_3 _ _ _) (meetsH_dict_get_default (nestedKind X.prog X.w) a b lo r) ⟨room_n hu, k, ys, kb.isN I, dd, ?_⟩
    exact ⟨_, H, I.tok _, ro.getD rd, q⟩
/-- d.setdefault(k, x) -/
def rDSetd (K : PySem.W.Frag) (w : World) : V → List V → Hp → VK → Prop := fun x xs H Q => ∃ (a : Addr) (y d : V), x = .ref a ∧ xs = [y, d] ∧
  ((∃ (kvs : List (Key × V)) (k : Key), H a = some (.dK kvs) ∧ y = kV k ∧ kvs.length < sizeLine ∧ (∀ v, valV kvs k = some v → Q v H) ∧ (valV kvs k = none → Q d (upd H a (.dK (putK kvs k d))))) ∨
   ∃ (ys : Xs) (b : Addr) (k : NestedKey), HasN w H a ys ∧ KeysN K H ys ∧ y = .ref b ∧ KeyAt K H (b, k) ∧ ys.length < sizeLine ∧ (∀ p, atKey ys k = some p → ∃ v, RelV v p.2 ∧ Q v H) ∧
     (atKey ys k = none → ∀ u : Value, RelV d u → Q d (upd H a (DicN w (storedH ys k b u) a))))
theorem mt_dsetd (hu : X.A.units + 9 < cLine) : MtR X "dict.setdefault" (rDSetd X.K X.w) := by
  intro pins s σ H x xs v us Q I rx rs ⟨a, y, d, ex, es, g⟩
  subst ex es
  obtain rfl : v = Value.ref a := rx
  obtain ⟨u, r, rfl, ru, rd⟩ := vals2' rs
  rcases g with ⟨kvs, k, e, ey, l, q1, q2⟩ | ⟨ys, b, k, hx, hk, ey, kb, l, q1, q2⟩
  · subst ey
    exact d_setd I e ru rd l (fun v hv w' s' I' rw' => ⟨v, H, I', rw', q1 v hv⟩) fun hn w' s' I' rw' => ⟨d, _, I', rw', q2 hn⟩
  · subst ey
    obtain rfl : u = Value.ref b := ru
    obtain ⟨dd, lo, hl⟩ := hx.heap I hk
    refine call_setdefault_heap (knd := nestedKind X.prog X.w) (room_n hu) (kb.isN I) lo dd (fun p hp => ?_) (fun hn h' hm hs => ?_) hl
    · obtain ⟨v, rv, q⟩ := q1 p hp
      exact ⟨v, H, I.tok _, rv, q⟩
    · have he : ∃ q, h'.get? a = some q := let ⟨q, _, _, hq, _⟩ := hm; ⟨q, hq⟩
      refine ⟨d, _, d_write I hx.mut hs he (dicN_new lo (by have := storedH_len ys k b r; show (storedH ys k b r).length ≤ sizeLine; omega) (fun x h => ?_) hm), rd, q2 hn r rd⟩
      rcases storedH_mem h with ⟨w, h⟩ | ⟨h, _⟩
      · exact (hk _ h).2
      · rw [h]; exact kb.2
/-! a method of a dict of either kind -/
def IsD2 (K : PySem.W.Frag) (w : World) (x : V) (H : Hp) : Prop := ∃ a : Addr, x = .ref a ∧ ((∃ kvs, H a = some (.dK kvs)) ∨ ∃ xs, HasN w H a xs ∧ KeysN K H xs)
theorem IsD2.ty {x : V} {v : Value} (I : Inv X pins σ H s) (r : RelV x v) (h : IsD2 X.K X.w x H) : s.TypeIs v "dict" ∧ ∀ a, v = .ref a → ∃ ob, s.heap.get? a = some ob ∧ ob.dict = none := by
  obtain ⟨a, rfl, h⟩ := h
  obtain rfl : v = Value.ref a := r
  rcases h with ⟨kvs, e⟩ | ⟨xs, hx, hk⟩
  · obtain ⟨t1, t2, _⟩ := isD_at I (.inl ⟨kvs, .inl e⟩)
    exact ⟨t1, t2⟩
  · exact hx.ty I hk
def tDM (K : PySem.W.Frag) (w : World) (r : V → List V → Hp → VK → Prop) (to : TE) (t : TA) : TE := fun σ H Q => to σ H fun x H1 => IsD2 K w x H1 ∧ t σ H1 fun xs H2 => r x xs H2 Q
variable {o e : Expr} {es : List Expr} {to : TE} {t : TA} {name : Str} {apos cpos : Pos} {T id : String} {r : V → List V → Hp → VK → Prop}
theorem pe_dm (slot : Slot "dict" name id) (hty : typeOf (.builtin id) = pure (.type "method_descriptor")) (hm : MtR X id r) (ho : PE X o to) (ha : PA X (e :: es) t)
    (hbase : attributeBase o name X.env (eval o X.env) = eval o X.env := by rfl) (hfew : ((backTo cpos (starEach (e :: es) X.env)).all (fun x => !x.1) &&
      (backToKw cpos (keywordEach [] X.env)).all (fun x => x.1.isSome) && decide ((e :: es).length + ([] : List Keyword).length + (if ([] : List Keyword).isEmpty then 0 else 1) < 30)) = true := by rfl)
    (hline : (apos.endLine == cpos.line) = true := by rfl) (hs : starEach (e :: es) X.env = (false, eval e X.env) :: starEach es X.env := by rfl)
    (hplain : (backTo cpos (starEach es X.env)).any (·.1) = false := by rfl) :
    PE X (.Call (.Attribute o name apos) (e :: es) [] cpos) (tDM X.K X.w r to t) := by
  constructor
  intro pins s σ H Q I h
  refine wpAny_Call_method_late hbase hfew hline rfl (thn (ho.run pins s σ H _ I h) fun v s1 ⟨x, H1, I1, r1, d, q1⟩ => ?_)
  have ht := d.ty I1 r1
  have hA := ha.run cpos pins s1 σ H1 _ I1 q1
  refine ⟨"dict", id, PySem.F.plainAttrs_dict, slot, hty, ht.1, ht.2, ?_⟩
  rw [hs] at hA ⊢
  exact Calls.callWith_builtin (by show (false || (backTo cpos (starEach es X.env)).any (·.1)) = false; rw [hplain]; rfl) (Calls.evalArgs_plain (thn hA fun us s2 ⟨vs, H2, I2, r2, q2⟩ => hm pins s2 σ H2 x vs v us Q I2 r1 r2 q2))
end
end VI
namespace VI
open PySem PySem.Spec PyProof.Rows L2
/-! ### dicts by value -/
def keyOfD : D → Option Key
  | .int i => some (.inl i)
  | .str x => some (.inr x)
  | _ => none
def keyNd : D → Bool
  | .tup ds => isKeys ds && decide ((nkD (.tup ds)).depth ≤ 8)
  | _ => false
def getA (kvs : List (D × D)) (k : D) : Option D := (kvs.find? fun p => decide (p.1 = k)).map (·.2)
def putA (kvs : List (D × D)) (k v : D) : List (D × D) := if (getA kvs k).isSome = true then kvs.map (fun p => if p.1 = k then (p.1, v) else p) else kvs ++ [(k, v)]
/-- whether a key may be looked for -/
def okKey (kvs : List (D × D)) (k : D) : Bool := ((keyOfD k).isSome && kvs.all fun p => (keyOfD p.1).isSome) || (keyNd k && kvs.all fun p => keyNd p.1)
def noErr : List (D × D) → Bool
  | (.cl _, _) :: _ => false
  | _ => true
/-- a dict, or a cell that holds one -/
def dicOf (d : D) (st : Store) : Option (List (D × D)) := match d with
  | .dic kvs => if noErr kvs = true then some kvs else none
  | .ref n => match st[n]? with
    | some (some (.dic kvs)) => some kvs
    | _ => none
  | _ => none
theorem getA_cons {p : D × D} {r : List (D × D)} {k : D} : getA (p :: r) k = if p.1 = k then some p.2 else getA r k := by
  unfold getA
  rw [List.find?_cons]
  by_cases h : p.1 = k <;> simp [h]
theorem keyD_inj {a b : Key} (h : keyD a = keyD b) : a = b := by
  cases a <;> cases b <;> simp [keyD] at h <;> rw [h]
theorem keyOfD_keyD {d : D} {k : Key} (h : keyOfD d = some k) : d = keyD k := by
  cases d <;> simp [keyOfD] at h <;> subst h <;> rfl
theorem keyOfD_of (k : Key) : keyOfD (keyD k) = some k := by cases k <;> rfl
theorem atKey_nil {k : NestedKey} : atKey ([] : Xs) k = none := rfl
theorem atKey_cons {x : NestedKey × Addr × Value} {r : Xs} {k : NestedKey} : atKey (x :: r) k = if x.1 = k then some x.2 else atKey r k := by
  unfold atKey
  rw [List.find?_cons]
  by_cases h : x.1 = k <;> simp [h]
theorem valV_cons {κ : Type} [DecidableEq κ] {p : κ × V} {r : List (κ × V)} {k : κ} : valV (p :: r) k = if p.1 = k then some p.2 else valV r k := by
  by_cases h : p.1 = k
  · rw [if_pos h, valV_pos h]
  · rw [if_neg h, valV_neg h]
section
variable {X : Cx} {G : Gx} {E : WX} {as as' : List Addr} {st st' : Store} {H H' : Hp} {L : Addr → Prop} {a : Addr}
theorem noErr_of {d : D} {v : V} {kvs : List (D × D)} (r : RelD G as L H d v) (e : d = .dic kvs) (h : noErr kvs = true) : ∃ a, v = .ref a ∧ DicR G as L H kvs a ∧ ¬ L a := by
  cases r with
  | dic h1 h2 => cases e; exact ⟨_, rfl, h1, h2⟩
  | err => cases e; simp [noErr] at h
  | errR => cases e; simp [noErr] at h
  | _ => cases e
theorem dicOf_rel (s : StR G as st H) {d : D} {v : V} {kvs : List (D × D)} (r : RelD G as (Live as st) H d v) (h : dicOf d st = some kvs) : ∃ a, v = .ref a ∧ DicR G as (Live as st) H kvs a := by
  cases d with
  | dic ks =>
    simp only [dicOf] at h
    split at h
    · rename_i hn
      cases h
      obtain ⟨a, e, dr, _⟩ := noErr_of r rfl hn
      exact ⟨a, e, dr⟩
    · cases h
  | ref n =>
    simp only [dicOf] at h
    cases r with
    | @ref _ a ha =>
    split at h
    · rename_i ks e
      cases h
      obtain ⟨a', ha', c⟩ := s.cells n _ e
      rw [ha] at ha'; cases ha'
      exact ⟨a, rfl, c⟩
    · cases h
  | _ => simp [dicOf] at h
/-- the value at a key, on both sides -/
def RelOD (G : Gx) (as : List Addr) (L : Addr → Prop) (H : Hp) (o : Option D) (v : Option V) : Prop := (o = none ∧ v = none) ∨ ∃ d u, o = some d ∧ v = some u ∧ RelD G as L H d u
theorem look_k {κ : Key} : ∀ {kvs : List (D × D)} {ks : List Key} {vs : List V}, kvs.map (·.1) = ks.map keyD → RelDs G as L H (kvs.map (·.2)) vs → RelOD G as L H (getA kvs (keyD κ)) (valV (ks.zip vs) κ)
  | [], [], _, _, _ => by simp only [List.zip_nil_left]; exact .inl ⟨rfl, rfl⟩
  | [], _ :: _, _, h, _ => by simp at h
  | _ :: _, [], _, h, _ => by simp at h
  | p :: kvs, k :: ks, [], _, r => by cases r
  | p :: kvs, k :: ks, v :: vs, h, r => by
    simp only [List.map_cons, List.cons.injEq] at h
    cases r with
    | cons r1 r2 =>
    rw [List.zip_cons_cons, getA_cons, valV_cons, h.1]
    by_cases e : k = κ
    · subst e
      simp only [if_true]
      exact .inr ⟨_, _, rfl, rfl, r1⟩
    · rw [if_neg fun z => e (keyD_inj z), if_neg e]
      exact look_k h.2 r2
theorem look_n {κ : NestedKey} : ∀ {kvs : List (D × D)} {xs : Xs} {vs : List V}, kvs.map (·.1) = xs.map (fun x => dOf x.1) → RelDs G as L H (kvs.map (·.2)) vs → Vals vs (xs.map fun x => x.2.2) →
    ∃ o, RelOD G as L H (getA kvs (dOf κ)) o ∧ RelO o ((atKey xs κ).map (·.2))
  | [], [], _, _, _, _ => ⟨none, .inl ⟨rfl, rfl⟩, by simp [atKey, RelO]⟩
  | [], _ :: _, _, h, _, _ => by simp at h
  | _ :: _, [], _, h, _, _ => by simp at h
  | p :: kvs, x :: xs, [], _, r, _ => by cases r
  | p :: kvs, x :: xs, v :: vs, h, r, rv => by
    simp only [List.map_cons, List.cons.injEq] at h
    cases r with
    | cons r1 r2 =>
    cases rv with
    | cons v1 v2 =>
    rw [getA_cons, atKey_cons, h.1]
    by_cases e : x.1 = κ
    · subst e
      simp only [if_true]
      exact ⟨some v, .inr ⟨_, _, rfl, rfl, r1⟩, v1⟩
    · rw [if_neg fun z => e (by have := congrArg nkD z; rwa [nkD_dOf, nkD_dOf] at this), if_neg e]
      exact look_n h.2 r2 v2
theorem isKeyPy {d : D} (h : isKey d = true) : isPy d = true := by rw [← dOf_nkD d h]; exact isPy_dOf _
theorem keyNd_key {d : D} (h : keyNd d = true) : isKey d = true ∧ (nkD d).depth ≤ 8 := by
  unfold keyNd at h
  split at h
  · simp only [Bool.and_eq_true, decide_eq_true_eq] at h
    exact ⟨by simp only [isKey]; exact h.1, h.2⟩
  · cases h
theorem keyNd_at {d : D} {v : V} (h : keyNd d = true) (r : RelD G as L H d v) : ∃ b, v = .ref b ∧ KeyAt G.K H (b, nkD d) := by
  obtain ⟨h1, h2⟩ := keyNd_key h
  have ed := dOf_nkD d h1
  have dp := r.dp (isKeyPy h1)
  have e2 : toPy d = (nkD d).data := by
    have := toPy_dOf (nkD d)
    rwa [ed] at this
  rw [e2] at dp
  cases d with
  | tup ds =>
    cases r with
    | tup q _ => exact ⟨_, rfl, dp, h2⟩
  | _ => simp [keyNd] at h
theorem relDs_keys {xs : Xs} (h : ∀ x ∈ xs, x.1.depth ≤ 8) : ∀ {kds : List D}, kds = xs.map (fun x => dOf x.1) → RelDs G as L H kds (xs.map fun x => V.ref x.2.1) → KeysN G.K H xs := by
  induction xs with
  | nil => intro kds _ _ x hx; cases hx
  | cons x xs ih =>
    intro kds e r y hy
    subst e
    simp only [List.map_cons] at r
    cases r with
    | cons r1 r2 =>
    rcases List.mem_cons.mp hy with rfl | hy
    · refine ⟨?_, h y (by simp)⟩
      have := r1.dp (isPy_dOf _)
      rwa [toPy_dOf] at this
    · exact ih (fun z hz => h z (List.mem_cons_of_mem _ hz)) rfl r2 y hy
theorem depth_keys {kvs : List (D × D)} {xs : Xs} (h : kvs.map (·.1) = xs.map (fun x => dOf x.1)) (hk : (kvs.all fun p => keyNd p.1) = true) : ∀ x ∈ xs, x.1.depth ≤ 8 := fun x hx => by
  have : dOf x.1 ∈ kvs.map (·.1) := by rw [h]; exact List.mem_map.mpr ⟨x, hx, rfl⟩
  obtain ⟨p, hp, e⟩ := List.mem_map.mp this
  have := (keyNd_key (List.all_eq_true.mp hk p hp)).2
  rwa [e, nkD_dOf] at this
theorem relD_ref_key {d : D} {b : Addr} (r : RelD G as L H d (.ref b)) : (keyOfD d).isSome = false := by cases r <;> rfl
/-- what stands at a key -/
theorem DicR.get {kvs : List (D × D)} {k : D} {y : V} (s : DicR G as L H kvs a) (hk : okKey kvs k = true) (rk : RelD G as L H k y) :
    ∃ o, DGet2 G.K G.w H a y o ∧ RelOD G as L H (getA kvs k) o := by
  unfold okKey at hk
  rw [Bool.or_eq_true, Bool.and_eq_true, Bool.and_eq_true] at hk
  cases s with
  | @k _ ks vs _ h1 h2 h3 =>
    rcases hk with ⟨k1, k2⟩ | ⟨k1, k2⟩
    · obtain ⟨κ, hκ⟩ := Option.isSome_iff_exists.mp k1
      have ek := keyOfD_keyD hκ
      subst ek
      have ey : y = kV κ := by cases κ <;> cases rk <;> rfl
      subst ey
      exact ⟨_, .inl (.k h1), look_k h2 h3⟩
    · have e0 : kvs = [] := by
        cases kvs with
        | nil => rfl
        | cons p r =>
          cases ks with
          | nil => simp at h2
          | cons q qs =>
            simp only [List.map_cons, List.cons.injEq] at h2
            simp only [List.all_cons, Bool.and_eq_true] at k2
            rw [h2.1] at k2
            cases q <;> simp [keyD, keyNd] at k2
      subst e0
      obtain ⟨b, rfl, kb⟩ := keyNd_at k1 rk
      have ez : ks.zip vs = [] := by
        cases ks with
        | nil => rfl
        | cons q qs => simp at h2
      rw [ez] at h1
      exact ⟨none, .inr ⟨[], b, nkD k, .inr ⟨rfl, h1⟩, (fun x hx => nomatch hx), rfl, kb, by simp [atKey, RelO]⟩, .inl ⟨rfl, rfl⟩⟩
  | @n _ xs vs _ h1 h2 h3 h4 h5 h6 =>
    rcases hk with ⟨k1, k2⟩ | ⟨k1, k2⟩
    · exfalso
      cases kvs with
      | nil => exact h2 rfl
      | cons p r =>
        cases xs with
        | nil => simp at h3
        | cons x xs =>
          simp only [List.map_cons] at h4
          cases h4 with
          | cons r1 r2 =>
          simp only [List.all_cons, Bool.and_eq_true] at k2
          rw [relD_ref_key r1] at k2
          exact absurd k2.1 (by simp)
    · obtain ⟨b, rfl, kb⟩ := keyNd_at k1 rk
      obtain ⟨o, r1, r2⟩ := look_n (κ := nkD k) h3 h5 h6
      rw [dOf_nkD k (keyNd_key k1).1] at r1
      exact ⟨o, .inr ⟨xs, b, nkD k, .inl h1, relDs_keys (depth_keys h3 k2) h3 h4, rfl, kb, r2⟩, r1⟩
end
end VI
namespace VI
open PySem PySem.Spec PyProof.Rows L2
section
variable {X : Cx} {G : Gx} {E : WX} {as as' : List Addr} {st st' : Store} {H H' : Hp} {L : Addr → Prop} {a : Addr}
theorem RelDs.snoc {ds : List D} {vs : List V} {d : D} {v : V} (r : RelDs G as L H ds vs) (q : RelD G as L H d v) : RelDs G as L H (ds ++ [d]) (vs ++ [v]) := by
  induction ds generalizing vs with
  | nil => cases r; exact .cons q .nil
  | cons e ds ih => cases r with
    | cons r1 r2 => exact .cons r1 (ih r2)
theorem vals_snoc {vs : List V} {us : List Value} {v : V} {u : Value} (r : Vals vs us) (q : RelV v u) : Vals (vs ++ [v]) (us ++ [u]) := by
  induction vs generalizing us with
  | nil => cases r; exact .cons q .nil
  | cons e vs ih => cases r with
    | cons r1 r2 => exact .cons r1 (ih r2)
theorem RelOD.some' {o : Option D} {v : Option V} (h : RelOD G as L H o v) : o.isSome = v.isSome := by
  rcases h with ⟨rfl, rfl⟩ | ⟨_, _, rfl, rfl, _⟩ <;> rfl
/-- the replaced values -/
theorem map_k {κ : Key} {d : D} {v : V} (rd : RelD G as L H d v) : ∀ {kvs : List (D × D)} {ks : List Key} {vs : List V}, kvs.map (·.1) = ks.map keyD → RelDs G as L H (kvs.map (·.2)) vs →
    ∃ vs', ((ks.zip vs).map fun kv => if kv.1 = κ then (kv.1, v) else kv) = ks.zip vs' ∧ RelDs G as L H ((kvs.map fun p => if p.1 = keyD κ then (p.1, d) else p).map (·.2)) vs'
  | [], [], _, _, _ => ⟨[], by simp, .nil⟩
  | [], _ :: _, _, h, _ => by simp at h
  | _ :: _, [], _, h, _ => by simp at h
  | p :: kvs, k :: ks, [], _, r => by cases r
  | p :: kvs, k :: ks, u :: vs, h, r => by
    simp only [List.map_cons, List.cons.injEq] at h
    cases r with
    | cons r1 r2 =>
    obtain ⟨vs', e, q⟩ := map_k (κ := κ) rd h.2 r2
    rw [List.zip_cons_cons, List.map_cons, List.map_cons, List.map_cons, h.1, e]
    by_cases c : k = κ
    · subst c
      exact ⟨v :: vs', by simp, by simpa using RelDs.cons rd q⟩
    · have c2 : ¬ keyD k = keyD κ := fun z => c (keyD_inj z)
      rw [if_neg c, if_neg c2]
      exact ⟨u :: vs', by simp, .cons r1 q⟩
theorem map_keys {kvs : List (D × D)} {k d : D} : (kvs.map fun p => if p.1 = k then (p.1, d) else p).map (·.1) = kvs.map (·.1) := by
  rw [List.map_map]
  refine List.map_congr_left fun p _ => ?_
  simp only [Function.comp]
  split <;> rfl
theorem map_n {κ : NestedKey} {d : D} {v : V} {u : Value} (rd : RelD G as L H d v) (ru : RelV v u) : ∀ {kvs : List (D × D)} {xs : Xs} {vs : List V}, kvs.map (·.1) = xs.map (fun x => dOf x.1) → RelDs G as L H (kvs.map (·.2)) vs → Vals vs (xs.map fun x => x.2.2) →
    ∃ vs', RelDs G as L H ((kvs.map fun p => if p.1 = dOf κ then (p.1, d) else p).map (·.2)) vs' ∧ Vals vs' ((xs.map (putAt κ u)).map fun x => x.2.2)
  | [], [], _, _, _, _ => ⟨[], .nil, .nil⟩
  | [], _ :: _, _, h, _, _ => by simp at h
  | _ :: _, [], _, h, _, _ => by simp at h
  | p :: kvs, x :: xs, [], _, r, _ => by cases r
  | p :: kvs, x :: xs, w :: vs, h, r, rv => by
    simp only [List.map_cons, List.cons.injEq] at h
    cases r with
    | cons r1 r2 =>
    cases rv with
    | cons v1 v2 =>
    obtain ⟨vs', e, q⟩ := map_n (κ := κ) rd ru h.2 r2 v2
    simp only [List.map_cons, h.1, putAt]
    by_cases c : x.1 = κ
    · subst c
      exact ⟨v :: vs', by simpa using RelDs.cons rd e, by simpa [putAt] using (Paired.cons ru q : Vals _ _)⟩
    · have c2 : ¬ dOf x.1 = dOf κ := fun z => c (by have := congrArg nkD z; rwa [nkD_dOf, nkD_dOf] at this)
      rw [if_neg c, if_neg c2]
      exact ⟨w :: vs', .cons r1 e, .cons v1 q⟩
theorem putAt_keys {κ : NestedKey} {u : Value} {xs : Xs} : (xs.map (putAt κ u)).map (fun x => dOf x.1) = xs.map (fun x => dOf x.1) ∧ (xs.map (putAt κ u)).map (fun x => V.ref x.2.1) = xs.map (fun x => V.ref x.2.1) := by
  constructor <;> rw [List.map_map] <;> refine List.map_congr_left fun x _ => ?_ <;> simp only [Function.comp, putAt] <;> split <;> rfl
theorem zip_snoc {α β : Type} {ks : List α} {vs : List β} (h : ks.length = vs.length) (k : α) (v : β) : (ks ++ [k]).zip (vs ++ [v]) = ks.zip vs ++ [(k, v)] := by
  rw [List.zip_append h]; rfl
theorem live_kp (s : StR G as st H) {n : Nat} {d0 : D} (e : st[n]? = some (some d0)) (ha : as[n]? = some a) : ∀ b o, H b = some o → (¬ Live as st b ∨ notMut o = true) → ∀ u, upd H a u b = some o := fun b o eb k u => by
  obtain ⟨a', ha', c⟩ := s.cells _ _ e
  rw [ha] at ha'; cases ha'
  obtain ⟨o0, h0, hm⟩ := c.isMut
  have ne : b ≠ a := fun z => by
    subst z
    rcases k with k | k
    · exact k ⟨_, _, ha, e⟩
    · rw [h0] at eb; cases eb; rw [hm] at k; cases k
  rw [upd_ne ne]; exact eb
theorem putA_ne {kvs : List (D × D)} {k v : D} : putA kvs k v ≠ [] := by
  unfold putA
  split
  · rename_i h
    intro z
    rw [List.map_eq_nil_iff] at z
    subst z
    simp [getA] at h
  · simp
/-- a dict in which a key is set; Q holds whatever the heap's object is -/
theorem DicR.put {n : Nat} {kvs : List (D × D)} {k d : D} {y v : V} (s : StR G as st H) (e : st[n]? = some (some (.dic kvs))) (ha : as[n]? = some a) (hk : okKey kvs k = true) (rk : RelD G as (Live as st) H k y) (rd : RelD G as (Live as st) H d v) :
    (∃ (ks : List (Key × V)) (κ : Key), H a = some (.dK ks) ∧ ks.length = kvs.length ∧ y = kV κ ∧ RelOD G as (Live as st) H (getA kvs k) (valV ks κ) ∧ CellR G as (Live as st) (upd H a (.dK (putK ks κ v))) a (.dic (putA kvs k d))) ∨
    (∃ (xs : Xs) (b : Addr) (κ : NestedKey), HasN G.w H a xs ∧ xs.length = kvs.length ∧ KeysN G.K H xs ∧ y = .ref b ∧ KeyAt G.K H (b, κ) ∧ (∃ o, RelOD G as (Live as st) H (getA kvs k) o ∧ RelO o ((atKey xs κ).map (·.2))) ∧
      ∀ u, RelV v u → CellR G as (Live as st) (upd H a (DicN G.w (storedH xs κ b u) a)) a (.dic (putA kvs k d))) := by
  obtain ⟨a', ha', c⟩ := s.cells _ _ e
  rw [ha] at ha'; cases ha'
  have kp := live_kp s e ha
  have up : ∀ (u : HO) {d : D} {v : V}, RelD G as (Live as st) H d v → RelD G as (Live as st) (upd H a u) d v := fun u _ _ r => r.mono (List.prefix_refl _) (fun _ _ n => n) fun b o eb k => kp b o eb k u
  have ups : ∀ (u : HO) {d : List D} {v : List V}, RelDs G as (Live as st) H d v → RelDs G as (Live as st) (upd H a u) d v := fun u _ _ r => r.mono (List.prefix_refl _) (fun _ _ n => n) fun b o eb k => kp b o eb k u
  unfold okKey at hk
  rw [Bool.or_eq_true, Bool.and_eq_true, Bool.and_eq_true] at hk
  have c : DicR G as (Live as st) H kvs a := c
  cases c with
  | @k _ ks vs _ h1 h2 h3 =>
    have lk : ks.length = kvs.length := by have := congrArg List.length h2; simpa using this.symm
    have lv : vs.length = kvs.length := by have := h3.length; simpa using this.symm
    rcases hk with ⟨k1, k2⟩ | ⟨k1, k2⟩
    · obtain ⟨κ, hκ⟩ := Option.isSome_iff_exists.mp k1
      have ek := keyOfD_keyD hκ
      subst ek
      have ey : y = kV κ := by cases κ <;> cases rk <;> rfl
      subst ey
      have lo := look_k (κ := κ) h2 h3
      refine .inl ⟨_, κ, h1, by simp [lk, lv], rfl, lo, ?_⟩
      show DicR _ _ _ _ _ _
      unfold putA putK
      rw [valV_any, ← lo.some']
      split
      · obtain ⟨vs', e1, e2⟩ := map_k (κ := κ) rd h2 h3
        rw [e1]
        exact .k upd_same (map_keys.trans h2) (ups _ e2)
      · rw [← zip_snoc (by rw [lk, lv])]
        exact .k upd_same (by rw [List.map_append, List.map_append, h2]; rfl) (by rw [List.map_append]; exact (ups _ h3).snoc (up _ rd))
    · have e0 : kvs = [] := by
        cases kvs with
        | nil => rfl
        | cons p r =>
          cases ks with
          | nil => simp at h2
          | cons q qs =>
            simp only [List.map_cons, List.cons.injEq] at h2
            simp only [List.all_cons, Bool.and_eq_true] at k2
            rw [h2.1] at k2
            cases q <;> simp [keyD, keyNd] at k2
      subst e0
      obtain ⟨b, rfl, kb⟩ := keyNd_at k1 rk
      have ez : ks.zip vs = [] := by
        cases ks with
        | nil => rfl
        | cons q qs => simp at h2
      rw [ez] at h1
      refine .inr ⟨[], b, nkD k, .inr ⟨rfl, h1⟩, rfl, fun x hx => (nomatch hx), rfl, kb, ⟨none, .inl ⟨rfl, rfl⟩, by simp [atKey, RelO]⟩, fun u ru => ?_⟩
      show DicR _ _ _ _ _ _
      have e1 : storedH ([] : Xs) (nkD k) b u = [(nkD k, b, u)] := rfl
      have e2 : putA [] k d = [(k, d)] := rfl
      rw [e1, e2]
      exact .n (xs := [(nkD k, b, u)]) (vs := [v]) upd_same (by simp) (by simp [dOf_nkD k (keyNd_key k1).1]) (by simpa using RelDs.cons (up _ rk) .nil) (by simpa using RelDs.cons (up _ rd) .nil) (.cons ru .nil)
  | @n _ xs vs _ h1 h2 h3 h4 h5 h6 =>
    have lk : xs.length = kvs.length := by have := congrArg List.length h3; simpa using this.symm
    rcases hk with ⟨k1, k2⟩ | ⟨k1, k2⟩
    · exfalso
      cases kvs with
      | nil => exact h2 rfl
      | cons p r =>
        cases xs with
        | nil => simp at h3
        | cons x xs =>
          simp only [List.map_cons] at h4
          cases h4 with
          | cons r1 r2 =>
          simp only [List.all_cons, Bool.and_eq_true] at k2
          rw [relD_ref_key r1] at k2
          exact absurd k2.1 (by simp)
    · obtain ⟨b, rfl, kb⟩ := keyNd_at k1 rk
      have ed := dOf_nkD k (keyNd_key k1).1
      obtain ⟨o, r1, r2⟩ := look_n (κ := nkD k) h3 h5 h6
      rw [ed] at r1
      refine .inr ⟨xs, b, nkD k, .inl h1, lk, relDs_keys (depth_keys h3 k2) h3 h4, rfl, kb, ⟨o, r1, r2⟩, fun u ru => ?_⟩
      show DicR _ _ _ _ _ _
      have es : (getA kvs k).isSome = (atKey xs (nkD k)).isSome := by
        have e1 := r1.some'
        have e2 := r2.isSome_eq
        rw [Option.isSome_map] at e2
        rw [e1, e2]
      unfold storedH
      unfold putA
      rw [es]
      split
      · obtain ⟨vs', e1, e2⟩ := map_n (κ := nkD k) rd ru h3 h5 h6
        rw [ed] at e1
        obtain ⟨p1, p2⟩ := putAt_keys (κ := nkD k) (u := u) (xs := xs)
        refine .n upd_same (fun z => h2 (by rwa [List.map_eq_nil_iff] at z)) (map_keys.trans (h3.trans p1.symm)) (by rw [map_keys, p2]; exact ups _ h4) (ups _ e1) e2
      · refine .n (vs := vs ++ [v]) upd_same (by simp) (by rw [List.map_append, List.map_append, h3]; simp [ed]) (by rw [List.map_append, List.map_append]; exact (ups _ h4).snoc (up _ rk)) (by rw [List.map_append]; exact (ups _ h5).snoc (up _ rd)) (by rw [List.map_append]; exact vals_snoc h6 ru)
end
/-! ### d[k] = v -/
def fSetD (o i v : D) (st : Store) : Option Store := match o with
  | .ref n => match st[n]? with
    | some (some (.dic kvs)) => if okKey kvs i = true ∧ kvs.length < 100000 then some (st.set n (some (.dic (putA kvs i v)))) else none
    | _ => none
  | _ => none
def fSetA (o i v : D) (st : Store) : Option Store := match fSetL o i v st with
  | some st1 => some st1
  | none => fSetD o i v st
theorem szlt {n : Nat} (h : n < 100000) : n < sizeLine := by
  have := szl (show n + 1 ≤ 100000 by omega)
  omega
section
variable {X : Cx} {G : Gx} {E : WX} {as as' : List Addr} {st st' : Store} {H H' : Hp} {L : Addr → Prop} {a : Addr}
theorem setS_dict : SetS G fSetD (rSetD G.K G.w) := by
  intro as st H d1 d2 d3 x y z Q st4 s r1 r2 r3 h k
  unfold fSetD at h
  split at h
  · cases r1 with
    | @ref n a ha =>
    split at h
    · rename_i kvs e
      split at h
      · rename_i hc
        cases h
        rcases DicR.put s e ha hc.1 r2 r3 with ⟨ks, κ, h1, l1, rfl, _, c⟩ | ⟨xs, b, κ, h1, l1, h2, rfl, kb, _, c⟩
        · obtain ⟨a1, a2⟩ := s.write e ha c
          exact ⟨a, rfl, .inl ⟨ks, κ, h1, rfl, by rw [l1]; exact szlt hc.2, k _ _ a2 a1⟩⟩
        · refine ⟨a, rfl, .inr ⟨xs, b, κ, h1, h2, rfl, kb, by rw [l1]; exact szlt hc.2, fun u ru => ?_⟩⟩
          obtain ⟨a1, a2⟩ := s.write e ha (c u ru)
          exact k _ _ a2 a1
      · cases h
    · cases h
  · cases h
def rSetA' (K : PySem.W.Frag) (w : World) : TSet := fun o i v H Q => rSetL o i v H Q ∨ rSetD K w o i v H Q
theorem pset_or {t t' : TSet} (h : PSet X t) (h' : PSet X t') : PSet X (fun o i v H Q => t o i v H Q ∨ t' o i v H Q) := by
  intro pins s σ H o i v ov iv u Q I ro ri rv q
  rcases q with q | q
  · exact h pins s σ H o i v ov iv u Q I ro ri rv q
  · exact h' pins s σ H o i v ov iv u Q I ro ri rv q
theorem set_setA (hu : X.A.units + 9 < cLine) : PSet X (rSetA' X.K X.w) := pset_or set_list (set_dict hu)
theorem setS_setA : SetS G fSetA (rSetA' G.K G.w) := by
  intro as st H d1 d2 d3 x y z Q st4 s r1 r2 r3 h k
  unfold fSetA at h
  cases q : fSetL d1 d2 d3 st with
  | some st1 =>
    rw [q] at h
    cases h
    exact .inl (setS_list as st H d1 d2 d3 x y z Q _ s r1 r2 r3 q k)
  | none =>
    rw [q] at h
    exact .inr (setS_dict as st H d1 d2 d3 x y z Q _ s r1 r2 r3 h k)
/-! ### in, [], get, setdefault -/
def fInD (neg : Bool) (a b : D) (st : Store) : Res Wv := match dicOf b st with
  | some kvs => if okKey kvs a = true then .ok (.val (.bl (if neg then !(getA kvs a).isSome else (getA kvs a).isSome))) st else .stuck
  | none => fIn neg a b st
def rInD (K : PySem.W.Frag) (w : World) (neg : Bool) : R2 := fun x y H Q => rDIn K w neg x y H Q ∨ rInA K neg x y H Q
theorem opS_inD {neg : Bool} : OpS G E (fInD neg) (rInD G.K G.w neg) := by
  intro E' as st H d1 d2 x y Q s r1 r2 p
  unfold fInD at p
  split at p
  · rename_i kvs hd
    split at p
    · rename_i hk
      obtain ⟨a, rfl, dr⟩ := dicOf_rel s r2 hd
      obtain ⟨o, g, ro⟩ := dr.get hk r1
      refine .inl ⟨a, o, rfl, g, ?_⟩
      rw [← ro.some']
      exact p.now s _ (.bl _)
    · exact p.elim
  · exact .inr (opS_in (E := E) E' as st H d1 d2 x y Q s r1 r2 p)
def fIxD (a b : D) (st : Store) : Res Wv := match dicOf a st with
  | some kvs => if okKey kvs b = true then (match getA kvs b with
    | some d => .ok (.val d) st
    | none => .stuck) else .stuck
  | none => fIx a b st
end
end VI
namespace VI
open PySem PySem.Spec PyProof.Rows L2
section
variable {X : Cx} {G : Gx} {E : WX} {as as' : List Addr} {st st' : Store} {H H' : Hp} {L : Addr → Prop} {a : Addr}
theorem ixr_or {r r' : R2} (h : IxR X r) (h' : IxR X r') : IxR X (fun x y H Q => r x y H Q ∨ r' x y H Q) := by
  intro value slice pins s σ H x y v u Q I rx ry q hs
  rcases q with q | q
  · exact h value slice pins s σ H x y v u Q I rx ry q hs
  · exact h' value slice pins s σ H x y v u Q I rx ry q hs
theorem mtr_or {id : String} {r r' : V → List V → Hp → VK → Prop} (h : MtR X id r) (h' : MtR X id r') : MtR X id (fun x y H Q => r x y H Q ∨ r' x y H Q) := by
  intro pins s σ H x xs v us Q I rx rs q
  rcases q with q | q
  · exact h pins s σ H x xs v us Q I rx rs q
  · exact h' pins s σ H x xs v us Q I rx rs q
def rIxA (K : PySem.W.Frag) (w : World) : R2 := fun x y H Q => rIxD K w x y H Q ∨ rIx K x y H Q
theorem ix_all (hu : X.A.units + 9 < cLine) : IxR X (rIxA X.K X.w) := ixr_or (ix_dict hu) ix_seq
theorem opS_ixD : OpS G E fIxD (rIxA G.K G.w) := by
  intro E' as st H d1 d2 x y Q s r1 r2 p
  unfold fIxD at p
  split at p
  · rename_i kvs hd
    split at p
    · rename_i hk
      obtain ⟨a, rfl, dr⟩ := dicOf_rel s r1 hd
      obtain ⟨o, g, ro⟩ := dr.get hk r2
      split at p
      · rename_i d e
        rcases ro with ⟨e1, _⟩ | ⟨d', v, e1, e2, rv⟩
        · rw [e] at e1; cases e1
        · rw [e] at e1; cases e1
          subst e2
          exact .inl ⟨a, v, rfl, g, p.now s _ rv⟩
      · exact p.elim
    · exact p.elim
  · exact .inr (opS_ix (E := E) E' as st H d1 d2 x y Q s r1 r2 p)
/-! ### methods of dicts -/
def fDGet (o : D) (ds : List D) (st : Store) : Res Wv := match dicOf o st, ds with
  | some kvs, [k] => if okKey kvs k = true then .ok (.val ((getA kvs k).getD .non)) st else .stuck
  | _, _ => .stuck
def fDGet2 (o : D) (ds : List D) (st : Store) : Res Wv := match dicOf o st, ds with
  | some kvs, [k, x] => if okKey kvs k = true then .ok (.val ((getA kvs k).getD x)) st else .stuck
  | _, _ => .stuck
theorem mtS_dget1 : MtS' G E fDGet (rDGet1 G.K G.w) := by
  intro E' as st H d ds x xs Q s r rs p
  unfold fDGet at p
  split at p
  · rename_i kvs k hd
    split at p
    · rename_i hk
      obtain ⟨a, rfl, dr⟩ := dicOf_rel s r hd
      cases rs with
      | cons r1 r2 =>
      cases r2
      obtain ⟨o, g, ro⟩ := dr.get hk r1
      refine ⟨a, _, o, rfl, rfl, g, ?_⟩
      rcases ro with ⟨e1, rfl⟩ | ⟨d', v, e1, rfl, rv⟩
      · rw [e1] at p; exact p.now s _ .non
      · rw [e1] at p; exact p.now s _ rv
    · exact p.elim
  · exact p.elim
theorem mtS_dget2 : MtS' G E fDGet2 (rDGet2 G.K G.w) := by
  intro E' as st H d ds x xs Q s r rs p
  unfold fDGet2 at p
  split at p
  · rename_i kvs k z hd
    split at p
    · rename_i hk
      obtain ⟨a, rfl, dr⟩ := dicOf_rel s r hd
      cases rs with
      | cons r1 r2 =>
      cases r2 with
      | cons rz r2 =>
      cases r2
      obtain ⟨o, g, ro⟩ := dr.get hk r1
      refine ⟨a, _, _, o, rfl, rfl, g, ?_⟩
      rcases ro with ⟨e1, rfl⟩ | ⟨d', v, e1, rfl, rv⟩
      · rw [e1] at p; exact p.now s _ rz
      · rw [e1] at p; exact p.now s _ rv
    · exact p.elim
  · exact p.elim
def fSetd (o : D) (ds : List D) (st : Store) : Res Wv := match o, ds with
  | .ref n, [k, x] => match st[n]? with
    | some (some (.dic kvs)) => if okKey kvs k = true ∧ kvs.length < 100000 then (match getA kvs k with
      | some d => .ok (.val d) st
      | none => .ok (.val x) (st.set n (some (.dic (putA kvs k x))))) else .stuck
    | _ => .stuck
  | _, _ => .stuck
theorem mtS_setd : MtS' G E fSetd (rDSetd G.K G.w) := by
  intro E' as st H d ds x xs Q s r rs p
  unfold fSetd at p
  split at p
  · rename_i n k z
    cases r with
    | @ref _ a ha =>
    cases rs with
    | cons r1 r2 =>
    cases r2 with
    | cons rz r2 =>
    cases r2
    split at p
    · rename_i kvs e
      split at p
      · rename_i hc
        refine ⟨a, _, _, rfl, rfl, ?_⟩
        rcases DicR.put s e ha hc.1 r1 rz with ⟨ks, κ, h1, l1, rfl, ro, c⟩ | ⟨ys, b, κ, h1, l1, h2, rfl, kb, ⟨o, ro, rv⟩, c⟩
        · refine .inl ⟨ks, κ, h1, rfl, by rw [l1]; exact szlt hc.2, fun v hv => ?_, fun hn => ?_⟩
          · rcases ro with ⟨_, e2⟩ | ⟨d', v', e1, e2, rd⟩
            · rw [hv] at e2; cases e2
            · rw [hv] at e2; cases e2
              rw [e1] at p
              exact p.now s _ rd
          · rcases ro with ⟨e1, _⟩ | ⟨d', v', e1, e2, rd⟩
            · rw [e1] at p
              obtain ⟨a1, a2⟩ := s.write e ha c
              exact p as _ a2 a1 _ (show RelD _ _ _ _ _ _ from rz.ext a2 s.len)
            · rw [hn] at e2; cases e2
        · refine .inr ⟨ys, b, κ, h1, h2, rfl, kb, by rw [l1]; exact szlt hc.2, fun q hq => ?_, fun hn u ru => ?_⟩
          · rw [hq] at rv
            rcases ro with ⟨e1, rfl⟩ | ⟨d', v', e1, rfl, rd⟩
            · exact absurd rv (by simp [RelO])
            · rw [e1] at p
              exact ⟨v', rv, p.now s _ rd⟩
          · rw [hn] at rv
            rcases ro with ⟨e1, rfl⟩ | ⟨d', v', e1, rfl, rd⟩
            · rw [e1] at p
              obtain ⟨a1, a2⟩ := s.write e ha (c u ru)
              exact p as _ a2 a1 _ (show RelD _ _ _ _ _ _ from rz.ext a2 s.len)
            · exact absurd rv (by simp [RelO])
      · exact p.elim
    · exact p.elim
  · exact p.elim
/-- a method call of a dict -/
def evDm (f : D → List D → Store → Res Wv) (o : EM) (a : AM) : EM := fun env st => (o env st).bind fun w st1 => match dicOf w.d st1 with
  | some _ => (a env st1).bind fun ds st2 => f w.d ds st2
  | none => .stuck
def IsD3 (w : World) (x : V) (H : Hp) : Prop := ∃ a : Addr, x = .ref a ∧ ((∃ kvs, H a = some (.dK kvs)) ∨ ∃ xs, H a = some (DicN w xs a))
theorem IsD3.ty {pins : List (Addr × Obj)} {σ : L2.St} {s : Shared} {x : V} {v : Value} (I : Inv X pins σ H s) (r : RelV x v) (h : IsD3 X.w x H) : s.TypeIs v "dict" ∧ ∀ a, v = .ref a → ∃ ob, s.heap.get? a = some ob ∧ ob.dict = none := by
  obtain ⟨a, rfl, h⟩ := h
  obtain rfl : v = Value.ref a := r
  rcases h with ⟨kvs, e⟩ | ⟨xs, e⟩
  · obtain ⟨t1, t2, _⟩ := isD_at I (.inl ⟨kvs, .inl e⟩)
    exact ⟨t1, t2⟩
  · obtain ⟨⟨lo, hl, hn, hd, o, es, ep, h1, h2, h3, h4⟩, _, _⟩ := I.hok a _ e
    refine ⟨⟨o, h1, h2.1⟩, fun b q => ?_⟩
    cases q
    exact ⟨o, h1, h2.2.1⟩
theorem DicR.isD {kvs : List (D × D)} (h : DicR G as L H kvs a) : IsD3 G.w (.ref a) H := by
  cases h with
  | k h1 _ _ => exact ⟨a, rfl, .inl ⟨_, h1⟩⟩
  | n h1 _ _ _ _ _ => exact ⟨a, rfl, .inr ⟨_, h1⟩⟩
def tDM3 (w : World) (r : V → List V → Hp → VK → Prop) (to : TE) (t : TA) : TE := fun σ H Q => to σ H fun x H1 => IsD3 w x H1 ∧ t σ H1 fun xs H2 => r x xs H2 Q
section
variable {o e : Expr} {es : List Expr} {to : TE} {t : TA} {name : Str} {apos cpos : Pos} {T id : String} {r : V → List V → Hp → VK → Prop}
theorem pe_dm3 (slot : Slot "dict" name id) (hty : typeOf (.builtin id) = pure (.type "method_descriptor")) (hm : MtR X id r) (ho : PE X o to) (ha : PA X (e :: es) t)
    (hbase : attributeBase o name X.env (eval o X.env) = eval o X.env := by rfl) (hfew : ((backTo cpos (starEach (e :: es) X.env)).all (fun x => !x.1) &&
      (backToKw cpos (keywordEach [] X.env)).all (fun x => x.1.isSome) && decide ((e :: es).length + ([] : List Keyword).length + (if ([] : List Keyword).isEmpty then 0 else 1) < 30)) = true := by rfl)
    (hline : (apos.endLine == cpos.line) = true := by rfl) (hs : starEach (e :: es) X.env = (false, eval e X.env) :: starEach es X.env := by rfl)
    (hplain : (backTo cpos (starEach es X.env)).any (·.1) = false := by rfl) :
    PE X (.Call (.Attribute o name apos) (e :: es) [] cpos) (tDM3 X.w r to t) := by
  constructor
  intro pins s σ H Q I h
  refine wpAny_Call_method_late hbase hfew hline rfl (thn (ho.run pins s σ H _ I h) fun v s1 ⟨x, H1, I1, r1, d, q1⟩ => ?_)
  have ht := d.ty I1 r1
  have hA := ha.run cpos pins s1 σ H1 _ I1 q1
  refine ⟨"dict", id, PySem.F.plainAttrs_dict, slot, hty, ht.1, ht.2, ?_⟩
  rw [hs] at hA ⊢
  exact Calls.callWith_builtin (by show (false || (backTo cpos (starEach es X.env)).any (·.1)) = false; rw [hplain]; rfl) (Calls.evalArgs_plain (thn hA fun us s2 ⟨vs, H2, I2, r2, q2⟩ => hm pins s2 σ H2 x vs v us Q I2 r1 r2 q2))
variable {σ : L2.St} {Q : VK} {mo : EM} {ma : AM} {f : D → List D → Store → Res Wv}
theorem tI_evDm (hs : MtS' G E f r) (h : tI G E (evDm f mo ma) σ H Q) : tDM3 G.w r (tI G E mo) (tAr G E ma) σ H Q := by
  obtain ⟨as, st, env, s, er, p⟩ := h
  refine ⟨as, st, env, s, er, (p.bind s.len).mono fun w as1 st1 H1 e1 s1 p1 v1 r1 => ?_⟩
  split at p1
  · rename_i kvs hd
    obtain ⟨a, rfl, dr⟩ := dicOf_rel s1 r1.d hd
    refine ⟨dr.isD, as1, st1, env, s1, er.ext e1 s.len, (p1.bind s1.len).mono fun ds as2 st2 H2 e2 s2 p2 vs r2 => ?_⟩
    exact hs _ as2 st2 H2 w.d ds _ vs Q s2 (r1.d.ext e2 s1.len) r2 (p2.mono fun w as3 st3 H3 e3 s3 q v rv => q v (rv.from (fresh_of (e1.trans e2 s.len))))
  · exact p1.elim
theorem pI_dm (hw : G.w = X.w) (slot : Slot "dict" name id) (hty : typeOf (.builtin id) = pure (.type "method_descriptor")) (hm : MtR X id r) (hs : MtS' G E f r) (ho : PE X o (tI G E mo)) (ha : PA X (e :: es) (tAr G E ma))
    (hbase : attributeBase o name X.env (eval o X.env) = eval o X.env := by rfl) (hfew : ((backTo cpos (starEach (e :: es) X.env)).all (fun x => !x.1) &&
      (backToKw cpos (keywordEach [] X.env)).all (fun x => x.1.isSome) && decide ((e :: es).length + ([] : List Keyword).length + (if ([] : List Keyword).isEmpty then 0 else 1) < 30)) = true := by rfl)
    (hline : (apos.endLine == cpos.line) = true := by rfl) (hst : starEach (e :: es) X.env = (false, eval e X.env) :: starEach es X.env := by rfl)
    (hplain : (backTo cpos (starEach es X.env)).any (·.1) = false := by rfl) :
    PE X (.Call (.Attribute o name apos) (e :: es) [] cpos) (tI G E (evDm f mo ma)) :=
  (pe_dm3 slot hty hm ho ha hbase hfew hline hst hplain).vi fun σ H Q h => by rw [← hw]; exact tI_evDm hs h
end
end
end VI
namespace VI
open PySem PySem.Spec PyProof.Rows L2
/-! ### len, list, tuple of dicts: as rules -/
section
variable {prog : Program} {w : World} {A : Around} {E : Value → Shared → Prop} {s : Shared} {d : Addr} {es : Array DictEntry} {ep : Nat}
theorem len_body_raw {Q : Value → Shared → Prop} (hd : (d == sysModules) = false) (hm : s.heap.DictRaw d es ep) (hfit : (es.size : Int) < 2 ^ 63)
    (h : Q (.int es.size (s.toks + 1)) { s with toks := s.toks + 1 + 1 }) : wpAny (model prog w) A (Builtin.«len» ⟨[.ref d], []⟩) (fun fin s' => ∃ r, fin = .done (.ret r) ∧ Q r s') E s := by
  unfold Builtin.«len»
  refine wpAny_bind (m := oneArg "len" _) (wpAny_pure ?_)
  refine wpAny_bind (m := callSpecial? (.ref d) (Str.ofString "__len__")) (wpAny_callSpecial?_slot (name := Str.ofString "__len__") hm.typeIs F.slot_dict_len
    (call_len_raw hd hm ?_))
  show wpAny _ _ _ _ _ { s with toks := s.toks + 1 }
  refine wpAny_bind (wpAny_holding (wpAny_pure ?_))
  refine wpAny_bind (wpAny_letGo ?_)
  show wpAny _ _ (if ((es.size : Nat) : Int) < 0 then _ else _) _ _ _
  rw [if_neg (by omega)]
  show wpAny _ _ (if ((es.size : Nat) : Int) ≥ 2 ^ 63 then _ else _) _ _ _
  rw [if_neg (by omega)]
  exact wpAny_bind (wpAny_mkInt (wpAny_pure ⟨_, rfl, h⟩))
theorem call_len_rawD {Q : Value → Shared → Prop} (hd : (d == sysModules) = false) (hm : s.heap.DictRaw d es ep) (hfit : (es.size : Int) < 2 ^ 63)
    (h : Q (.int es.size (s.toks + 1)) { s with toks := s.toks + 1 + 1 }) : wpAny (model prog w) A (call (.builtin "len") [.ref d]) Q E s :=
  Calls.call_function_entry kind_len plain_len entry_len (args_len1 _) (len_body_raw hd hm hfit h)
variable {T : String} {r n : Nat} {P : Nat → Value → Prop} {OK : Heap → Prop}
theorem collect_kdl {Q : List Value → Shared → Prop} (K : PySem.W.KdlSrc prog w T r d n P OK) (hh : A.handled = none) (hok : OK s.heap) (hn : n ≤ sizeLine)
    (hQ : ∀ (h' : Heap) (tk : Nat) (acc : Array Value), (∀ b o, s.heap.get? b = some o → h'.get? b = some o) → ItemsOf P acc n → Q acc.toList { s with heap := h', toks := tk }) :
    wpAny (model prog w) A (collect (.ref r)) Q E s := by
  unfold collect
  refine wpAny_bind (wpAny_runValue (codeAny_builtin F.entry_proto_collect ?_))
  rw [Around.under_plainId F.plain_proto_collect _]
  show wpAny _ A.in1 (newList [] >>= fun l => again (.builtin "list.__iadd__" ⟨[l, .ref r], []⟩)) _ _ s
  refine wpAny_bind (wpAny_newObj_type ?_)
  refine wpAny_pure ⟨plainId_quiet F.plain_list_iadd _, codeAny_builtin F.entry_list_iadd ?_⟩
  rw [Around.under_plainId F.plain_list_iadd _]
  show wpAny _ A.in1 (Builtin.List.listExtendWith (.ref s.heap.objs.size) (.ref r) (.ref s.heap.objs.size)) _ _ _
  have hS : (s.heap.push { cls := .type "list", data := .seq ([] : List Value).toArray }).get? s.heap.objs.size = some { cls := .type "list", data := .seq #[] 0 } := Heap.get?_push_size _ rfl
  have hlt := K.there _ hok
  have ok1 : OK (s.heap.push { cls := .type "list", data := .seq ([] : List Value).toArray }) := K.keep _ _ hok fun b _ o e => Heap.get?_push_of_some _ e
  refine wpAny_mono (PySem.W.kdl_extend (A := A) (R := fun rr s' => rr = .ok (.ret (.ref s.heap.objs.size)) ∧ ∃ (h' : Heap) (tk : Nat) (acc : Array Value) (c' : Nat), s' = { s with heap := h', toks := tk } ∧
      (∀ b o, s.heap.get? b = some o → h'.get? b = some o) ∧ h'.get? s.heap.objs.size = some { cls := .type "list", dict := none, data := .seq acc c', slots := #[] } ∧ ItemsOf P acc n)
    (s := { s with heap := s.heap.push { cls := .type "list", data := .seq ([] : List Value).toArray } }) K hh ok1 s.heap.objs.size (Nat.ne_of_gt hlt.1) (Nat.ne_of_gt hlt.2) _ 0 hS
    (fun h' tk acc c' hk e hi => ⟨rfl, h', tk, acc, c', rfl, fun b o q => hk b o (Nat.ne_of_lt (Heap.lt_size q)) (Heap.get?_push_of_some _ q), e, hi⟩) hn) (fun fin s' h => ?_) (fun e s' h => ?_)
  · cases fin with
    | done f =>
      obtain ⟨e, h', tk, acc, c', rfl, hk, hS', hi⟩ := h
      cases e
      show wpAny _ A (load s.heap.objs.size >>= _) _ _ _
      exact wpAny_bind (wpAny_load hS' (wpAny_pure (hQ h' tk acc hk hi)))
    | again c' =>
      refine ⟨h.1, codeAny_mono h.2 fun rr s'' hr' => ?_⟩
      obtain ⟨rfl, h', tk, acc, c', rfl, hk, hS', hi⟩ := hr'
      show wpAny _ A (load s.heap.objs.size >>= _) _ _ _
      exact wpAny_bind (wpAny_load hS' (wpAny_pure (hQ h' tk acc hk hi)))
  · exact absurd h.1 (by simp)
theorem code_tuple_kdl {Q₁ : Value → Shared → Prop} (K : PySem.W.KdlSrc prog w T r d n P OK) (hT : (Value.type T == Value.type "tuple") = false) (hh : A.handled = none) (hok : OK s.heap) (hn : n ≤ sizeLine)
    (h : ∀ (h' : Heap) (tk : Nat) (acc : Array Value), (∀ b o, s.heap.get? b = some o → h'.get? b = some o) → ItemsOf P acc n →
      Q₁ (.ref h'.objs.size) { s with heap := h'.push { cls := .type "tuple", data := .seq acc }, toks := tk }) :
    codeAny (model prog w) A (.call (.builtin "tuple.__new__") ⟨[.type "tuple", .ref r], []⟩) (wants Q₁ E) s := by
  refine codeAny_of_tree ?_
  show wpAny _ A.in1 (do checkBuiltinCall "tuple.__new__" ⟨[.type "tuple", .ref r], []⟩; again (.builtin "tuple.__new__" ⟨[.type "tuple", .ref r], []⟩)) _ _ s
  refine wpAny_bind (wpAny_of_eq (F.newCall_tuple_1 _) (wpAny_pure ⟨plainId_quiet F.plain_tuple_new _, codeAny_builtin F.entry_tuple_new ?_⟩))
  rw [Around.under_plainId F.plain_tuple_new _]
  have hsub := sub_tuple_self
  have hinit := init_tuple_lookup
  have hmh := madeHere_tuple
  have hTI : s.TypeIs (.ref r) T := K.type s hok
  have hh1 : A.in1.handled = none := hh
  wp_walk using wpAny_typeOf hTI, collect_kdl (A := A.in1) K hh1 hok hn
  all_goals first | exact hT | skip
  intro h' tk acc hk hacc
  show wpAny _ _ (Builtin.Tuple.tupleExact acc.toList.toArray >>= fun v => ret v) _ _ _
  unfold Builtin.Tuple.tupleExact
  refine wpAny_bind (wpAny_newObj_type ?_ (by show acc.toList.toArray.size ≤ sizeLine; simp only [Array.toArray_toList]; rw [hacc.1]; exact hn))
  refine wpAny_pure ?_
  have e : acc.toList.toArray = acc := by simp
  rw [e]
  exact h h' tk acc hk hacc
end
end VI
namespace VI
open PySem PySem.Spec PyProof.Rows L2
section
variable {prog : Program} {w : World} {A : Around} {E : Value → Shared → Prop} {s : Shared} {d : Addr} {T : String} {r n : Nat} {P : Nat → Value → Prop} {OK : Heap → Prop}
theorem call_tuple_kdl {Q : Value → Shared → Prop} (K : PySem.W.KdlSrc prog w T r d n P OK) (hT : (Value.type T == Value.type "tuple") = false) (hh : A.handled = none) (hok : OK s.heap) (hn : n ≤ sizeLine)
    (hQ : ∀ (h' : Heap) (tk : Nat) (acc : Array Value), (∀ b o, s.heap.get? b = some o → h'.get? b = some o) → ItemsOf P acc n →
      Q (.ref h'.objs.size) { s with heap := h'.push { cls := .type "tuple", data := .seq acc }, toks := tk }) :
    wpAny (model prog w) A (call (.type "tuple") [.ref r]) Q E s := by
  refine callType_codes (Q₁ := fun obj s₁ => s₁.TypeIs obj "tuple" ∧ Q obj s₁) F.called_tuple (F.typeCall_tuple_1 _) F.entry_object_init
    (code_tuple_kdl (A := A.in1) K hT hh hok hn fun h' tk acc hk hacc => ⟨⟨_, Heap.get?_push_size _ rfl, rfl⟩, hQ h' tk acc hk hacc⟩) fun obj s₁ h₁ => ?_
  exact ⟨h₁.1, F.args_object_init_2 obj _, object_init_meets F.called_tuple.init.lookup F.called_tuple.made (by decide) prog w A.in1 _ s₁ ⟨h₁.1, rfl, h₁.2⟩⟩
end
/-- a dict of either kind, its keys and its values -/
def DHas (w : World) (H : Hp) (a : Addr) (ks vs : List V) : Prop :=
  (∃ kvs : List (Key × V), H a = some (.dK kvs) ∧ ks = kvs.map (fun kv => kV kv.1) ∧ vs = kvs.map (·.2)) ∨ (∃ xs : Xs, H a = some (DicN w xs a) ∧ ks = xs.map (fun x => V.ref x.2.1) ∧ Vals vs (xs.map fun x => x.2.2))
section
variable {X : Cx} {pins : List (Addr × Obj)} {σ : L2.St} {H : Hp} {s : Shared} {a : Addr}
theorem vals_kv : ∀ {kvs : List (Key × V)} {vs : List (Key × Value)} {es : List DictEntry}, KV kvs vs → (∀ i : Nat, i < es.length → ∃ k v, vs[i]? = some (k, v) ∧ (∃ e, es[i]? = some e ∧ (mixKind X.prog X.w).is k e.key = true ∧ e.val = v)) → es.length = vs.length →
    Vals (kvs.map (fun kv => kV kv.1)) (es.map (·.key)) ∧ Vals (kvs.map (·.2)) (es.map (·.val))
  | [], _, es, .nil, _, hl => by
    have : es = [] := List.eq_nil_of_length_eq_zero (by simpa using hl)
    subst this; exact ⟨.nil, .nil⟩
  | kv :: kvs, v :: vs, es, .cons r1 r2, h, hl => by
    cases es with
    | nil => simp at hl
    | cons e es =>
      obtain ⟨k, y, h1, e', h2, h3, h4⟩ := h 0 (by simp)
      simp only [List.getElem?_cons_zero, Option.some.injEq] at h1 h2
      subst h1 h2
      obtain ⟨q1, q2⟩ := vals_kv (kvs := kvs) (vs := vs) (es := es) r2 (fun i hi => by
        obtain ⟨k, y, g1, e', g2, g3⟩ := h (i + 1) (by simp; omega)
        exact ⟨k, y, by simpa using g1, e', by simpa using g2, g3⟩) (by simpa using hl)
      obtain ⟨rk, rv⟩ := r1
      have hk : RelV (kV kv.1) e.key := by
        have := keyIs_rel h3
        dsimp only at rk
        rw [rk]; exact this
      exact ⟨.cons hk q1, .cons (show RelV kv.2 e.val by rw [h4]; exact rv) q2⟩
theorem xs_vals {w : World} : ∀ xs : Xs, Vals (xs.map fun x => V.ref x.2.1) (xs.map ((·.key) ∘ fun x => (⟨x.1.hash w, .ref x.2.1, x.2.2⟩ : DictEntry)))
  | [] => .nil
  | x :: xs => .cons rfl (xs_vals xs)
theorem vals_at : ∀ {xs : List V} {us : List Value} {j : Nat} {x : V} {u : Value}, Vals xs us → xs[j]? = some x → us[j]? = some u → RelV x u
  | _, _, 0, _, _, .cons r _, h1, h2 => by
    simp only [List.getElem?_cons_zero, Option.some.injEq] at h1 h2
    subst h1 h2; exact r
  | _, _, j + 1, _, _, .cons _ r, h1, h2 => vals_at (j := j) r (by simpa using h1) (by simpa using h2)
  | _, _, _, _, _, .nil, h1, _ => by simp at h1
theorem DHas.raw {ks vs : List V} (I : Inv X pins σ H s) (h : DHas X.w H a ks vs) : ∃ es ep, s.heap.DictRaw a es ep ∧ (a == sysModules) = false ∧ es.size ≤ sizeLine ∧ Vals ks (es.toList.map (·.key)) ∧ Vals vs (es.toList.map (·.val)) := by
  rcases h with ⟨kvs, e, rfl, rfl⟩ | ⟨xs, e, rfl, rv⟩
  · obtain ⟨z, lo, ws, rel, dd⟩ := dk_of I.hok e
    obtain ⟨es, ep, hr, hs, hg⟩ := dd.raw
    have hl : kvs.length = ws.length := Paired.length rel
    refine ⟨es, ep, hr, lo, by rw [hs, ← hl]; exact z, ?_⟩
    refine vals_kv (X := X) rel (fun i hi => ?_) (by simpa using hs)
    have hi' : i < es.size := by simpa using hi
    have hw : i < ws.length := by rw [← hs]; exact hi'
    refine ⟨ws[i].1, ws[i].2, by rw [List.getElem?_eq_getElem hw], es[i], by simp [hi'], ?_⟩
    exact hg i hi' _ _ (by rw [List.getElem?_eq_getElem hw])
  · obtain ⟨⟨lo, hl, hn, hd, o, es, ep, h1, h2, h3, h4⟩, _, _⟩ := I.hok a _ e
    have hs : es.size = xs.length := by have := congrArg List.length h4; simpa using this
    refine ⟨es, ep, ⟨o, h1, h2, h3⟩, lo, by rw [hs]; exact hl, ?_, ?_⟩
    · rw [h4, List.map_map]
      exact xs_vals (w := X.w) xs
    · rw [h4, List.map_map]
      exact rv
theorem vals_items {ks : List V} {es : Array DictEntry} {acc : Array Value} (r : Vals ks (es.toList.map (·.key))) (h : ItemsOf (fun i v => ∃ hi : i < es.size, v = es[i].key) acc es.size) : Vals ks acc.toList := by
  have hl : ks.length = es.size := by have := r.length; simpa using this
  refine vals_of_at (by rw [hl]; simp [h.1]) fun j x u h1 h2 => ?_
  obtain ⟨hi, rfl⟩ := h.2 j u (by rw [← Array.getElem?_toList]; exact h2)
  have e : (es.toList.map (·.key))[j]? = some es[j].key := by simp [hi]
  exact vals_at r h1 e
def rLenD2 (w : World) : List V → Hp → VK → Prop := fun xs H Q => ∃ (a : Addr) (ks vs : List V), xs = [.ref a] ∧ DHas w H a ks vs ∧ Q (.int ks.length) H
theorem call_lenD2 : CallR X (.builtin "len") (rLenD2 X.w) := by
  intro pins s σ H xs us Q I r h
  obtain ⟨a, ks, vs, rfl, d, q⟩ := h
  obtain ⟨u, rfl, rx⟩ := vals1 r
  obtain rfl : u = Value.ref a := rx
  obtain ⟨es, ep, hr, lo, hz, rk, rv⟩ := d.raw I
  have hl : ks.length = es.size := by have := rk.length; simpa using this
  rw [hl] at q
  refine call_len_rawD lo hr (by have := sizeLine_eq; omega) ?_
  exact ⟨.int es.size, H, I.kept (t' := _) fun _ _ z => z, ⟨_, rfl⟩, q⟩
def rListD2 (w : World) : List V → Hp → VK → Prop := fun xs H Q => ∃ (a : Addr) (ks vs : List V), xs = [.ref a] ∧ DHas w H a ks vs ∧ ∀ q, H q = none → Q (.ref q) (upd H q (.lst ks))
theorem call_listD2 (hc : X.calm = true) : CallR X (.type "list") (rListD2 X.w) := by
  intro pins s σ H xs us Q I r h
  obtain ⟨a, ks, vs, rfl, d, q⟩ := h
  obtain ⟨u, rfl, rx⟩ := vals1 r
  obtain rfl : u = Value.ref a := rx
  obtain ⟨es, ep, hr, lo, hz, rk, rv⟩ := d.raw I
  have hl : ks.length = es.size := by have := rk.length; simpa using this
  refine PySem.W.kdl_call (KdlSrc.rawDict (ep := ep) lo) (I.ok.hd hc) hr hz fun h' tk acc' c' hkeep hS hacc => ?_
  refine ⟨.ref s.heap.objs.size, upd H s.heap.objs.size (.lst ks), I.laid hkeep (Nat.le_refl _) (show ObjOk X.prog X.w _ _ _ (.lst ks) from ⟨by rw [hl]; exact hz, acc'.toList, c', vals_items rk hacc, ?_⟩), rfl, q _ (I.hok.fresh (Nat.le_refl _))⟩
  rw [Array.toArray_toList]; exact hS
def rTupD2 (w : World) : List V → Hp → VK → Prop := fun xs H Q => ∃ (a : Addr) (ks vs : List V), xs = [.ref a] ∧ DHas w H a ks vs ∧ ∀ q, H q = none → Q (.ref q) (upd H q (.tup ks))
theorem call_tupD2 (hc : X.calm = true) : CallR X (.type "tuple") (rTupD2 X.w) := by
  intro pins s σ H xs us Q I r h
  obtain ⟨a, ks, vs, rfl, d, q⟩ := h
  obtain ⟨u, rfl, rx⟩ := vals1 r
  obtain rfl : u = Value.ref a := rx
  obtain ⟨es, ep, hr, lo, hz, rk, rv⟩ := d.raw I
  have hl : ks.length = es.size := by have := rk.length; simpa using this
  refine call_tuple_kdl (KdlSrc.rawDict (ep := ep) lo) (by decide) (I.ok.hd hc) hr hz fun h' tk acc hkeep hacc => ?_
  have I1 : Inv X pins σ H { s with heap := h', toks := tk } := I.kept (t' := tk) hkeep
  refine ⟨.ref h'.objs.size, upd H h'.objs.size (.tup ks), I1.laid (t' := tk) (fun b o e => Heap.get?_push_of_some _ e) (Nat.le_refl _) (show ObjOk X.prog X.w _ _ _ (.tup ks) from ⟨by rw [hl]; exact hz, acc.toList, vals_items rk hacc, ?_⟩), rfl, q _ (I1.hok.fresh (Nat.le_refl _))⟩
  have e : acc = acc.toList.toArray := by simp
  rw [e]
  exact IsTup.new _ _
end
/-! by value -/
section
variable {X : Cx} {G : Gx} {E : WX} {as as' : List Addr} {st st' : Store} {H H' : Hp} {L : Addr → Prop} {a : Addr}
theorem keys_rel : ∀ {kvs : List (D × D)} {ks : List Key} {vs : List V}, kvs.map (·.1) = ks.map keyD → ks.length = vs.length → RelDs G as L H (kvs.map (·.1)) ((ks.zip vs).map fun kv => kV kv.1)
  | [], [], [], _, _ => .nil
  | [], _ :: _, _, h, _ => by simp at h
  | _ :: _, [], _, h, _ => by simp at h
  | _, [], _ :: _, _, h => by simp at h
  | _, _ :: _, [], _, h => by simp at h
  | p :: kvs, k :: ks, v :: vs, h, hl => by
    simp only [List.map_cons, List.cons.injEq] at h
    rw [List.zip_cons_cons, List.map_cons, List.map_cons, h.1]
    refine .cons ?_ (keys_rel h.2 (by simpa using hl))
    cases k with
    | inl i => exact .int i
    | inr x => exact .str x
theorem zip_snd {α β : Type} : ∀ {ks : List α} {vs : List β}, ks.length = vs.length → (ks.zip vs).map (·.2) = vs
  | [], [], _ => rfl
  | [], _ :: _, h => by simp at h
  | _ :: _, [], h => by simp at h
  | _ :: _, _ :: _, h => by rw [List.zip_cons_cons, List.map_cons, zip_snd (by simpa using h)]
theorem DicR.has {kvs : List (D × D)} (h : DicR G as L H kvs a) : ∃ ks vs, DHas G.w H a ks vs ∧ RelDs G as L H (kvs.map (·.1)) ks ∧ RelDs G as L H (kvs.map (·.2)) vs := by
  cases h with
  | @k _ ks vs _ h1 h2 h3 =>
    have l1 : kvs.length = ks.length := by have := congrArg List.length h2; simpa using this
    have l2 : kvs.length = vs.length := by have := h3.length; simpa using this
    exact ⟨_, _, .inl ⟨_, h1, rfl, rfl⟩, keys_rel h2 (by omega), by rw [zip_snd (by omega)]; exact h3⟩
  | @n _ xs vs _ h1 h2 h3 h4 h5 h6 => exact ⟨_, _, .inr ⟨xs, h1, rfl, h6⟩, h4, h5⟩
def fLenD (ds : List D) (st : Store) : Res Wv := match ds with
  | [d] => (match dicOf d st with
    | some kvs => .ok (.val (.int kvs.length)) st
    | none => fLen ds st)
  | _ => .stuck
def fListD (ds : List D) (st : Store) : Res Wv := match ds with
  | [d] => (match dicOf d st with
    | some kvs => .ok (.new (.lst (kvs.map (·.1)))) st
    | none => fList ds st)
  | _ => .stuck
def fTupleD (ds : List D) (st : Store) : Res Wv := match ds with
  | [d] => (match dicOf d st with
    | some kvs => .ok (.val (.tup (kvs.map (·.1)))) st
    | none => fTuple ds st)
  | _ => .stuck
theorem callS_lenD : CallS G E fLenD (fun xs H Q => rLenD2 G.w xs H Q ∨ ∃ x n, xs = [x] ∧ LenV G.K x H n ∧ Q (.int n) H) := by
  intro E' as st H ds xs Q s r p
  unfold fLenD at p
  split at p
  · split at p
    · rename_i kvs hd
      cases r with
      | cons r t =>
      cases t
      obtain ⟨a, rfl, dr⟩ := dicOf_rel s r hd
      obtain ⟨ks, vs, h1, h2, h3⟩ := dr.has
      refine .inl ⟨a, ks, vs, rfl, h1, ?_⟩
      have e : ks.length = kvs.length := by have := h2.length; simpa using this.symm
      rw [e]
      exact p.now s _ (.int _)
    · exact .inr (callS_len (E := E) E' as st H _ xs Q s r p)
  · exact p.elim
theorem callS_listD : CallS G E fListD (fun xs H Q => rListD2 G.w xs H Q ∨ ∃ p ys, xs = [.ref p] ∧ (SqL G.K H p ys ∨ SqT G.K H p ys) ∧ ∀ l, H l = none → Q (.ref l) (upd H l (.lst ys))) := by
  intro E' as st H ds xs Q s r p
  unfold fListD at p
  split at p
  · split at p
    · rename_i kvs hd
      cases r with
      | cons r t =>
      cases t
      obtain ⟨a, rfl, dr⟩ := dicOf_rel s r hd
      obtain ⟨ks, vs, h1, h2, h3⟩ := dr.has
      exact .inl ⟨a, ks, vs, rfl, h1, fun t ht => p as _ (Ext.lay ht) (s.laid ht) _ (RelW.newLst s h2 ht)⟩
    · exact .inr (callS_list (E := E) E' as st H _ xs Q s r p)
  · exact p.elim
theorem callS_tupleD : CallS G E fTupleD (fun xs H Q => rTupD2 G.w xs H Q ∨ ∃ p ys, xs = [.ref p] ∧ ((SqL G.K H p ys ∧ ∀ l, H l = none → Q (.ref l) (upd H l (.tup ys))) ∨ (SqT G.K H p ys ∧ Q (.ref p) H))) := by
  intro E' as st H ds xs Q s r p
  unfold fTupleD at p
  split at p
  · split at p
    · rename_i kvs hd
      cases r with
      | cons r t =>
      cases t
      obtain ⟨a, rfl, dr⟩ := dicOf_rel s r hd
      obtain ⟨ks, vs, h1, h2, h3⟩ := dr.has
      exact .inl ⟨a, ks, vs, rfl, h1, fun t ht => p as _ (Ext.lay ht) (s.laid ht) _ (RelD.newTup s h2 ht)⟩
    · exact .inr (callS_tuple (E := E) E' as st H _ xs Q s r p)
  · exact p.elim
end
end VI
namespace VI
open PySem PySem.Spec PyProof.Rows L2
/-! ### dict(pairs): keys that are tuples, as a rule -/
abbrev Row4 := Addr × NestedKey × Addr × V
def rowsH : List Row4 → List Value → Xs
  | r :: rs, u :: us => (r.2.1, r.2.2.1, u) :: rowsH rs us
  | _, _ => []
theorem storedAll_len : ∀ (ps acc : Xs), (storedAllH acc ps).length ≤ acc.length + ps.length
  | [], acc => Nat.le_refl _
  | p :: ps, acc => by
    have h1 := storedAll_len ps (storedH acc p.1 p.2.1 p.2.2)
    have h2 := storedH_len acc p.1 p.2.1 p.2.2
    show (storedAllH (storedH acc p.1 p.2.1 p.2.2) ps).length ≤ _
    simp only [List.length_cons]; omega
theorem storedAll_dp : ∀ (ps acc : Xs), (∀ x ∈ acc, x.1.depth ≤ 8) → (∀ x ∈ ps, x.1.depth ≤ 8) → ∀ x ∈ storedAllH acc ps, x.1.depth ≤ 8
  | [], acc, h, _ => h
  | p :: ps, acc, h, hp => by
    show ∀ x ∈ storedAllH (storedH acc p.1 p.2.1 p.2.2) ps, x.1.depth ≤ 8
    refine storedAll_dp ps _ (fun x hx => ?_) (fun x hx => hp x (List.mem_cons_of_mem _ hx))
    rcases storedH_mem hx with ⟨u, hx⟩ | ⟨e, _⟩
    · exact h (x.1, x.2.1, u) hx
    · rw [e]; exact hp p (by simp)
def rDictN (K : PySem.W.Frag) (w : World) : List V → Hp → VK → Prop := fun xs H Q => ∃ (a : Addr) (rows : List Row4), xs = [.ref a] ∧ SqL K H a (rows.map fun r => V.ref r.1) ∧ (∀ r ∈ rows, SqT K H r.1 [.ref r.2.2.1, r.2.2.2] ∧ KeyAt K H (r.2.2.1, r.2.1)) ∧
  ∀ q, H q = none → ∀ us : List Value, Vals (rows.map fun r => r.2.2.2) us → Q (.ref q) (upd H q (DicN w (storedAllH [] (rowsH rows us)) q))
section
variable {X : Cx} {pins : List (Addr × Obj)} {σ : L2.St} {H : Hp} {s : Shared} {a : Addr}
theorem rows_of (I : Inv X pins σ H s) : ∀ {rows : List Row4}, (∀ r ∈ rows, SqT X.K H r.1 [.ref r.2.2.1, r.2.2.2] ∧ KeyAt X.K H (r.2.2.1, r.2.1)) →
    ∃ us : List Value, Vals (rows.map fun r => r.2.2.2) us ∧ us.length = rows.length ∧ (rowsH rows us).length = rows.length ∧
      ∀ (j : Nat) (x : NestedKey × Addr × Value), (rowsH rows us)[j]? = some x → ∃ r, rows[j]? = some r ∧ r.2.1 = x.1 ∧ r.2.2.1 = x.2.1 ∧ IsTup s.heap r.1 #[.ref x.2.1, x.2.2]
  | [], _ => ⟨[], .nil, rfl, rfl, fun j x e => by simp [rowsH] at e⟩
  | r :: rows, h => by
    obtain ⟨us, rv, l1, l2, hp⟩ := rows_of I (rows := rows) fun r hr => h r (List.mem_cons_of_mem _ hr)
    obtain ⟨its, rv0, ht, _⟩ := I.tuple (h r (by simp)).1
    obtain ⟨u, y, ei, ru, ry⟩ := vals2 rv0
    subst ei
    obtain rfl : u = Value.ref _ := ru
    refine ⟨y :: us, .cons ry rv, by simp [l1], by simp [rowsH, l2], fun j x e => ?_⟩
    cases j with
    | zero =>
      simp only [rowsH, List.getElem?_cons_zero, Option.some.injEq] at e
      subst e
      exact ⟨r, rfl, rfl, rfl, ht⟩
    | succ j =>
      obtain ⟨r', e1, e2⟩ := hp j x (by simpa [rowsH] using e)
      exact ⟨r', by simpa using e1, e2⟩
theorem call_dictN (hcalm : X.calm = true) (hu : X.A.units + 10 < cLine) : CallR X (.type "dict") (rDictN X.K X.w) := by
  intro pins s σ H xs us Q I r h
  obtain ⟨a, rows, rfl, hq, hp, q⟩ := h
  obtain ⟨u, rfl, rx⟩ := vals1 r
  obtain rfl : u = Value.ref a := rx
  obtain ⟨its, rv, pl, hz⟩ := I.list hq
  have er : (rows.map fun r => V.ref r.1) = (rows.map (·.1)).map V.ref := by rw [List.map_map]; rfl
  rw [er] at rv hz
  have ei := refs_at rv
  subst ei
  rw [List.length_map, List.length_map] at hz
  obtain ⟨us, rus, l1, l2, hrows⟩ := rows_of I hp
  obtain ⟨o, n, ho, hc, hd, hdat⟩ := pl
  have key : ∀ x ∈ rowsH rows us, ∃ r ∈ rows, r.2.1 = x.1 ∧ r.2.2.1 = x.2.1 := fun x hx => by
    obtain ⟨j, hj⟩ := List.getElem?_of_mem hx
    obtain ⟨r, e1, e2, e3, _⟩ := hrows j x hj
    exact ⟨r, List.mem_of_getElem? e1, e2, e3⟩
  have isN : ∀ x ∈ rowsH rows us, (nestedKind X.prog X.w).is s.heap x.1 x.2.1 := fun x hx => by
    obtain ⟨r, hr, e2, e3⟩ := key x hx
    have := (hp r hr).2.isN I
    rw [e2, e3] at this
    exact this
  have P := PairArg.list (prog := X.prog) (w := X.w) a (((rows.map (·.1)).map Value.ref).toArray) (fun j => (rows.map (·.1)).getD j 0) ((rowsH rows us).map fun x => (Value.ref x.2.1, x.2.2))
  refine call_dict_pairsH (knd := nestedKind X.prog X.w) (ps := rowsH rows us) P (I.ok.hd hcalm) (by show X.A.units + 1 + 1 + 8 < cLine; omega) ⟨⟨o, n, ho, hc, hd, hdat⟩, ?_⟩ ⟨by simp, fun i k v h => ?_⟩ (fun h' hk x hx => ?_) (by rw [List.length_map, l2]; exact hz) fun h' tk hd' hk => ?_
  · refine ⟨by simp [l2], fun j k v hj => ?_⟩
    rw [List.getElem?_map] at hj
    obtain ⟨x, hx, e⟩ := Option.map_eq_some_iff.mp hj
    cases e
    obtain ⟨r, e1, e2, e3, ht⟩ := hrows j x hx
    have e4 : (rows.map (·.1))[j]? = some r.1 := by rw [List.getElem?_map, e1]; rfl
    have e5 : (rows.map (·.1)).getD j 0 = r.1 := by rw [List.getD_eq_getElem?_getD, e4]; rfl
    refine ⟨by simp [e1], .inl ?_⟩
    show s.heap.IsTuple ((rows.map (·.1)).getD j 0) _
    rw [e5]
    exact ht
  · simp only [PairRel, List.getElem?_map] at h
    obtain ⟨x, hx, e⟩ := Option.map_eq_some_iff.mp h
    cases e
    exact ⟨x.1, x.2.1, hx, rfl⟩
  · exact (nestedKind_stays (prog := X.prog) (w := X.w)).all h' (fun b o _ e => hk b o (Nat.ne_of_lt (Heap.lt_size e)) (by simp) e) _ _ (isN x hx)
  · have lo : (s.heap.objs.size == sysModules) = false := beq_eq_false_iff_ne.mpr (Nat.ne_of_gt I.big)
    refine ⟨.ref s.heap.objs.size, upd H s.heap.objs.size (DicN X.w (storedAllH [] (rowsH rows us)) s.heap.objs.size), I.laid (t' := tk) (fun b o e => hk b o (by simp) e) (Nat.le_refl _) (dicN_new lo ?_ ?_ hd'), rfl, q _ (I.hok.fresh (Nat.le_refl _)) us rus⟩
    · have := storedAll_len (rowsH rows us) []
      simp only [List.length_nil, Nat.zero_add, l2] at this
      exact Nat.le_trans this hz
    · exact storedAll_dp _ _ (fun x hx => nomatch hx) fun x hx => by
        obtain ⟨r, hr, e2, e3⟩ := key x hx
        rw [← e2]; exact (hp r hr).2.2
end
end VI
namespace VI
open PySem PySem.Spec PyProof.Rows L2
/-! ### dict(pairs) by value -/
def prsOf : List D → Option (List (D × D))
  | [] => some []
  | .tup [k, v] :: ds => (prsOf ds).map fun r => (k, v) :: r
  | _ => none
def allA (acc : List (D × D)) (prs : List (D × D)) : List (D × D) := prs.foldl (fun acc p => putA acc p.1 p.2) acc
def fDictP (ds : List D) (st : Store) : Res Wv := match ds with
  | [d] => (match lstOf d st with
    | some (es, _) => (match prsOf es with
      | some prs => if (prs.all (fun p => (keyOfD p.1).isSome) || prs.all (fun p => keyNd p.1)) = true then .ok (.new (.dic (allA [] prs))) st else .stuck
      | none => .stuck)
    | none => .stuck)
  | _ => .stuck
section
variable {X : Cx} {G : Gx} {E : WX} {as as' : List Addr} {st st' : Store} {H H' : Hp} {L : Addr → Prop} {a : Addr}
theorem putk_list {kvs : List (D × D)} {ks : List Key} {vs : List V} {κ : Key} {d : D} {v : V} (h2 : kvs.map (·.1) = ks.map keyD) (h3 : RelDs G as L H (kvs.map (·.2)) vs) (rd : RelD G as L H d v) :
    ∃ (ks' : List Key) (vs' : List V), putK (ks.zip vs) κ v = ks'.zip vs' ∧ (putA kvs (keyD κ) d).map (·.1) = ks'.map keyD ∧ RelDs G as L H ((putA kvs (keyD κ) d).map (·.2)) vs' := by
  have lk : ks.length = kvs.length := by have := congrArg List.length h2; simpa using this.symm
  have lv : vs.length = kvs.length := by have := h3.length; simpa using this.symm
  have lo := look_k (κ := κ) h2 h3
  unfold putA putK
  rw [valV_any, ← lo.some']
  split
  · obtain ⟨vs', e1, e2⟩ := map_k (κ := κ) rd h2 h3
    exact ⟨ks, vs', e1, map_keys.trans h2, e2⟩
  · exact ⟨ks ++ [κ], vs ++ [v], (zip_snoc (by rw [lk, lv]) _ _).symm, by rw [List.map_append, List.map_append, h2]; rfl, by rw [List.map_append]; exact h3.snoc rd⟩
theorem putn_list {kvs : List (D × D)} {xs : Xs} {vs : List V} {κ : NestedKey} {k d : D} {b : Addr} {v : V} {u : Value} (h3 : kvs.map (·.1) = xs.map (fun x => dOf x.1)) (h4 : RelDs G as L H (kvs.map (·.1)) (xs.map fun x => V.ref x.2.1))
    (h5 : RelDs G as L H (kvs.map (·.2)) vs) (h6 : Vals vs (xs.map fun x => x.2.2)) (ed : dOf κ = k) (rk : RelD G as L H k (.ref b)) (rd : RelD G as L H d v) (ru : RelV v u) :
    ∃ vs' : List V, (putA kvs k d).map (·.1) = (storedH xs κ b u).map (fun x => dOf x.1) ∧ RelDs G as L H ((putA kvs k d).map (·.1)) ((storedH xs κ b u).map fun x => V.ref x.2.1) ∧ RelDs G as L H ((putA kvs k d).map (·.2)) vs' ∧ Vals vs' ((storedH xs κ b u).map fun x => x.2.2) := by
  obtain ⟨o, r1, r2⟩ := look_n (κ := κ) h3 h5 h6
  rw [ed] at r1
  have es : (getA kvs k).isSome = (atKey xs κ).isSome := by
    have e1 := r1.some'
    have e2 := r2.isSome_eq
    rw [Option.isSome_map] at e2
    rw [e1, e2]
  unfold storedH putA
  rw [es]
  split
  · obtain ⟨vs', e1, e2⟩ := map_n (κ := κ) rd ru h3 h5 h6
    rw [ed] at e1
    obtain ⟨p1, p2⟩ := putAt_keys (κ := κ) (u := u) (xs := xs)
    exact ⟨vs', map_keys.trans (h3.trans p1.symm), by rw [map_keys, p2]; exact h4, e1, e2⟩
  · exact ⟨vs ++ [v], by rw [List.map_append, List.map_append, h3]; simp [ed], by rw [List.map_append, List.map_append]; exact h4.snoc rk, by rw [List.map_append]; exact h5.snoc rd, by rw [List.map_append]; exact vals_snoc h6 ru⟩
theorem foldk_list : ∀ {prs : List (D × D)} {more : List (Key × V)} {kvs : List (D × D)} {ks : List Key} {vs : List V}, prs.map (·.1) = more.map (fun kv => keyD kv.1) → RelDs G as L H (prs.map (·.2)) (more.map (·.2)) → kvs.map (·.1) = ks.map keyD → RelDs G as L H (kvs.map (·.2)) vs →
    ∃ (ks' : List Key) (vs' : List V), mergeK (ks.zip vs) more = ks'.zip vs' ∧ (allA kvs prs).map (·.1) = ks'.map keyD ∧ RelDs G as L H ((allA kvs prs).map (·.2)) vs'
  | [], [], kvs, ks, vs, _, _, h2, h3 => ⟨ks, vs, rfl, h2, h3⟩
  | [], _ :: _, _, _, _, h, _, _, _ => by simp at h
  | _ :: _, [], _, _, _, h, _, _, _ => by simp at h
  | p :: prs, m :: more, kvs, ks, vs, h, r, h2, h3 => by
    simp only [List.map_cons, List.cons.injEq] at h r
    cases r with
    | cons r1 r2 =>
    obtain ⟨ks1, vs1, e1, e2, e3⟩ := putk_list (κ := m.1) h2 h3 r1
    obtain ⟨ks2, vs2, f1, f2, f3⟩ := foldk_list (prs := prs) (more := more) h.2 r2 e2 e3
    refine ⟨ks2, vs2, ?_, ?_, ?_⟩
    · show mergeK (putK (ks.zip vs) m.1 m.2) more = _
      rw [e1]; exact f1
    · show (allA (putA kvs p.1 p.2) prs).map (·.1) = _
      rw [h.1]; exact f2
    · show RelDs _ _ _ _ ((allA (putA kvs p.1 p.2) prs).map (·.2)) _
      rw [h.1]; exact f3
theorem foldn_list : ∀ {prs : List (D × D)} {rows : List Row4} {us : List Value} {kvs : List (D × D)} {xs : Xs} {vs : List V}, prs.map (·.1) = rows.map (fun r => dOf r.2.1) → RelDs G as L H (prs.map (·.1)) (rows.map fun r => V.ref r.2.2.1) → RelDs G as L H (prs.map (·.2)) (rows.map fun r => r.2.2.2) → Vals (rows.map fun r => r.2.2.2) us →
    kvs.map (·.1) = xs.map (fun x => dOf x.1) → RelDs G as L H (kvs.map (·.1)) (xs.map fun x => V.ref x.2.1) → RelDs G as L H (kvs.map (·.2)) vs → Vals vs (xs.map fun x => x.2.2) →
    ∃ vs' : List V, (allA kvs prs).map (·.1) = (storedAllH xs (rowsH rows us)).map (fun x => dOf x.1) ∧ RelDs G as L H ((allA kvs prs).map (·.1)) ((storedAllH xs (rowsH rows us)).map fun x => V.ref x.2.1) ∧ RelDs G as L H ((allA kvs prs).map (·.2)) vs' ∧ Vals vs' ((storedAllH xs (rowsH rows us)).map fun x => x.2.2)
  | [], [], us, kvs, xs, vs, _, _, _, _, h3, h4, h5, h6 => ⟨vs, h3, h4, h5, h6⟩
  | [], _ :: _, _, _, _, _, h, _, _, _, _, _, _, _ => by simp at h
  | _ :: _, [], _, _, _, _, h, _, _, _, _, _, _, _ => by simp at h
  | p :: prs, r :: rows, [], _, _, _, _, _, _, ru, _, _, _, _ => by cases ru
  | p :: prs, r :: rows, u :: us, kvs, xs, vs, h, rk, rv, ru, h3, h4, h5, h6 => by
    simp only [List.map_cons, List.cons.injEq] at h rk rv ru
    cases rk with
    | cons k1 k2 =>
    cases rv with
    | cons v1 v2 =>
    cases ru with
    | cons u1 u2 =>
    obtain ⟨vs1, e1, e2, e3, e4⟩ := putn_list (κ := r.2.1) (k := p.1) h3 h4 h5 h6 h.1.symm k1 v1 u1
    exact foldn_list (prs := prs) (rows := rows) (us := us) h.2 k2 v2 u2 e1 e2 e3 e4
theorem allA_nil : ∀ {prs kvs : List (D × D)}, (kvs ≠ [] ∨ prs ≠ []) → allA kvs prs ≠ []
  | [], kvs, h => by rcases h with h | h
                     · exact h
                     · exact absurd rfl h
  | p :: prs, kvs, _ => allA_nil (prs := prs) (kvs := putA kvs p.1 p.2) (.inl putA_ne)
/-- the items of a list of pairs -/
theorem prs_rel : ∀ {ds : List D} {vs : List V} {prs : List (D × D)}, RelDs G as L H ds vs → prsOf ds = some prs → ∃ rows : List (Addr × V × V), vs = rows.map (fun r => V.ref r.1) ∧ (∀ r ∈ rows, SqT G.K H r.1 [r.2.1, r.2.2]) ∧ RelDs G as L H (prs.map (·.1)) (rows.map fun r => r.2.1) ∧ RelDs G as L H (prs.map (·.2)) (rows.map fun r => r.2.2)
  | [], _, prs, .nil, h => by cases h; exact ⟨[], rfl, (fun r hr => nomatch hr), .nil, .nil⟩
  | d :: ds, _, prs, .cons r t, h => by
    unfold prsOf at h
    split at h
    · rename_i h0
      cases h0
    · rename_i k v ds' h0
      cases h0
      cases q : prsOf ds with
      | none => rw [q] at h; cases h
      | some r0 =>
        rw [q] at h
        cases h
        obtain ⟨rows, e1, e2, e3, e4⟩ := prs_rel t q
        cases r with
        | @tup _ p vs1 h1 hr =>
        cases hr with
        | cons a1 a2 =>
        cases a2 with
        | cons b1 b2 =>
        cases b2
        refine ⟨(p, _, _) :: rows, by rw [e1]; rfl, fun r hr => ?_, .cons a1 e3, .cons b1 e4⟩
        rcases List.mem_cons.mp hr with rfl | hr
        · exact h1
        · exact e2 r hr
    · cases h
theorem keys_simple : ∀ {prs : List (D × D)} {vs : List V}, RelDs G as L H (prs.map (·.1)) vs → (prs.all fun p => (keyOfD p.1).isSome) = true → ∃ ks : List Key, prs.map (·.1) = ks.map keyD ∧ vs = ks.map kV
  | [], _, .nil, _ => ⟨[], rfl, rfl⟩
  | p :: prs, _, .cons r t, h => by
    simp only [List.all_cons, Bool.and_eq_true] at h
    obtain ⟨ks, e1, e2⟩ := keys_simple t h.2
    obtain ⟨κ, hκ⟩ := Option.isSome_iff_exists.mp h.1
    have ek := keyOfD_keyD hκ
    refine ⟨κ :: ks, by rw [List.map_cons, List.map_cons, e1, ek], ?_⟩
    have r : RelD G as L H p.1 _ := r
    rw [List.map_cons, ← e2]
    rw [ek] at r
    cases κ <;> cases r <;> rfl
theorem nested_rows : ∀ {prs : List (D × D)} {rows : List (Addr × V × V)}, (∀ r ∈ rows, SqT G.K H r.1 [r.2.1, r.2.2]) → RelDs G as L H (prs.map (·.1)) (rows.map fun r => r.2.1) → RelDs G as L H (prs.map (·.2)) (rows.map fun r => r.2.2) → (prs.all fun p => keyNd p.1) = true →
    ∃ rows4 : List Row4, rows4.map (·.1) = rows.map (·.1) ∧ prs.map (·.1) = rows4.map (fun r => dOf r.2.1) ∧ RelDs G as L H (prs.map (·.1)) (rows4.map fun r => V.ref r.2.2.1) ∧ RelDs G as L H (prs.map (·.2)) (rows4.map fun r => r.2.2.2) ∧ ∀ r ∈ rows4, SqT G.K H r.1 [.ref r.2.2.1, r.2.2.2] ∧ KeyAt G.K H (r.2.2.1, r.2.1)
  | [], [], _, _, _, _ => ⟨[], rfl, rfl, .nil, .nil, fun r hr => nomatch hr⟩
  | [], _ :: _, _, h, _, _ => by cases h
  | _ :: _, [], _, h, _, _ => by cases h
  | p :: prs, r :: rows, hs, hk, hv, h => by
    simp only [List.all_cons, Bool.and_eq_true] at h
    simp only [List.map_cons] at hk hv
    cases hk with
    | cons k1 k2 =>
    cases hv with
    | cons v1 v2 =>
    obtain ⟨rows4, e1, e2, e3, e4, e5⟩ := nested_rows (prs := prs) (rows := rows) (fun x hx => hs x (List.mem_cons_of_mem _ hx)) k2 v2 h.2
    obtain ⟨b, eb, kb⟩ := keyNd_at h.1 k1
    have ed := dOf_nkD p.1 (keyNd_key h.1).1
    have h0 := hs r (by simp)
    rw [eb] at h0 k1
    refine ⟨(r.1, nkD p.1, b, r.2.2) :: rows4, by simp [e1], by simp [e2, ed], .cons k1 e3, .cons v1 e4, fun x hx => ?_⟩
    rcases List.mem_cons.mp hx with rfl | hx
    · exact ⟨h0, kb⟩
    · exact e5 x hx
def rDictKP (K : PySem.W.Frag) : List V → Hp → VK → Prop := fun xs H Q => ∃ (a : Addr) (ps : List Addr) (kvs : List (Key × V)), xs = [.ref a] ∧ SqL K H a (ps.map V.ref) ∧ Paired (fun p kv => SqT K H p [kV kv.1, kv.2]) ps kvs ∧ ∀ p, H p = none → Q (.ref p) (upd H p (.dK (mergeK [] kvs)))
theorem paired_rows {K : PySem.W.Frag} : ∀ {rows : List (Addr × V × V)} {ks : List Key}, (rows.map fun r => r.2.1) = ks.map kV → (∀ r ∈ rows, SqT K H r.1 [r.2.1, r.2.2]) → Paired (fun p (kv : Key × V) => SqT K H p [kV kv.1, kv.2]) (rows.map (·.1)) (ks.zip (rows.map fun r => r.2.2))
  | [], [], _, _ => .nil
  | [], _ :: _, h, _ => by simp at h
  | _ :: _, [], h, _ => by simp at h
  | r :: rows, k :: ks, h, hs => by
    simp only [List.map_cons, List.cons.injEq] at h
    simp only [List.map_cons, List.zip_cons_cons]
    refine .cons ?_ (paired_rows h.2 fun x hx => hs x (List.mem_cons_of_mem _ hx))
    have := hs r (by simp)
    rw [h.1] at this
    exact this
theorem up_new {ds : List D} {vs : List V} {o : HO} {p : Addr} (hp : H p = none) (r : RelDs G as (Live as st) H ds vs) : RelDs G as (fun b => Live as st b ∨ b = p) (upd H p o) ds vs := by
  refine r.mono (List.prefix_refl _) (fun b hb n z => ?_) (fun b u e _ => by rw [upd_ne (ne_of_none e hp)]; exact e)
  rcases z with z | z
  · exact n z
  · exact hb (by rw [z]; exact hp)
theorem callS_dictP : CallS G E fDictP (fun xs H Q => rDictKP G.K xs H Q ∨ rDictN G.K G.w xs H Q) := by
  intro E' as st H ds xs Q s r p
  unfold fDictP at p
  split at p
  · cases r with
    | cons r t =>
    cases t
    split at p
    · rename_i es src hl
      split at p
      · rename_i prs hp
        split at p
        · rename_i hk
          obtain ⟨a, vs, rfl, h1, hr⟩ := lstOf_sq s r hl
          obtain ⟨rows, e1, e2, e3, e4⟩ := prs_rel hr hp
          subst e1
          by_cases hs : (prs.all fun p => (keyOfD p.1).isSome) = true
          · obtain ⟨ks, k1, k2⟩ := keys_simple e3 hs
            have lr : ks.length = rows.length := by have := congrArg List.length k2; simpa using this.symm
            have hz : (ks.zip (rows.map fun r => r.2.2)).map (·.2) = rows.map fun r => r.2.2 := zip_snd (by simp [lr])
            have hz1 : (ks.zip (rows.map fun r => r.2.2)).map (fun kv => keyD kv.1) = ks.map keyD := by
              have e : (ks.zip (rows.map fun r => r.2.2)).map (·.1) = ks := List.map_fst_zip (by simp [lr])
              have : (ks.zip (rows.map fun r => r.2.2)).map (fun kv => keyD kv.1) = ((ks.zip (rows.map fun r => r.2.2)).map (·.1)).map keyD := by rw [List.map_map]; rfl
              rw [this, e]
            refine .inl ⟨a, rows.map (·.1), ks.zip (rows.map fun r => r.2.2), rfl, ?_, paired_rows k2 e2, fun q hq => ?_⟩
            · rw [List.map_map]; exact h1
            · have v' := up_new (o := .dK (mergeK [] (ks.zip (rows.map fun r => r.2.2)))) hq e4
              obtain ⟨ks', vs', f1, f2, f3⟩ := foldk_list (prs := prs) (more := ks.zip (rows.map fun r => r.2.2)) (kvs := []) (ks := []) (vs := []) (by rw [hz1]; exact k1) (by rw [hz]; exact v') rfl .nil
              refine p as _ (Ext.lay hq) (s.laid hq) _ ⟨q, rfl, hq, notLive s hq, ?_, s.lay hq⟩
              show DicR _ _ _ _ _ _
              have f1 : mergeK [] (ks.zip (rows.map fun r => r.2.2)) = ks'.zip vs' := f1
              exact .k (ks := ks') (vs := vs') (by rw [upd_same, f1]) f2 f3
          · have hn : (prs.all fun p => keyNd p.1) = true := by
              rw [Bool.or_eq_true] at hk
              exact hk.resolve_left hs
            obtain ⟨rows4, q1, q2, q3, q4, q5⟩ := nested_rows e2 e3 e4 hn
            refine .inr ⟨a, rows4, rfl, ?_, q5, fun q hq us hus => ?_⟩
            · have : (rows4.map fun r => V.ref r.1) = (rows4.map (·.1)).map V.ref := by rw [List.map_map]; rfl
              rw [this, q1, List.map_map]; exact h1
            · obtain ⟨vs', f1, f2, f3, f4⟩ := foldn_list (prs := prs) (rows := rows4) (us := us) (kvs := []) (xs := []) (vs := []) q2 (up_new (o := DicN G.w (storedAllH [] (rowsH rows4 us)) q) hq q3) (up_new hq q4) hus rfl .nil .nil .nil
              refine p as _ (Ext.lay hq) (s.laid hq) _ ⟨q, rfl, hq, notLive s hq, ?_, s.lay hq⟩
              show DicR _ _ _ _ _ _
              refine .n upd_same (allA_nil (.inr fun z => ?_)) f1 f2 f3 f4
              subst z; exact hs rfl
        · exact p.elim
      · exact p.elim
    · exact p.elim
  · exact p.elim
theorem call_dictA (hc : X.calm = true) (hu : X.A.units + 10 < cLine) : CallR X (.type "dict") (fun xs H Q => rDictKP X.K xs H Q ∨ rDictN X.K X.w xs H Q) := CallR.or (call_dictP hc) (call_dictN hc hu)
end
end VI
namespace VI
open PySem PySem.Spec PyProof.Rows L2
/-! ### what a def hands back: its own cells resolved, or all kept -/
def mapO (g : D → Option D) : List D → Option (List D)
  | [] => some []
  | d :: ds => match g d with
    | none => none
    | some e => (mapO g ds).map fun es => e :: es
def mapOK (g : D → Option D) : List (D × D) → Option (List (D × D))
  | [] => some []
  | p :: ds => match g p.2 with
    | none => none
    | some e => (mapOK g ds).map fun es => (p.1, e) :: es
def mapOF (g : D → Option D) : List (Str × D) → Option (List (Str × D))
  | [] => some []
  | p :: ds => match g p.2 with
    | none => none
    | some e => (mapOF g ds).map fun es => (p.1, e) :: es
/-- a value with the cells from k on put in -/
def resolve (k x : Nat) (st : Store) : Nat → D → Option D
  | 0, d => if refsLt k d = true then some d else none
  | f + 1, d => if refsLt k d = true then some d else match d with
    | .ref n => if n = x then none else (match st[n]? with
      | some (some d') => resolve k x st f d'
      | _ => none)
    | .tup ds => (mapO (resolve k x st f) ds).map .tup
    | .lst ds => (mapO (resolve k x st f) ds).map .lst
    | .dic kvs => if noErr kvs = true ∧ (kvs.all fun p => refsLt k p.1) = true then (mapOK (resolve k x st f) kvs).map .dic else none
    | .obj c fs => (mapOF (resolve k x st f) fs).map (.obj c)
    | _ => none
section
variable {G : Gx} {E : XK} {as as0 as' : List Addr} {st st0 st' : Store} {H H0 H' : Hp} {L L2 : Addr → Prop} {k : Nat}
theorem mapO_rel {g : D → Option D} (hg : ∀ d v d', RelD G as' L H' d v → g d = some d' → RelD G (as'.take k) L2 H' d' v) : ∀ {ds ds' : List D} {vs : List V}, RelDs G as' L H' ds vs → mapO g ds = some ds' → RelDs G (as'.take k) L2 H' ds' vs
  | _, _, _, .nil, h => by cases h; exact .nil
  | d :: ds, _, _, .cons r t, h => by
    unfold mapO at h
    cases q : g d with
    | none => rw [q] at h; cases h
    | some e =>
      rw [q] at h
      cases q2 : mapO g ds with
      | none => rw [q2] at h; cases h
      | some es =>
        rw [q2] at h
        cases h
        exact .cons (hg _ _ _ r q) (mapO_rel hg t q2)
theorem mapOK_rel {g : D → Option D} (hg : ∀ d v d', RelD G as' L H' d v → g d = some d' → RelD G (as'.take k) L2 H' d' v) : ∀ {ds ds' : List (D × D)} {vs : List V}, RelDs G as' L H' (ds.map (·.2)) vs → mapOK g ds = some ds' → ds'.map (·.1) = ds.map (·.1) ∧ RelDs G (as'.take k) L2 H' (ds'.map (·.2)) vs
  | [], _, _, .nil, h => by cases h; exact ⟨rfl, .nil⟩
  | d :: ds, _, _, .cons r t, h => by
    unfold mapOK at h
    cases q : g d.2 with
    | none => rw [q] at h; cases h
    | some e =>
      rw [q] at h
      cases q2 : mapOK g ds with
      | none => rw [q2] at h; cases h
      | some es =>
        rw [q2] at h
        cases h
        obtain ⟨e1, e2⟩ := mapOK_rel hg t q2
        exact ⟨by simp [e1], .cons (hg _ _ _ r q) e2⟩
theorem mapOF_rel {g : D → Option D} (hg : ∀ d v d', RelD G as' L H' d v → g d = some d' → RelD G (as'.take k) L2 H' d' v) : ∀ {ds ds' : List (Str × D)} {vs : List (Str × V)}, RelFs G as' L H' ds vs → mapOF g ds = some ds' → RelFs G (as'.take k) L2 H' ds' vs
  | [], _, _, .nil, h => by cases h; exact .nil
  | d :: ds, _, _, .cons r t, h => by
    unfold mapOF at h
    cases q : g d.2 with
    | none => simp only [q] at h; cases h
    | some e =>
      simp only [q] at h
      cases q2 : mapOF g ds with
      | none => rw [q2] at h; cases h
      | some es =>
        rw [q2] at h
        cases h
        exact .cons (hg _ _ _ r q) (mapOF_rel hg t q2)
theorem dicR_res {g : D → Option D} (hg : ∀ d v d', RelD G as' L H' d v → g d = some d' → RelD G (as'.take k) L2 H' d' v) (hl : ∀ b, L2 b → L b) {kvs kvs' : List (D × D)} {a : Addr} (c : DicR G as' L H' kvs a) (hr : (kvs.all fun p => refsLt k p.1) = true) (h : mapOK g kvs = some kvs') : DicR G (as'.take k) L2 H' kvs' a := by
  have hr' : refsLts k (kvs.map (·.1)) = true := by
    rw [refsLts_all]
    intro d hd
    obtain ⟨p, hp, rfl⟩ := List.mem_map.mp hd
    exact List.all_eq_true.mp hr p hp
  cases c with
  | k h1 h2 h3 =>
    obtain ⟨e1, e2⟩ := mapOK_rel hg h3 h
    exact .k h1 (e1.trans h2) e2
  | n h1 h2 h3 h4 h5 h6 =>
    obtain ⟨e1, e2⟩ := mapOK_rel hg h5 h
    refine .n h1 (fun z => h2 ?_) (e1.trans h3) (by rw [e1]; exact (h4.cut hr').lessL hl) e2 h6
    subst z
    have := congrArg List.length e1
    simpa using this.symm
theorem resolve_rel (sl : StRL G as' L st' H') (h1 : ∀ b, L2 b → L b) {x : Nat} (h2 : ∀ (n : Nat) (a : Addr), k ≤ n → n ≠ x → as'[n]? = some a → ¬ L2 a) : ∀ (f : Nat),
    (∀ d v d', RelD G as' L H' d v → resolve k x st' f d = some d' → RelD G (as'.take k) L2 H' d' v) ∧ (∀ d a d', CellR G as' L H' a d → resolve k x st' f d = some d' → CellR G (as'.take k) L2 H' a d')
  | 0 => by
    refine ⟨fun d v d' r h => ?_, fun d a d' c h => ?_⟩
    · unfold resolve at h
      split at h
      · rename_i q; cases h; exact (r.cut q).lessL h1
      · cases h
    · unfold resolve at h
      split at h
      · rename_i q; cases h; exact (c.cut q).lessL h1
      · cases h
  | f + 1 => by
    obtain ⟨i1, i2⟩ := resolve_rel sl h1 h2 f
    refine ⟨fun d v d' r h => ?_, fun d a d' c h => ?_⟩
    · unfold resolve at h
      split at h
      · rename_i q; cases h; exact (r.cut q).lessL h1
      · rename_i q
        cases d with
        | ref n =>
          simp only at h
          split at h
          · cases h
          · rename_i hx
            split at h
            · rename_i d0 e
              cases r with
              | @ref _ a ha =>
              obtain ⟨a', ha', c⟩ := sl.cells n _ e
              rw [ha] at ha'; cases ha'
              exact (i2 _ _ _ c h).val (h2 n a (by simpa [refsLt] using q) hx ha)
            · cases h
        | tup ds =>
          simp only at h
          cases q2 : mapO (resolve k x st' f) ds with
          | none => rw [q2] at h; cases h
          | some es =>
            rw [q2] at h; cases h
            cases r with
            | tup g1 g2 => exact .tup g1 (mapO_rel i1 g2 q2)
        | lst ds =>
          simp only at h
          cases q2 : mapO (resolve k x st' f) ds with
          | none => rw [q2] at h; cases h
          | some es =>
            rw [q2] at h; cases h
            cases r with
            | lst g1 g3 g2 => exact .lst g1 (fun z => g3 (h1 _ z)) (mapO_rel i1 g2 q2)
            | lstK g1 g2 => exact .lstK g1 (mapO_rel i1 g2 q2)
        | dic kvs =>
          simp only at h
          split at h
          · rename_i hc
            cases q2 : mapOK (resolve k x st' f) kvs with
            | none => rw [q2] at h; cases h
            | some es =>
              rw [q2] at h; cases h
              obtain ⟨a, rfl, dr, nl⟩ := noErr_of r rfl hc.1
              exact .dic (dicR_res i1 h1 dr hc.2 q2) fun z => nl (h1 _ z)
          · cases h
        | obj c fs =>
          simp only at h
          cases q2 : mapOF (resolve k x st' f) fs with
          | none => rw [q2] at h; cases h
          | some es =>
            rw [q2] at h; cases h
            cases r with
            | obj g1 g2 g3 g4 g5 => exact .obj g1 g2 g3 (fun z => g4 (h1 _ z)) (mapOF_rel i1 g5 q2)
        | _ => simp only at h; cases h
    · unfold resolve at h
      split at h
      · rename_i q; cases h; exact (c.cut q).lessL h1
      · rename_i q
        cases d with
        | lst ds =>
          simp only at h
          cases q2 : mapO (resolve k x st' f) ds with
          | none => rw [q2] at h; cases h
          | some es =>
            rw [q2] at h; cases h
            obtain ⟨vs, e, r⟩ := c
            exact ⟨vs, e, mapO_rel i1 r q2⟩
        | dic kvs =>
          simp only at h
          split at h
          · rename_i hc
            cases q2 : mapOK (resolve k x st' f) kvs with
            | none => rw [q2] at h; cases h
            | some es =>
              rw [q2] at h; cases h
              exact dicR_res i1 h1 (show DicR _ _ _ _ _ _ from c) hc.2 q2
          · cases h
        | obj c' fs =>
          simp only at h
          cases q2 : mapOF (resolve k x st' f) fs with
          | none => rw [q2] at h; cases h
          | some es =>
            rw [q2] at h; cases h
            obtain ⟨C, dx, vfs, g1, g2, g3, g4⟩ := c
            exact ⟨C, dx, vfs, g1, g2, g3, mapOF_rel i1 g4 q2⟩
        | _ => exact c.elim
end
end VI
namespace VI
open PySem PySem.Spec PyProof.Rows L2
def resF : Nat := 8
/-- back to what the store was, own cells put into what is handed back -/
def finR (st0 : Store) (w : Wv) (st' : Store) : Res Wv := if cutOk st0 st' = true then (match w with
  | .val (.ref m) => if m < st0.length then .ok (.val (.ref m)) (st'.take st0.length) else match st'[m]? with
    | some (some d) => (match resolve st0.length m st' resF d with
      | some d' => .ok (.new d') (st'.take st0.length)
      | none => .stuck)
    | _ => .stuck
  | .val d => (match resolve st0.length st'.length st' resF d with
      | some d' => .ok (.val d') (st'.take st0.length)
      | none => .stuck)
  | .new d => (match resolve st0.length st'.length st' resF d with
      | some d' => .ok (.new d') (st'.take st0.length)
      | none => .stuck)) else .stuck
section
variable {G : Gx} {E : XK} {as as0 as' : List Addr} {st st0 st' : Store} {H H0 H' : Hp} {L : Addr → Prop}
theorem finR_cases {w : Wv} : (∃ w2, finR st0 w st' = .ok w2 (st'.take st0.length) ∧ cutOk st0 st' = true) ∨ finR st0 w st' = .stuck := by
  unfold finR
  split
  · rename_i c
    split
    · split
      · exact .inl ⟨_, rfl, c⟩
      · split
        · split
          · exact .inl ⟨_, rfl, c⟩
          · exact .inr rfl
        · exact .inr rfl
    · split
      · exact .inl ⟨_, rfl, c⟩
      · exact .inr rfl
    · split
      · exact .inl ⟨_, rfl, c⟩
      · exact .inr rfl
  · exact .inr rfl
theorem take_ge {i k : Nat} {a : Addr} (nd : as'.Nodup) (hi : (as'.take k)[i]? = some a) {n : Nat} (hn : k ≤ n) (ha : as'[n]? = some a) : False := by
  by_cases hk : i < k
  · rw [List.getElem?_take_of_lt hk] at hi
    obtain ⟨h1, e1⟩ := List.getElem?_eq_some_iff.mp ha
    obtain ⟨h2, e2⟩ := List.getElem?_eq_some_iff.mp hi
    have := (List.getElem_inj nd).mp (e1.trans e2.symm)
    omega
  · rw [List.getElem?_take_eq_none (by omega)] at hi; cases hi
theorem finR_rel {w w2 : Wv} {st2 : Store} {v : V} (s0 : StR G as0 st0 H0) (e : Ext as0 st0 H0 as' st' H') (s : StR G as' st' H') (r : RelW G H0 as' st' H' w v) (h : finR st0 w st' = .ok w2 st2) :
    StR G (as'.take st0.length) st2 H' ∧ RelW G H0 (as'.take st0.length) st2 H' w2 v := by
  have c : cutOk st0 st' = true ∧ st2 = st'.take st0.length := by
    rcases finR_cases (st0 := st0) (st' := st') (w := w) with ⟨w3, e1, c⟩ | e1
    · rw [e1] at h; cases h; exact ⟨c, rfl⟩
    · rw [e1] at h; cases h
  obtain ⟨c, rfl⟩ := c
  have sc := s0.cut s c
  refine ⟨sc.less fun b z => live_cut z, ?_⟩
  have nl : ∀ (n : Nat) (a : Addr), st0.length ≤ n → as'[n]? = some a → ¬ Live (as'.take st0.length) (st'.take st0.length) a := fun n a hn ha ⟨i, d, q1, _⟩ => take_ge s.nd q1 hn ha
  have R := resolve_rel (k := st0.length) (x := st'.length) (L2 := Live (as'.take st0.length) (st'.take st0.length)) s (fun b z => live_cut z) (fun n a hn _ ha => nl n a hn ha) resF
  unfold finR at h
  rw [if_pos c] at h
  have fine : ∀ d d', RelD G as' (Live as' st') H' d v → resolve st0.length st'.length st' resF d = some d' → RelW G H0 (as'.take st0.length) (st'.take st0.length) H' (.val d') v := fun d d' r q => R.1 d v d' r q
  cases w with
  | new d =>
    simp only at h
    cases q : resolve st0.length st'.length st' resF d with
    | none => rw [q] at h; cases h
    | some d' =>
      rw [q] at h
      cases h
      obtain ⟨p, rfl, hp, n, cr, sl⟩ := r
      have n' : ∀ i : Nat, (as'.take st0.length)[i]? ≠ some p := fun i hi => by
        by_cases hk : i < st0.length
        · rw [List.getElem?_take_of_lt hk] at hi; exact n i hi
        · rw [List.getElem?_take_eq_none (by omega)] at hi; cases hi
      have R2 := resolve_rel (k := st0.length) (x := st'.length) (L2 := fun b => Live (as'.take st0.length) (st'.take st0.length) b ∨ b = p) sl (fun b z => z.imp live_cut id) (fun m a hm _ ha z => z.elim (nl m a hm ha) fun z => n m (z ▸ ha)) resF
      refine ⟨p, rfl, hp, n', R2.2 d p d' cr q, ?_⟩
      refine ⟨sc.len, sc.nd, fun i d' hi => ?_, sc.there⟩
      have q' := cutOk_cells s0 c i d' hi
      by_cases hk : i < st0.length
      · rw [List.getElem?_take_of_lt hk] at hi
        obtain ⟨a, h1, c'⟩ := sl.cells i d' hi
        exact ⟨a, by rw [List.getElem?_take_of_lt hk]; exact h1, (c'.cut q').lessL fun b z => z.imp live_cut id⟩
      · rw [List.getElem?_take_eq_none (by omega)] at hi; cases hi
  | val d =>
    have r : RelD G as' (Live as' st') H' d v := r
    cases d with
    | ref m =>
      simp only at h
      by_cases hm : m < st0.length
      · rw [if_pos hm] at h; cases h
        exact (r.cut (by simp [refsLt, hm])).lessL fun b z => live_cut z
      · rw [if_neg hm] at h
        cases q : st'[m]? with
        | none => simp only [q] at h; cases h
        | some o =>
          cases o with
          | none => simp only [q] at h; cases h
          | some d =>
            simp only [q] at h
            cases ql : resolve st0.length m st' resF d with
            | none => rw [ql] at h; cases h
            | some d' =>
              rw [ql] at h
              cases h
              cases r with
              | @ref _ a ha =>
                obtain ⟨a', ha', cr⟩ := s.cells m d q
                rw [ha] at ha'; cases ha'
                have la : Live as' st' a := ⟨m, d, ha, q⟩
                have R3 := resolve_rel (k := st0.length) (x := m) (L2 := fun b => Live (as'.take st0.length) (st'.take st0.length) b ∨ b = a) s (fun b z => z.elim live_cut fun z => z ▸ la) (fun n b hn hx hb z => z.elim (nl n b hn hb) fun z => ?_) resF
                · refine ⟨a, rfl, e.new m a ha (by rw [s0.len]; omega), fun i hi => take_ge s.nd hi (by omega) ha, R3.2 d a d' cr ql, sc.less fun b z => z.elim live_cut fun z => z ▸ la⟩
                · subst z
                  obtain ⟨h1, e1⟩ := List.getElem?_eq_some_iff.mp ha
                  obtain ⟨h2, e2⟩ := List.getElem?_eq_some_iff.mp hb
                  exact hx ((List.getElem_inj s.nd).mp (e2.trans e1.symm))
    | _ =>
      simp only at h
      split at h
      · rename_i d' q
        cases h
        exact fine _ _ r q
      · cases h
end
end VI
namespace VI
open PySem PySem.Spec PyProof.Rows L2
/-! ### defs whose own cells are put in (R) or kept (K) -/
def runR (n : Nat) (body : SM) : FnSem := fun ds st => match body (ds.map some ++ List.replicate (n - ds.length) none) st with
  | .nx _ st' => finR st (.val .non) st'
  | .ret w st' => finR st w st'
  | .exc _ x st' => finX st x st'
  | _ => .stuck
def runK (n : Nat) (body : SM) : FnSem := fun ds st => match body (ds.map some ++ List.replicate (n - ds.length) none) st with
  | .nx _ st' => .ok (.val .non) st'
  | .ret w st' => .ok w st'
  | .exc _ x st' => .exc x st'
  | _ => .stuck
def makeR (c : String) (f : FnSem) (ds : List D) (st : Store) : Res Wv := match f (.ref st.length :: ds) (st ++ [some (.obj c [])]) with
  | .ok (.val .non) st' => finR st (.val (.ref st.length)) st'
  | .exc x st' => finX st x st'
  | _ => .stuck
def makeK (c : String) (f : FnSem) (ds : List D) (st : Store) : Res Wv := match f (.ref st.length :: ds) (st ++ [some (.obj c [])]) with
  | .ok (.val .non) st' => .ok (.val (.ref st.length)) st'
  | .exc x st' => .exc x st'
  | _ => .stuck
def evMakeR (c : String) (n : Nat) (f : FnSem) (a : AM) : EM := fun env st => (a env st).bind fun ds st1 => if ds.length = n then makeR c f ds st1 else .stuck
def evMakeK (c : String) (n : Nat) (f : FnSem) (a : AM) : EM := fun env st => (a env st).bind fun ds st1 => if ds.length = n then makeK c f ds st1 else .stuck
section
variable {G : Gx} {E : XK} {as as0 as' : List Addr} {st st0 st' : Store} {H H0 H' : Hp} {L : Addr → Prop}
theorem finR_ok {w w2 : Wv} {st2 : Store} (h : finR st0 w st' = .ok w2 st2) : cutOk st0 st' = true ∧ st2 = st'.take st0.length := by
  rcases finR_cases (st0 := st0) (st' := st') (w := w) with ⟨w3, e1, c⟩ | e1
  · rw [e1] at h; cases h; exact ⟨c, rfl⟩
  · rw [e1] at h; cases h
theorem finR_noexc {w : Wv} {x : EX} {st2 : Store} (h : finR st0 w st' = .exc x st2) : False := by
  rcases finR_cases (st0 := st0) (st' := st') (w := w) with ⟨w3, e1, c⟩ | e1
  · rw [e1] at h; cases h
  · rw [e1] at h; cases h
theorem run_bodyR {n : Nat} {N : List Str} {body : SM} {vs : List V} {Q : VK} {Ex : XK} (hn : N.length = n) (h : ∃ as st ds, StR G as st H ∧ RelDs G as (Live as st) H ds vs ∧ Post G Ex as st H (runR n body ds st) fun w as' st' H' => ∀ v, RelW G H as' st' H' w v → Q v H') :
    tS G (fun cv xd _ H => Ex cv xd H) body { nx := fun _ H' => Q .non H', rt := Q } (L2.start N vs) H := by
  obtain ⟨as, st, ds, s, r, p⟩ := h
  refine ⟨as, st, _, s, EnvR.start r, ?_⟩
  rw [hn]
  unfold runR at p
  cases q : body (ds.map some ++ List.replicate (n - ds.length) none) st with
  | nx env st' =>
    simp only [q] at p
    cases qf : finR st (.val .non) st' with
    | ok w2 st2 =>
      rw [qf] at p
      intro as' H' σ' e s' er'
      obtain ⟨s2, r2⟩ := finR_rel (w := .val .non) (v := .non) s e s' .non qf
      obtain ⟨_, rfl⟩ := finR_ok qf
      exact p _ H' (e.cut s) s2 _ r2
    | exc x st2 => exact (finR_noexc qf).elim
    | stuck => rw [qf] at p; exact p.elim
  | ret w st' =>
    simp only [q] at p
    cases qf : finR st w st' with
    | ok w2 st2 =>
      rw [qf] at p
      intro as' H' v e s' r'
      obtain ⟨s2, r2⟩ := finR_rel s e s' r' qf
      obtain ⟨_, rfl⟩ := finR_ok qf
      exact p _ H' (e.cut s) s2 _ r2
    | exc x st2 => exact (finR_noexc qf).elim
    | stuck => rw [qf] at p; exact p.elim
  | exc env x st' =>
    simp only [q] at p
    intro as' H' σ' cv xd e s' er' rx
    obtain ⟨C, h1, h2, h3⟩ := rx
    unfold finX at p
    cases qr : x.row with
    | none =>
      rw [qr] at p h3
      by_cases hc : cutOk st st' = true
      · rw [if_pos ⟨hc, rfl⟩] at p
        exact p (as'.take st.length) H' cv xd (e.cut s) ((s.cut s' hc).less fun b z => live_cut z) ⟨C, h1, h2, by rw [qr]; exact h3⟩
      · rw [if_neg fun z => hc z.1] at p; exact p.elim
    | some d =>
      rw [qr] at p h3
      by_cases hc : cutOk st st' = true ∧ refsLt st.length d = true
      · rw [if_pos hc] at p
        obtain ⟨pa, v, g1, g2, gl, g3⟩ := h3
        exact p (as'.take st.length) H' cv xd (e.cut s) ((s.cut s' hc.1).less fun b z => live_cut z) ⟨C, h1, h2, by rw [qr]; exact ⟨pa, v, g1, g2, fun z => gl (live_cut z), (g3.cut hc.2).lessL fun b z => live_cut z⟩⟩
      · rw [if_neg hc] at p; exact p.elim
  | brk env st' => simp only [q] at p; exact p.elim
  | cnt env st' => simp only [q] at p; exact p.elim
  | stuck => simp only [q] at p; exact p.elim
theorem run_bodyK {n : Nat} {N : List Str} {body : SM} {vs : List V} {Q : VK} {Ex : XK} (hn : N.length = n) (h : ∃ as st ds, StR G as st H ∧ RelDs G as (Live as st) H ds vs ∧ Post G Ex as st H (runK n body ds st) fun w as' st' H' => ∀ v, RelW G H as' st' H' w v → Q v H') :
    tS G (fun cv xd _ H => Ex cv xd H) body { nx := fun _ H' => Q .non H', rt := Q } (L2.start N vs) H := by
  obtain ⟨as, st, ds, s, r, p⟩ := h
  refine ⟨as, st, _, s, EnvR.start r, ?_⟩
  rw [hn]
  unfold runK at p
  cases q : body (ds.map some ++ List.replicate (n - ds.length) none) st with
  | nx env st' =>
    simp only [q] at p
    intro as' H' σ' e s' er'
    exact p as' H' e s' _ (show RelD _ _ _ _ _ _ from .non)
  | ret w st' =>
    simp only [q] at p
    intro as' H' v e s' r'
    exact p as' H' e s' _ r'
  | exc env x st' =>
    simp only [q] at p
    intro as' H' σ' cv xd e s' er' rx
    exact p as' H' cv xd e s' rx
  | brk env st' => simp only [q] at p; exact p.elim
  | cnt env st' => simp only [q] at p; exact p.elim
  | stuck => simp only [q] at p; exact p.elim
end
structure Runs (run : Nat → SM → FnSem) : Prop where
  body : ∀ {G : Gx} {H : Hp} {n : Nat} {N : List Str} {body : SM} {vs : List V} {Q : VK} {Ex : XK}, N.length = n → (∃ as st ds, StR G as st H ∧ RelDs G as (Live as st) H ds vs ∧ Post G Ex as st H (run n body ds st) fun w as' st' H' => ∀ v, RelW G H as' st' H' w v → Q v H') →
    tS G (fun cv xd _ H => Ex cv xd H) body { nx := fun _ H' => Q .non H', rt := Q } (L2.start N vs) H
theorem runsP : Runs runP := ⟨run_body⟩
theorem runsR : Runs runR := ⟨run_bodyR⟩
theorem runsK : Runs runK := ⟨run_bodyK⟩
section
variable {P : Program} {w : World} {K : PySem.W.Frag} {mg : Str → Option Value} {base : Heap} {G : Gx} {E W : WX} {X : Cx}
theorem fn_okQ {run : Nat → SM → FnSem} (RR : Runs run) {x qual : Str} {st : Stmt} {f : Addr} {fd : FuncData} {N ps : List Str} {k n : Nat} {m : SM} (F : Fun K x qual st f fd) (S : FnScope N ps (defScope st)) (hn : N.length = n)
    (hb : ∀ (cdv : Value) (A : Around) (outer : List Env) (s : Shared) (H : Hp) (Ex : XK), Room k (A.deeper (envOfC qual (defScope st) s.heap.objs.size f cdv)) →
      PSs (cxOf CX0 P w K mg base N qual (defScope st) f cdv A outer s H Ex).nox (defBody st) (tS G E0w m)) : FnOk P w K mg base CX0 (k + 1) f fd ps (spN G ps.length (run n m)) := by
  refine F.ok S (fun vs H Q E h => h.1) (fun cdv A outer s H vs Q Ex hr h => ⟨_, hb cdv A outer s H Ex hr, ?_⟩)
  exact RR.body hn h.2
theorem ok_ofQ {run : Nat → SM → FnSem} (RR : Runs run) {x qual : Str} {st : Stmt} {N ps : List Str} {k n nn : Nat} {m : SM} (D : At K mg x qual st ps) (S : FnScope N ps (defScope st)) (hn : N.length = nn) (hp : ps.length = n)
    (hb : ∀ (f : Addr) (cdv : Value) (A : Around) (outer : List Env) (s : Shared) (H : Hp) (Ex : XK), Room k (A.deeper (envOfC qual (defScope st) s.heap.objs.size f cdv)) →
      PSs (cxOf CX0 P w K mg base N qual (defScope st) f cdv A outer s H Ex).nox (defBody st) (tS G E0w m)) : Ok P w K mg base G (k + 1) x n (run nn m) := by
  obtain ⟨a, fd, F, b, g⟩ := D
  subst hp
  exact ⟨a, fd, ps, fn_okQ RR F S hn (hb a), F.kp, b, g⟩
theorem fnX_okQ {run : Nat → SM → FnSem} (RR : Runs run) {x qual : Str} {st : Stmt} {f : Addr} {fd : FuncData} {N ps : List Str} {k n : Nat} {m : SM} (F : Fun K x qual st f fd) (S : FnScope N ps (defScope st)) (hn : N.length = n)
    (hb : ∀ (cdv : Value) (A : Around) (outer : List Env) (s : Shared) (H : Hp) (Ex : XK), Room k (A.deeper (envOfC qual (defScope st) s.heap.objs.size f cdv)) →
      PSs (cxOf (L2.CX P w) P w K mg base N qual (defScope st) f cdv A outer s H Ex) (defBody st) (tS G (xW Ex) m)) : FnOk P w K mg base (L2.CX P w) (k + 1) f fd ps (spI G ps.length (run n m)) :=
  F.okX S (fun vs H Q E h => h.1) (fun cdv A outer s H vs Q Ex hr h => ⟨_, hb cdv A outer s H Ex hr, RR.body hn h.2⟩)
theorem okX_ofQ {run : Nat → SM → FnSem} (RR : Runs run) {x qual : Str} {st : Stmt} {N ps : List Str} {k n nn : Nat} {m : SM} (D : At K mg x qual st ps) (S : FnScope N ps (defScope st)) (hn : N.length = nn) (hp : ps.length = n)
    (hb : ∀ (f : Addr) (cdv : Value) (A : Around) (outer : List Env) (s : Shared) (H : Hp) (Ex : XK), Room k (A.deeper (envOfC qual (defScope st) s.heap.objs.size f cdv)) →
      PSs (cxOf (L2.CX P w) P w K mg base N qual (defScope st) f cdv A outer s H Ex) (defBody st) (tS G (xW Ex) m)) : OkX P w K mg base G (k + 1) x n (run nn m) := by
  obtain ⟨a, fd, F, b, g⟩ := D
  subst hp
  exact ⟨a, fd, ps, fnX_okQ RR F S hn (hb a), F.kp, b, g⟩
theorem fnG_okQ {run : Nat → SM → FnSem} (RR : Runs run) {x qual : Str} {st : Stmt} {f : Addr} {fd : FuncData} {N ps : List Str} {k n : Nat} {m : SM} (F : Fun K x qual st f fd) (S : FnScope N ps (defScope st)) (hn : N.length = n)
    (hb : ∀ (cdv : Value) (A : Around) (outer : List Env) (s : Shared) (H : Hp) (Ex : XK), Room k (A.deeper (envOfC qual (defScope st) s.heap.objs.size f cdv)) → (A.deeper (envOfC qual (defScope st) s.heap.objs.size f cdv)).guards = some [] →
      PSs (cxOf CX0 P w K mg base N qual (defScope st) f cdv A outer s H Ex).nox (defBody st) (tS G E0w m)) : FnG P w K mg base CX0 (k + 1) f fd ps (spN G ps.length (run n m)) :=
  fnG_of F S (fun vs H Q E h => h.1) (fun cdv A outer s H vs Q Ex hr hg h => ⟨_, (hb cdv A outer s H Ex hr hg).nox, RR.body hn h.2⟩)
theorem okG_ofQ {run : Nat → SM → FnSem} (RR : Runs run) {x qual : Str} {st : Stmt} {N ps : List Str} {k n nn : Nat} {m : SM} (D : At K mg x qual st ps) (S : FnScope N ps (defScope st)) (hn : N.length = nn) (hp : ps.length = n)
    (hb : ∀ (f : Addr) (cdv : Value) (A : Around) (outer : List Env) (s : Shared) (H : Hp) (Ex : XK), Room k (A.deeper (envOfC qual (defScope st) s.heap.objs.size f cdv)) → (A.deeper (envOfC qual (defScope st) s.heap.objs.size f cdv)).guards = some [] →
      PSs (cxOf CX0 P w K mg base N qual (defScope st) f cdv A outer s H Ex).nox (defBody st) (tS G E0w m)) : OkG P w K mg base G (k + 1) x n (run nn m) := by
  obtain ⟨a, fd, F, b, g⟩ := D
  subst hp
  exact ⟨a, fd, ps, fnG_okQ RR F S hn (hb a), F.kp, b, g⟩
end
section
variable {X : Cx} {G : Gx} {W : WX} {Ex : XK} {as as' : List Addr} {st st' : Store} {H : Hp} {L : Addr → Prop} {De : Ends} {σ : L2.St} {Q : VK}
theorem make_postR {c : String} {C : Addr} {fs : FnSem} {ds : List D} {vs : List V} (s : StR G as st H) (rds : RelDs G as (Live as st) H ds vs) (hcm : G.cm c = some C)
    (p : Post G Ex as st H (makeR c fs ds st) fun w as' st' H' => ∀ v, RelW G H as' st' H' w v → Q v H') (x dx : Addr) (nx : H x = none) (ndx : H dx = none) (ne : dx ≠ x) :
    ∃ as1 st1 ds1, StR G as1 st1 (upd (upd H dx (.own x)) x (.ins C dx [])) ∧ RelDs G as1 (Live as1 st1) (upd (upd H dx (.own x)) x (.ins C dx [])) ds1 (.ref x :: vs) ∧ ds1.length = ds.length + 1 ∧
      Post G Ex as1 st1 (upd (upd H dx (.own x)) x (.ins C dx [])) (fs ds1 st1) fun w as' st' H' => ∀ v, RelW G (upd (upd H dx (.own x)) x (.ins C dx [])) as' st' H' w v → v = .non ∧ Q (.ref x) H' := by
  have nx1 : (upd H dx (.own x)) x = none := by rw [upd_ne (Ne.symm ne)]; exact nx
  have s1 := s.laid ndx (o := .own x)
  have sl := s1.lay nx1 (o := .ins C dx [])
  have cell : CellR G as (fun b => Live as st b ∨ b = x) (upd (upd H dx (.own x)) x (.ins C dx [])) x (.obj c []) := ⟨C, dx, [], hcm, upd_same, by rw [upd_ne ne, upd_same], .nil⟩
  have s2 := sl.reg (notLive s1 nx1) cell
  have e2 : Ext as st H (as ++ [x]) (st ++ [some (.obj c [])]) (upd (upd H dx (.own x)) x (.ins C dx [])) := ((Ext.lay ndx).trans (Ext.lay nx1) s.len).regAt s.len s.len nx
  have atx : (as ++ [x])[st.length]? = some x := by rw [← s.len]; simp
  refine ⟨as ++ [x], st ++ [some (.obj c [])], .ref st.length :: ds, s2, .cons (.ref atx) (rds.ext e2 s.len), rfl, ?_⟩
  unfold makeR at p
  cases q : fs (.ref st.length :: ds) (st ++ [some (.obj c [])]) with
  | stuck => simp only [q] at p; exact p.elim
  | ok w st' =>
    cases w with
    | new d => simp only [q] at p; exact p.elim
    | val d =>
      cases d with
      | non =>
        simp only [q] at p
        intro as' H' e' s' v rv
        cases (show RelD G as' _ H' .non v from rv)
        refine ⟨rfl, ?_⟩
        have ee := e2.trans e' s.len
        have rx : RelW G H as' st' H' (.val (.ref st.length)) (.ref x) := show RelD G as' _ H' _ _ from .ref (pre_get e'.pre atx)
        cases qf : finR st (.val (.ref st.length)) st' with
        | ok w2 st2 =>
          rw [qf] at p
          obtain ⟨s3, r3⟩ := finR_rel s ee s' rx qf
          obtain ⟨_, rfl⟩ := finR_ok qf
          exact p _ H' (ee.cut s) s3 _ r3
        | exc y st2 => exact (finR_noexc qf).elim
        | stuck => rw [qf] at p; exact p.elim
      | _ => simp only [q] at p; exact p.elim
  | exc y st' =>
    simp only [q] at p
    intro as' H' cv xd e' s' rx
    have ee := e2.trans e' s.len
    obtain ⟨C', h1, h2, h3⟩ := rx
    unfold finX at p
    cases qr : y.row with
    | none =>
      rw [qr] at p h3
      by_cases hc : cutOk st st' = true
      · rw [if_pos ⟨hc, rfl⟩] at p
        exact p (as'.take st.length) H' cv xd (ee.cut s) ((s.cut s' hc).less fun b z => live_cut z) ⟨C', h1, h2, by rw [qr]; exact h3⟩
      · rw [if_neg fun z => hc z.1] at p; exact p.elim
    | some d =>
      rw [qr] at p h3
      by_cases hc : cutOk st st' = true ∧ refsLt st.length d = true
      · rw [if_pos hc] at p
        obtain ⟨pa, v, g1, g2, gl, g3⟩ := h3
        exact p (as'.take st.length) H' cv xd (ee.cut s) ((s.cut s' hc.1).less fun b z => live_cut z) ⟨C', h1, h2, by rw [qr]; exact ⟨pa, v, g1, g2, fun z => gl (live_cut z), (g3.cut hc.2).lessL fun b z => live_cut z⟩⟩
      · rw [if_neg hc] at p; exact p.elim
theorem pI_makeR {k n : Nat} {x : Str} {c : String} {p pos : Pos} {e : Expr} {es : List Expr} {m : AM} {fs : FnSem} (O : OkMk X.prog X.w X.K X.mg X.base G k x c n fs) (hr : Room (k + 1) X.A) (tk : Takes X W) (hg : Gl X x) (ha : PA X (e :: es) (tAr G W m))
    (hdb : (x == ("__debug__" : Str)) = false := by decide) (he : starEach (e :: es) X.env = (false, eval e X.env) :: starEach es X.env := by rfl) (hpl : (backTo pos (starEach es X.env)).any (·.1) = false := by rfl) : PE X (.Call (.Name x p) (e :: es) [] pos) (tI G W (evMakeR c n fs m)) := by
  obtain ⟨C, f, fd, ps, M, F, b, g, hcm⟩ := O
  refine (pe_makeS (E := WE W) M F hr hg g b (fun σ => passAt tk σ) ha hdb he hpl).vi fun σ H Q h => ?_
  obtain ⟨as, st, env, s, er, p⟩ := h
  refine ⟨as, st, env, s, er, (p.bind s.len).mono fun ds as1 st1 H1 e1 s1 p1 vs r1 => ?_⟩
  split at p1
  · rename_i hn
    intro x dx nx ndx ne
    obtain ⟨as2, st2, ds2, s2, r2, l2, p2⟩ := make_postR (Q := Q) s1 r1 hcm (p1.mono fun w as3 st3 H3 e3 s3 q v rv => q v (rv.from (fresh_of e1))) x dx nx ndx ne
    exact ⟨r2.len_of (by rw [l2, hn]), as2, st2, ds2, s2, r2, p2⟩
  · exact p1.elim
theorem make_postK {c : String} {C : Addr} {fs : FnSem} {ds : List D} {vs : List V} (s : StR G as st H) (rds : RelDs G as (Live as st) H ds vs) (hcm : G.cm c = some C)
    (p : Post G Ex as st H (makeK c fs ds st) fun w as' st' H' => ∀ v, RelW G H as' st' H' w v → Q v H') (x dx : Addr) (nx : H x = none) (ndx : H dx = none) (ne : dx ≠ x) :
    ∃ as1 st1 ds1, StR G as1 st1 (upd (upd H dx (.own x)) x (.ins C dx [])) ∧ RelDs G as1 (Live as1 st1) (upd (upd H dx (.own x)) x (.ins C dx [])) ds1 (.ref x :: vs) ∧ ds1.length = ds.length + 1 ∧
      Post G Ex as1 st1 (upd (upd H dx (.own x)) x (.ins C dx [])) (fs ds1 st1) fun w as' st' H' => ∀ v, RelW G (upd (upd H dx (.own x)) x (.ins C dx [])) as' st' H' w v → v = .non ∧ Q (.ref x) H' := by
  have nx1 : (upd H dx (.own x)) x = none := by rw [upd_ne (Ne.symm ne)]; exact nx
  have s1 := s.laid ndx (o := .own x)
  have sl := s1.lay nx1 (o := .ins C dx [])
  have cell : CellR G as (fun b => Live as st b ∨ b = x) (upd (upd H dx (.own x)) x (.ins C dx [])) x (.obj c []) := ⟨C, dx, [], hcm, upd_same, by rw [upd_ne ne, upd_same], .nil⟩
  have s2 := sl.reg (notLive s1 nx1) cell
  have e2 : Ext as st H (as ++ [x]) (st ++ [some (.obj c [])]) (upd (upd H dx (.own x)) x (.ins C dx [])) := ((Ext.lay ndx).trans (Ext.lay nx1) s.len).regAt s.len s.len nx
  have atx : (as ++ [x])[st.length]? = some x := by rw [← s.len]; simp
  refine ⟨as ++ [x], st ++ [some (.obj c [])], .ref st.length :: ds, s2, .cons (.ref atx) (rds.ext e2 s.len), rfl, ?_⟩
  unfold makeK at p
  cases q : fs (.ref st.length :: ds) (st ++ [some (.obj c [])]) with
  | stuck => simp only [q] at p; exact p.elim
  | ok w st' =>
    cases w with
    | new d => simp only [q] at p; exact p.elim
    | val d =>
      cases d with
      | non =>
        simp only [q] at p
        intro as' H' e' s' v rv
        cases (show RelD G as' _ H' .non v from rv)
        refine ⟨rfl, ?_⟩
        have ee := e2.trans e' s.len
        have rx : RelW G H as' st' H' (.val (.ref st.length)) (.ref x) := show RelD G as' _ H' _ _ from .ref (pre_get e'.pre atx)
        exact p as' H' ee s' _ rx
      | _ => simp only [q] at p; exact p.elim
  | exc y st' =>
    simp only [q] at p
    intro as' H' cv xd e' s' rx
    have ee := e2.trans e' s.len
    exact p as' H' cv xd ee s' rx
theorem pI_makeK {k n : Nat} {x : Str} {c : String} {p pos : Pos} {e : Expr} {es : List Expr} {m : AM} {fs : FnSem} (O : OkMk X.prog X.w X.K X.mg X.base G k x c n fs) (hr : Room (k + 1) X.A) (tk : Takes X W) (hg : Gl X x) (ha : PA X (e :: es) (tAr G W m))
    (hdb : (x == ("__debug__" : Str)) = false := by decide) (he : starEach (e :: es) X.env = (false, eval e X.env) :: starEach es X.env := by rfl) (hpl : (backTo pos (starEach es X.env)).any (·.1) = false := by rfl) : PE X (.Call (.Name x p) (e :: es) [] pos) (tI G W (evMakeK c n fs m)) := by
  obtain ⟨C, f, fd, ps, M, F, b, g, hcm⟩ := O
  refine (pe_makeS (E := WE W) M F hr hg g b (fun σ => passAt tk σ) ha hdb he hpl).vi fun σ H Q h => ?_
  obtain ⟨as, st, env, s, er, p⟩ := h
  refine ⟨as, st, env, s, er, (p.bind s.len).mono fun ds as1 st1 H1 e1 s1 p1 vs r1 => ?_⟩
  split at p1
  · rename_i hn
    intro x dx nx ndx ne
    obtain ⟨as2, st2, ds2, s2, r2, l2, p2⟩ := make_postK (Q := Q) s1 r1 hcm (p1.mono fun w as3 st3 H3 e3 s3 q v rv => q v (rv.from (fresh_of e1))) x dx nx ndx ne
    exact ⟨r2.len_of (by rw [l2, hn]), as2, st2, ds2, s2, r2, p2⟩
  · exact p1.elim
end
end VI
namespace VI
open PySem PySem.Spec PyProof.Rows L2
/-! ### xs.extend(ys), ys a list or a tuple of any kind -/
theorem extend_tup_meets (l : Addr) (items : Array Value) (n : Nat) (b : Addr) (items2 : Array Value) (n2 : Nat) (dct : Option Addr) (sl : Array (Option Value)) (hs0 : ¬(!items.isEmpty && Builtin.List.listTooLong (items.size + items2.size)) = true) (hs1 : items.size ≤ sizeLine) (hs2 : items.size + items2.size ≤ sizeLine + 1) :
    Meets (Builtin.«list.extend» ⟨[.ref l, .ref b], []⟩) (fun _ R s => s.heap.get? l = some { cls := .type "list", dict := none, data := .seq items n, slots := #[] } ∧ s.heap.get? b = some { cls := .type "tuple", dict := dct, data := .seq items2 n2, slots := sl } ∧ R (.ok (.ret Value.none)) { s with heap := s.heap.update l (Obj.mapSeq fun x => x ++ items2), toks := s.toks }) :=
  .of_wp fun prog w A R s h => by
    obtain ⟨hp, g, d, tk, os⟩ := s; obtain ⟨hl, hb, h⟩ := h; have f1 := AutoSeq1.idx_int; have f2 := AutoSeq1.sub_tuple_tuple; have f3 := AutoSeq1.sub_list_list; have f4 := AutoSeq1.sub_tuple_list; have f5 := AutoSeq1.sub_list_tuple;
    have hz' : (items ++ items2).size ≤ sizeLine + 1 := by rw [Array.size_append]; exact hs2
    wp_walk using (wpAny_updateSeq hl rfl (hz := hs1) (_hz' := hz')), AutoSeq1.wpAny_loadPart' hl, AutoSeq1.wpAny_loadPart' hb; exact ⟨_, rfl, h⟩
theorem extend_lst_meets (l : Addr) (items : Array Value) (n : Nat) (b : Addr) (items2 : Array Value) (n2 : Nat) (dct : Option Addr) (sl : Array (Option Value)) (hs0 : ¬(!items.isEmpty && Builtin.List.listTooLong (items.size + items2.size)) = true) (hs1 : items.size ≤ sizeLine) (hs2 : items.size + items2.size ≤ sizeLine + 1) :
    Meets (Builtin.«list.extend» ⟨[.ref l, .ref b], []⟩) (fun _ R s => s.heap.get? l = some { cls := .type "list", dict := none, data := .seq items n, slots := #[] } ∧ s.heap.get? b = some { cls := .type "list", dict := dct, data := .seq items2 n2, slots := sl } ∧ R (.ok (.ret Value.none)) { s with heap := s.heap.update l (Obj.mapSeq fun x => x ++ items2), toks := s.toks }) :=
  .of_wp fun prog w A R s h => by
    obtain ⟨hp, g, d, tk, os⟩ := s; obtain ⟨hl, hb, h⟩ := h; have f1 := AutoSeq1.idx_int; have f2 := AutoSeq1.sub_tuple_tuple; have f3 := AutoSeq1.sub_list_list; have f4 := AutoSeq1.sub_tuple_list; have f5 := AutoSeq1.sub_list_tuple;
    have hz' : (items ++ items2).size ≤ sizeLine + 1 := by rw [Array.size_append]; exact hs2
    wp_walk using (wpAny_updateSeq hl rfl (hz := hs1) (_hz' := hz')), AutoSeq1.wpAny_loadPart' hl, AutoSeq1.wpAny_loadPart' hb; exact ⟨_, rfl, h⟩
section
variable {X : Cx} {G : Gx} {E : WX} {as as' : List Addr} {st st' : Store} {H H' : Hp} {L : Addr → Prop} {a : Addr}
def rExtendA (K : PySem.W.Frag) : V → List V → Hp → VK → Prop := fun x vs H Q => ∃ l b xs zs, x = .ref l ∧ vs = [.ref b] ∧ H l = some (.lst xs) ∧ (SqL K H b zs ∨ SqT K H b zs) ∧ xs.length + zs.length ≤ sizeLine ∧ Q .non (upd H l (.lst (xs ++ zs)))
theorem mt_extendA : MtR X "list.extend" (rExtendA X.K) := by
  intro pins s σ H x vs v us Q I rx rv h
  obtain ⟨l, b, xs, zs, rfl, rfl, hH, hB, hz, q⟩ := h
  obtain rfl : v = Value.ref l := rx
  obtain ⟨u, rfl, ru⟩ := vals1 rv
  obtain rfl : u = Value.ref b := ru
  obtain ⟨z, its, n, r, hl, e⟩ := I.lstM hH
  rcases hB with hB | hB
  · obtain ⟨its2, r2, ⟨o, n2, ho, hc, _, hdat⟩, hz2⟩ := I.list hB
    obtain ⟨c, dct, dat, sl⟩ := o
    dsimp only at hc hdat
    subst hc hdat
    have hl2 := r2.length
    have hsz : its.toArray.size + its2.toArray.size ≤ sizeLine := by rw [List.size_toArray, List.size_toArray]; omega
    have hlong : ¬ (!its.toArray.isEmpty && Builtin.List.listTooLong (its.toArray.size + its2.toArray.size)) = true := by
      rw [notLongL hsz, Bool.and_false]
      exact Bool.false_ne_true
    refine call_meets F.slot_list_extend ⟨_, e, rfl⟩ F.entry_list_extend (F.args_list_extend_2 _ _) (extend_lst_meets l its.toArray n b its2.toArray n2 dct sl hlong (by rw [List.size_toArray]; omega) (by omega)) ⟨e, ho, ?_⟩
    refine ⟨.non, _, I.lset (its' := its ++ its2) hH e (by simp) (r.append r2) ?_, rfl, q⟩
    rw [List.length_append]
    omega
  · obtain ⟨its2, r2, ⟨o, ho, hc, n2, hdat⟩, hz2⟩ := I.tuple hB
    obtain ⟨c, dct, dat, sl⟩ := o
    dsimp only at hc hdat
    subst hc hdat
    have hl2 := r2.length
    have hsz : its.toArray.size + its2.toArray.size ≤ sizeLine := by rw [List.size_toArray, List.size_toArray]; omega
    have hlong : ¬ (!its.toArray.isEmpty && Builtin.List.listTooLong (its.toArray.size + its2.toArray.size)) = true := by
      rw [notLongL hsz, Bool.and_false]
      exact Bool.false_ne_true
    refine call_meets F.slot_list_extend ⟨_, e, rfl⟩ F.entry_list_extend (F.args_list_extend_2 _ _) (extend_tup_meets l its.toArray n b its2.toArray n2 dct sl hlong (by rw [List.size_toArray]; omega) (by omega)) ⟨e, ho, ?_⟩
    refine ⟨.non, _, I.lset (its' := its ++ its2) hH e (by simp) (r.append r2) ?_, rfl, q⟩
    rw [List.length_append]
    omega
/-- xs.extend(ys) -/
def fExtend (o : D) (ds : List D) (st : Store) : Res Wv := match o, ds with
  | .ref n, [d] => match st[n]? with
    | some (some (.lst xs)) => (match colOf d st with
      | some ys => if xs.length + ys.length ≤ 100000 then .ok (.val .non) (st.set n (some (.lst (xs ++ ys)))) else .stuck
      | none => .stuck)
    | _ => .stuck
  | _, _ => .stuck
theorem RelDs.app : ∀ {ds es : List D} {vs us : List V}, RelDs G as L H ds vs → RelDs G as L H es us → RelDs G as L H (ds ++ es) (vs ++ us)
  | _, _, _, _, .nil, q => q
  | _, _, _, _, .cons r t, q => .cons r (RelDs.app t q)
theorem mtS_extend : MtS' G E fExtend (rExtendA G.K) := by
  intro E' as st H d ds x xs Q s r rs p
  unfold fExtend at p
  split at p
  · rename_i n d2
    cases r with
    | @ref _ a ha =>
    cases rs with
    | cons r2 t =>
    cases t
    split at p
    · rename_i ys e
      split at p
      · rename_i zs hc
        split at p
        · rename_i hl
          obtain ⟨a', ha', vs, hv, rr⟩ := s.cells _ _ e
          rw [ha] at ha'; cases ha'
          obtain ⟨pb, us, rfl, h1, h2⟩ := colOf_sq s r2 hc
          have kp := live_kp s e ha
          obtain ⟨a1, a2⟩ := s.write (d := .lst (ys ++ zs)) (o := .lst (vs ++ us)) e ha ⟨_, upd_same, RelDs.app (rr.mono (List.prefix_refl _) (fun _ _ n => n) fun b o eb k => kp b o eb k _) (h2.mono (List.prefix_refl _) (fun _ _ n => n) fun b o eb k => kp b o eb k _)⟩
          refine ⟨a, pb, vs, us, rfl, rfl, hv, h1, ?_, ?_⟩
          · have l1 := rr.length
            have l2 := h2.length
            exact szl (by omega)
          · exact p as _ a2 a1 _ (show RelD _ _ _ _ _ _ from .non)
        · exact p.elim
      · exact p.elim
    · exact p.elim
  · exact p.elim
def fReverse (o : D) (ds : List D) (st : Store) : Res Wv := match o, ds with
  | .ref n, [] => match st[n]? with
    | some (some (.lst xs)) => .ok (.val .non) (st.set n (some (.lst xs.reverse)))
    | _ => .stuck
  | _, _ => .stuck
theorem mtS_reverse : MtS' G E fReverse rReverse := by
  intro E' as st H d ds x xs Q s r rs p
  unfold fReverse at p
  split at p
  · cases r with
    | @ref n a ha =>
    cases rs
    split at p
    · rename_i ys e
      obtain ⟨a', ha', vs, hv, rr⟩ := s.cells _ _ e
      rw [ha] at ha'; cases ha'
      have kp := live_kp s e ha
      obtain ⟨a1, a2⟩ := s.write (d := .lst ys.reverse) (o := .lst vs.reverse) e ha ⟨_, upd_same, RelDs.rev (rr.mono (List.prefix_refl _) (fun _ _ n => n) fun b o eb k => kp b o eb k _)⟩
      exact ⟨a, vs, rfl, rfl, hv, p as _ a2 a1 _ (show RelD _ _ _ _ _ _ from .non)⟩
    · exact p.elim
  · exact p.elim
/-- a new container becomes a cell; anything else stays as it is -/
def evRegL (m : EM) : EM := fun env st => (m env st).bind fun w st1 => match w with
  | .new d => .ok (.val (.ref st1.length)) (st1 ++ [some d])
  | .val d => .ok (.val d) st1
theorem pI_regL {e : Expr} {m : EM} (h : PE X e (tI G E m)) : PE X e (tI G E (evRegL m)) := h.vi fun σ H Q ⟨as, st, env, s, er, p⟩ =>
  ⟨as, st, env, s, er, p.bind0.mono fun w as1 st1 H1 e1 s1 p1 v r => by
    cases w with
    | val d => exact p1 as1 H1 e1 s1 v r
    | new d =>
      obtain ⟨q, rfl, e2, s2, r2⟩ := r.reg e1 s s1
      exact p1 _ H1 e2 s2 _ r2⟩
end
theorem lt9 {a b : Nat} (h : a + 65 < b) : a + 9 < b := by omega
theorem lt10 {a b : Nat} (h : a + 65 < b) : a + 10 < b := by omega
section
variable {X : Cx} {G : Gx}
theorem opInD (hu : X.A.units + 9 < cLine) (ho : OpR X (compareOp .In) (rInA X.K false)) : OpR X (compareOp .In) (rInD X.K X.w false) := OpR.or (op_dIn hu) ho
theorem opNinD (hu : X.A.units + 9 < cLine) (ho : OpR X (compareOp .NotIn) (rInA X.K true)) : OpR X (compareOp .NotIn) (rInD X.K X.w true) := OpR.or (op_dNotIn hu) ho
end
end VI
namespace VI
open PySem PySem.Spec PyProof.Rows L2
/-! ### repr of data that holds dicts -/
mutual
inductive Dq (K : PySem.W.Frag) (w : World) (H : Hp) : V → PyData → Prop where
  | non : Dq K w H .non .none
  | bl (b : Bool) : Dq K w H (.bl b) (.bool b)
  | int (i : Int) : Dq K w H (.int i) (.int i)
  | str (x : Str) : Dq K w H (.str x) (.str x)
  | lst {a : Addr} {xs : List V} {ds : List PyData} : SqL K H a xs → Dqs K w H xs ds → Dq K w H (.ref a) (.list ds)
  | tup {a : Addr} {xs : List V} {ds : List PyData} : SqT K H a xs → Dqs K w H xs ds → Dq K w H (.ref a) (.tuple ds)
  | dic {a : Addr} {ks vs : List V} {kvs : List (PyData × PyData)} : DHas w H a ks vs → Dqs K w H ks (kvs.map (·.1)) → Dqs K w H vs (kvs.map (·.2)) → Dq K w H (.ref a) (.dict kvs)
inductive Dqs (K : PySem.W.Frag) (w : World) (H : Hp) : List V → List PyData → Prop where
  | nil : Dqs K w H [] []
  | cons {v : V} {vs : List V} {d : PyData} {ds : List PyData} : Dq K w H v d → Dqs K w H vs ds → Dqs K w H (v :: vs) (d :: ds)
end
section
variable {X : Cx} {pins : List (Addr × Obj)} {σ : L2.St} {H : Hp} {s : Shared}
mutual
theorem Dq.reads (I : Inv X pins σ H s) : ∀ {d : PyData} {v : V} {u : Value}, Dq X.K X.w H v d → RelV v u → ∃ as, Reads s.heap u d as
  | _, _, _, .non, r => by cases r; exact ⟨[], .none⟩
  | _, _, _, .bl b, r => by cases r; exact ⟨[], .bool b⟩
  | _, _, _, .int i, r => by obtain ⟨t, rfl⟩ := r; exact ⟨[], .int i t⟩
  | _, _, _, .str x, r => by obtain ⟨t, rfl⟩ := r; exact ⟨[], .str x t⟩
  | _, _, _, .lst h1 h2, r => by
    cases r
    obtain ⟨its, rv, ⟨o, n, g1, g2, _, g3⟩, _⟩ := I.list h1
    obtain ⟨as, q⟩ := Dqs.reads I h2 rv
    exact ⟨_, .list g1 g2 g3 q⟩
  | _, _, _, .tup h1 h2, r => by
    cases r
    obtain ⟨its, rv, ⟨o, g1, g2, n, g3⟩, _⟩ := I.tuple h1
    obtain ⟨as, q⟩ := Dqs.reads I h2 rv
    exact ⟨_, .tuple g1 g2 g3 q⟩
  | _, _, _, .dic h1 h2 h3, r => by
    cases r
    obtain ⟨es, ep, ⟨o, g1, g2, g3⟩, _, _, r1, r2⟩ := h1.raw I
    obtain ⟨as, q1⟩ := Dqs.reads I h2 r1
    obtain ⟨bs, q2⟩ := Dqs.reads I h3 r2
    exact ⟨_, .dict g1 g2.1 g3 q1 q2⟩
theorem Dqs.reads (I : Inv X pins σ H s) : ∀ {ds : List PyData} {vs : List V} {us : List Value}, Dqs X.K X.w H vs ds → Vals vs us → ∃ as, ReadsAll s.heap us ds as
  | _, _, _, .nil, r => by cases r; exact ⟨[], .nil⟩
  | _, _, _, .cons h1 h2, r => by
    cases r with
    | cons r1 r2 =>
    obtain ⟨as, q1⟩ := Dq.reads I h1 r1
    obtain ⟨bs, q2⟩ := Dqs.reads I h2 r2
    exact ⟨_, .cons q1 q2⟩
end
variable {prog : Program} {w : World}
mutual
theorem Dq.told (I : Inv X pins σ H s) : ∀ {d : PyData} {v : V} {u : Value}, Dq X.K X.w H v d → RelV v u → d.showable = true → d.shown.length ≤ sizeLine → ∃ bs, ReadAtMost s.heap d.depth bs ∧ ReprK prog w bs s.heap d.depth u d.shown
  | _, _, _, .non, r, _, _ => by cases r; exact ⟨[], (fun _ h => nomatch h), .of_is ReprIs.none _ _ _⟩
  | _, _, _, .bl b, r, _, _ => by cases r; exact ⟨[], (fun _ h => nomatch h), .of_is (ReprIs.bool b) _ _ _⟩
  | _, _, _, .int i, r, hs, _ => by obtain ⟨t, rfl⟩ := r; exact ⟨[], (fun _ h => nomatch h), .of_is (ReprIs.int t (by simpa [PyData.showable] using hs)) _ _ _⟩
  | _, _, _, .str x, r, _, hz => by obtain ⟨t, rfl⟩ := r; exact ⟨[], (fun _ h => nomatch h), .of_is (ReprIs.str x t (by simpa only [PyData.shown] using hz)) _ _ _⟩
  | _, _, _, .lst (a := p) (ds := ds) h1 h2, r, hs, hz => by
    obtain ⟨cs, rd⟩ := Dq.reads I (.lst h1 h2) r
    cases r
    obtain ⟨its, rv, ⟨o, n, g1, g2, _, g3⟩, _⟩ := I.list h1
    have fit : (listText (PyData.shownAll ds)).length ≤ sizeLine := by simpa only [PyData.shown] using hz
    obtain ⟨bs, q1, q2⟩ := Dqs.told I h2 rv (by simpa [PyData.showable] using hs) fun t ht => Nat.le_trans (listText_mem_le ht) fit
    have apart : p ∉ bs := not_mem_of_deeper rd (by simp only [PyData.depth]; omega) q1
    refine ⟨p :: bs, ReadAtMost.cons rd (by simp only [PyData.depth]; omega) q1, ?_⟩
    simp only [PyData.depth, PyData.shown]
    cases its with
    | nil =>
      cases rv
      cases h2
      simp only [PyData.shownAll, listText_nil]
      exact ReprK.listEmpty g1 g2 g3
    | cons y l => exact ReprK.list g1 g2 g3 apart (by simpa using q2.length_eq) fun i z e => q2.item i z (by simpa using e)
  | _, _, _, .tup (a := p) (ds := ds) h1 h2, r, hs, hz => by
    obtain ⟨cs, rd⟩ := Dq.reads I (.tup h1 h2) r
    cases r
    obtain ⟨its, rv, ⟨o, g1, g2, n, g3⟩, _⟩ := I.tuple h1
    have fit : (tupleText (PyData.shownAll ds)).length ≤ sizeLine := by simpa only [PyData.shown] using hz
    obtain ⟨bs, q1, q2⟩ := Dqs.told I h2 rv (by simpa [PyData.showable] using hs) fun t ht => Nat.le_trans (tupleText_mem_le ht) fit
    have apart : p ∉ bs := not_mem_of_deeper rd (by simp only [PyData.depth]; omega) q1
    refine ⟨p :: bs, ReadAtMost.cons rd (by simp only [PyData.depth]; omega) q1, ?_⟩
    simp only [PyData.depth, PyData.shown]
    exact ReprK.tuple g1 g2 g3 apart q2
  | _, _, _, .dic (a := p) (kvs := kvs) h1 h2 h3, r, hs, hz => by
    obtain ⟨cs, rd⟩ := Dq.reads I (.dic h1 h2 h3) r
    cases r
    obtain ⟨es, ep, ⟨o, g1, g2, g3⟩, lo, _, r1, r2⟩ := h1.raw I
    have fit : (dictText (PyData.shownKv kvs)).length ≤ sizeLine := by simpa only [PyData.shown] using hz
    obtain ⟨s1, s2⟩ := PyData.showableKv_split kvs (by simpa [PyData.showable] using hs)
    obtain ⟨b1, f1, k1⟩ := Dqs.told I h2 r1 s1 fun t ht => let ⟨q, hq, hl⟩ := PyData.shownKv_key_le kvs t ht; Nat.le_trans hl (Nat.le_trans (dictText_mem_le hq) fit)
    obtain ⟨b2, f2, k2⟩ := Dqs.told I h3 r2 s2 fun t ht => let ⟨q, hq, hl⟩ := PyData.shownKv_val_le kvs t ht; Nat.le_trans hl (Nat.le_trans (dictText_mem_le hq) fit)
    have f3 : ReadAtMost s.heap (PyData.depthKv kvs) (b1 ++ b2) := (f1.mono (PyData.depthAll_keys_le kvs)).append (f2.mono (PyData.depthAll_vals_le kvs))
    have apart : p ∉ b1 ++ b2 := not_mem_of_deeper rd (by simp only [PyData.depth]; omega) f3
    refine ⟨p :: (b1 ++ b2), ReadAtMost.cons rd (by simp only [PyData.depth]; omega) f3, ?_⟩
    simp only [PyData.depth, PyData.shown, PyData.shownKv_eq]
    refine ReprK.dict g1 g2.1 g3 lo apart (ReprEntriesK.of_two es.toList _ _ (k1.more_le ?_ (PyData.depthAll_keys_le kvs)) (k2.more_le ?_ (PyData.depthAll_vals_le kvs)))
    · exact fun b hb => List.mem_append_left _ hb
    · exact fun b hb => List.mem_append_right _ hb
theorem Dqs.told (I : Inv X pins σ H s) : ∀ {ds : List PyData} {vs : List V} {us : List Value}, Dqs X.K X.w H vs ds → Vals vs us → PyData.showableAll ds = true → (∀ t ∈ PyData.shownAll ds, t.length ≤ sizeLine) →
    ∃ bs, ReadAtMost s.heap (PyData.depthAll ds) bs ∧ ReprAllK prog w bs s.heap (PyData.depthAll ds) us (PyData.shownAll ds)
  | _, _, _, .nil, r, _, _ => by cases r; exact ⟨[], (fun _ h => nomatch h), .nil⟩
  | _, _, _, .cons (d := d) (ds := ds) h1 h2, r, hs, hz => by
    cases r with
    | cons r1 r2 =>
    have hs2 : d.showable = true ∧ PyData.showableAll ds = true := by simpa [PyData.showableAll] using hs
    obtain ⟨b1, f1, k1⟩ := Dq.told I h1 r1 hs2.1 (hz _ (by simp only [PyData.shownAll]; exact .head _))
    obtain ⟨b2, f2, k2⟩ := Dqs.told I h2 r2 hs2.2 fun t ht => hz t (by simp only [PyData.shownAll]; exact .tail _ ht)
    simp only [PyData.depthAll, PyData.shownAll]
    refine ⟨b1 ++ b2, (f1.mono (Nat.le_max_left _ _)).append (f2.mono (Nat.le_max_right _ _)), .cons ((k1.more ?_).level_le (Nat.le_max_left _ _)) (k2.more_le ?_ (Nat.le_max_right _ _))⟩
    · exact fun b hb => List.mem_append_left _ hb
    · exact fun b hb => List.mem_append_right _ hb
end
end
end VI
namespace VI
open PySem PySem.Spec PyProof.Rows L2
section
variable {X : Cx} {pins : List (Addr × Obj)} {σ : L2.St} {H : Hp} {s : Shared} {prog : Program} {w : World}
theorem Dq.shows (I : Inv X pins σ H s) {d : PyData} {p : Addr} (h : Dq X.K X.w H (.ref p) d) (hs : d.showable = true) (hz : d.shown.length ≤ sizeLine) : ∃ T idr, ShowsBy prog w s.heap p d T idr := by
  obtain ⟨cs, rd⟩ := Dq.reads I h (show RelV (.ref p) (.ref p) from rfl)
  cases h with
  | @lst _ xs ds h1 h2 =>
    obtain ⟨its, rv, ⟨o, n, g1, g2, _, g3⟩, _⟩ := I.list h1
    have fit : (listText (PyData.shownAll ds)).length ≤ sizeLine := by simpa only [PyData.shown] using hz
    obtain ⟨bs, q1, q2⟩ := Dqs.told (prog := prog) (w := w) I h2 rv (by simpa [PyData.showable] using hs) fun t ht => Nat.le_trans (listText_mem_le ht) fit
    have apart : p ∉ bs := not_mem_of_deeper rd (by simp only [PyData.depth]; omega) q1
    refine ⟨"list", "list.__repr__", F.slot_list_repr.toG, F.slot_list_str, F.slot_list_format, fun s1 k0 => ⟨o, k0 _ _ g1, g2⟩, fun A E s1 Q hg hu k0 hQ => ?_⟩
    simp only [PyData.depth] at hu
    simp only [PyData.shown] at hQ
    cases its with
    | nil =>
      cases rv
      cases h2
      simp only [PyData.shownAll, listText_nil] at hQ
      exact call_list_repr_empty ⟨o, k0 _ _ g1, g2⟩ (k0 _ _ g1) g3 (hQ s1.heap _ _ fun _ _ e => e)
    | cons y l => exact call_list_reprK g1 g2 g3 apart (by simpa using q2.length_eq) (fun i z e => q2.item i z (by simpa using e)) hg (fun b _ => Clear.nil b) hu k0 hQ fit
  | @tup _ xs ds h1 h2 =>
    obtain ⟨its, rv, ⟨o, g1, g2, n, g3⟩, _⟩ := I.tuple h1
    have fit : (tupleText (PyData.shownAll ds)).length ≤ sizeLine := by simpa only [PyData.shown] using hz
    obtain ⟨bs, q1, q2⟩ := Dqs.told (prog := prog) (w := w) I h2 rv (by simpa [PyData.showable] using hs) fun t ht => Nat.le_trans (tupleText_mem_le ht) fit
    have apart : p ∉ bs := not_mem_of_deeper rd (by simp only [PyData.depth]; omega) q1
    refine ⟨"tuple", "tuple.__repr__", F.slot_tuple_repr, F.slot_tuple_str, F.slot_tuple_format, fun s1 k0 => ⟨o, k0 _ _ g1, g2⟩, fun A E s1 Q hg hu k0 hQ => ?_⟩
    simp only [PyData.depth] at hu
    simp only [PyData.shown] at hQ
    exact call_tuple_reprK g1 g2 g3 apart q2 hg (fun b _ => Clear.nil b) hu k0 hQ fit
  | @dic _ ks vs kvs h1 h2 h3 =>
    obtain ⟨es, ep, ⟨o, g1, g2, g3⟩, lo, _, r1, r2⟩ := h1.raw I
    have fit : (dictText (PyData.shownKv kvs)).length ≤ sizeLine := by simpa only [PyData.shown] using hz
    obtain ⟨s1, s2⟩ := PyData.showableKv_split kvs (by simpa [PyData.showable] using hs)
    obtain ⟨b1, f1, k1⟩ := Dqs.told (prog := prog) (w := w) I h2 r1 s1 fun t ht => let ⟨q, hq, hl⟩ := PyData.shownKv_key_le kvs t ht; Nat.le_trans hl (Nat.le_trans (dictText_mem_le hq) fit)
    obtain ⟨b2, f2, k2⟩ := Dqs.told (prog := prog) (w := w) I h3 r2 s2 fun t ht => let ⟨q, hq, hl⟩ := PyData.shownKv_val_le kvs t ht; Nat.le_trans hl (Nat.le_trans (dictText_mem_le hq) fit)
    have f3 : ReadAtMost s.heap (PyData.depthKv kvs) (b1 ++ b2) := (f1.mono (PyData.depthAll_keys_le kvs)).append (f2.mono (PyData.depthAll_vals_le kvs))
    have apart : p ∉ b1 ++ b2 := not_mem_of_deeper rd (by simp only [PyData.depth]; omega) f3
    refine ⟨"dict", "dict.__repr__", F.slot_dict_repr, F.slot_dict_str, F.slot_dict_format, fun s1 k0 => ⟨o, k0 _ _ g1, g2.1⟩, fun A E s1 Q hg hu k0 hQ => ?_⟩
    simp only [PyData.depth] at hu
    simp only [PyData.shown, PyData.shownKv_eq] at hQ
    exact call_dict_reprK g1 g2.1 g3 lo apart (ReprEntriesK.of_two es.toList _ _ (k1.more_le (fun b hb => List.mem_append_left _ hb) (PyData.depthAll_keys_le kvs)) (k2.more_le (fun b hb => List.mem_append_right _ hb) (PyData.depthAll_vals_le kvs))) hg (fun b _ => Clear.nil b) hu k0 hQ (by rw [← PyData.shownKv_eq]; exact fit)
end
def rReprX (K : PySem.W.Frag) (w : World) : List V → Hp → VK → Prop := fun xs H Q => ∃ (x : V) (d : PyData), xs = [x] ∧ Dq K w H x d ∧ d.showable = true ∧ d.depth ≤ 60 ∧ d.shown.length ≤ sizeLine ∧ Q (.str d.shown) H
theorem call_reprX {X : Cx} (hu : X.A.units + 65 < cLine) (hgd : X.A.guards = some []) : CallR X (.builtin "repr") (rReprX X.K X.w) := by
  intro pins s σ H xs us Q I r h
  obtain ⟨x, d, rfl, hd, hs, hdp, hz, q⟩ := h
  obtain ⟨u, rfl, rx⟩ := vals1 r
  have goR : ∀ p : Addr, x = .ref p → wpAny (model X.prog X.w) X.A (call (.builtin "repr") [u]) (EP X pins σ Q) X.xe s := fun p e => by
    subst e
    obtain rfl : u = Value.ref p := rx
    obtain ⟨T, idr, S⟩ := Dq.shows (prog := X.prog) (w := X.w) I hd hs hz
    exact call_repr_slot (by omega) (S.typeIs s fun b o e => e) S.slotRepr (S.call X.A.in1 X.xe s _ hgd (by show X.A.units + 1 + d.depth < cLine; omega) (fun b o e => e) fun h' u' tk hk => ⟨_, _, rfl, ⟨.str _, H, I.kept (t' := tk) hk, ⟨u', rfl⟩, q⟩⟩)
  cases hd with
  | non => cases rx; exact PySem.P.repr_of_none ⟨.str _, H, I.tok _, ⟨_, rfl⟩, q⟩
  | bl b => cases rx; exact PySem.P.repr_of_bool ⟨.str _, H, I.tok _, ⟨_, rfl⟩, q⟩
  | int i =>
    obtain ⟨t, rfl⟩ := rx
    exact PySem.P.repr_of_int (by simpa [PyData.showable] using hs) ⟨.str _, H, I.tok _, ⟨_, rfl⟩, q⟩
  | str z =>
    obtain ⟨t, rfl⟩ := rx
    exact PySem.P.repr_of_str ⟨.str _, H, I.tok _, ⟨_, rfl⟩, q⟩ (by simpa [PyData.shown] using hz)
  | lst h1 h2 => exact goR _ rfl
  | tup h1 h2 => exact goR _ rfl
  | dic h1 h2 h3 => exact goR _ rfl
/-! by value -/
mutual
def toPyX : D → PyData
  | .non => .none
  | .bl b => .bool b
  | .int i => .int i
  | .str x => .str x
  | .tup ds => .tuple (toPyXs ds)
  | .lst ds => .list (toPyXs ds)
  | .dic kvs => .dict (toPyXk kvs)
  | _ => .none
def toPyXs : List D → List PyData
  | [] => []
  | d :: ds => toPyX d :: toPyXs ds
def toPyXk : List (D × D) → List (PyData × PyData)
  | [] => []
  | (k, v) :: r => (toPyX k, toPyX v) :: toPyXk r
end
mutual
def isPyX : D → Bool
  | .non => true
  | .bl _ => true
  | .int _ => true
  | .str _ => true
  | .tup ds => isPyXs ds
  | .lst ds => isPyXs ds
  | .dic kvs => noErr kvs && isPyXk kvs
  | _ => false
def isPyXs : List D → Bool
  | [] => true
  | d :: ds => isPyX d && isPyXs ds
def isPyXk : List (D × D) → Bool
  | [] => true
  | (k, v) :: r => (isPyX k && isPyX v) && isPyXk r
end
section
variable {X : Cx} {G : Gx} {E : WX} {as as' : List Addr} {st st' : Store} {H : Hp} {L : Addr → Prop}
theorem toPyXk_fst : ∀ kvs : List (D × D), (toPyXk kvs).map (·.1) = toPyXs (kvs.map (·.1))
  | [] => rfl
  | (k, v) :: r => by simp only [toPyXk, toPyXs, List.map_cons]; rw [toPyXk_fst r]
theorem toPyXk_snd : ∀ kvs : List (D × D), (toPyXk kvs).map (·.2) = toPyXs (kvs.map (·.2))
  | [] => rfl
  | (k, v) :: r => by simp only [toPyXk, toPyXs, List.map_cons]; rw [toPyXk_snd r]
theorem isPyXk_and : ∀ {kvs : List (D × D)}, isPyXk kvs = true → isPyXs (kvs.map (·.1)) = true ∧ isPyXs (kvs.map (·.2)) = true
  | [], _ => ⟨rfl, rfl⟩
  | (k, v) :: r, h => by
    simp only [isPyXk, Bool.and_eq_true] at h
    obtain ⟨h1, h2⟩ := isPyXk_and h.2
    simp only [List.map_cons, isPyXs, h.1.1, h.1.2, h1, h2, Bool.and_self, and_self]
theorem keys_dqs {K : PySem.W.Frag} {w : World} : ∀ {kvs : List (D × D)} {ks : List Key} {vs : List V}, kvs.map (·.1) = ks.map keyD → ks.length = vs.length → Dqs K w H ((ks.zip vs).map fun kv => kV kv.1) (toPyXs (kvs.map (·.1)))
  | [], [], [], _, _ => .nil
  | [], _ :: _, _, h, _ => by simp at h
  | _ :: _, [], _, h, _ => by simp at h
  | _, [], _ :: _, _, h => by simp at h
  | _, _ :: _, [], _, h => by simp at h
  | p :: kvs, k :: ks, v :: vs, h, hl => by
    simp only [List.map_cons, List.cons.injEq] at h
    rw [List.zip_cons_cons, List.map_cons, List.map_cons, h.1]
    simp only [toPyXs]
    refine .cons ?_ (keys_dqs h.2 (by simpa using hl))
    cases k with
    | inl i => exact .int i
    | inr x => exact .str x
mutual
theorem RelD.dq : ∀ {d : D} {v : V}, RelD G as L H d v → isPyX d = true → Dq G.K G.w H v (toPyX d)
  | _, _, .non, _ => by simp only [toPyX]; exact .non
  | _, _, .bl b, _ => by simp only [toPyX]; exact .bl b
  | _, _, .int i, _ => by simp only [toPyX]; exact .int i
  | _, _, .str x, _ => by simp only [toPyX]; exact .str x
  | _, _, .ty n, q => by simp [isPyX] at q
  | _, _, .cl h, q => by simp [isPyX] at q
  | _, _, .ref h, q => by simp [isPyX] at q
  | _, _, .tup h r, q => by
    simp only [isPyX] at q
    simp only [toPyX]
    exact .tup h (RelDs.dqs r q)
  | _, _, .lst h n r, q => by
    simp only [isPyX] at q
    simp only [toPyX]
    exact .lst (.inl h) (RelDs.dqs r q)
  | _, _, .lstK h r, q => by
    simp only [isPyX] at q
    simp only [toPyX]
    exact .lst (.inr h) (RelDs.dqs r q)
  | _, _, .err _ _ _, q => by simp [isPyX, noErr] at q
  | _, _, .errR _ _ _ _ _ _, q => by simp [isPyX, noErr] at q
  | _, _, .dic h n, q => by
    simp only [isPyX, Bool.and_eq_true] at q
    simp only [toPyX]
    exact DicR.dq h q.2
  | _, _, .obj _ _ _ _ _, q => by simp [isPyX] at q
theorem RelDs.dqs : ∀ {ds : List D} {vs : List V}, RelDs G as L H ds vs → isPyXs ds = true → Dqs G.K G.w H vs (toPyXs ds)
  | _, _, .nil, _ => by simp only [toPyXs]; exact .nil
  | _, _, .cons r t, q => by
    simp only [isPyXs, Bool.and_eq_true] at q
    simp only [toPyXs]
    exact .cons (RelD.dq r q.1) (RelDs.dqs t q.2)
theorem DicR.dq : ∀ {kvs : List (D × D)} {a : Addr}, DicR G as L H kvs a → isPyXk kvs = true → Dq G.K G.w H (.ref a) (.dict (toPyXk kvs))
  | kvs, a, .k (ks := ks) (vs := vs) h1 h2 h3, q => by
    have l1 : kvs.length = ks.length := by have := congrArg List.length h2; simpa using this
    have l2 : kvs.length = vs.length := by have := h3.length; simpa using this
    refine .dic (.inl ⟨_, h1, rfl, rfl⟩) ?_ ?_
    · rw [toPyXk_fst]; exact keys_dqs h2 (by omega)
    · rw [toPyXk_snd, zip_snd (by omega)]; exact RelDs.dqs h3 (isPyXk_and q).2
  | kvs, a, .n (xs := xs) h1 h2 h3 h4 h5 h6, q => by
    refine .dic (.inr ⟨xs, h1, rfl, h6⟩) ?_ ?_
    · rw [toPyXk_fst]; exact RelDs.dqs h4 (isPyXk_and q).1
    · rw [toPyXk_snd]; exact RelDs.dqs h5 (isPyXk_and q).2
end
/-- the value, a cell's content in its place -/
def unrefX (d : D) (st : Store) : D := match d with
  | .ref n => match st[n]? with
    | some (some (.lst ds)) => .lst ds
    | some (some (.dic kvs)) => .dic kvs
    | _ => .ref n
  | d => d
theorem unrefX_dq (s : StR G as st H) {d : D} {v : V} (r : RelD G as (Live as st) H d v) (q : isPyX (unrefX d st) = true) : Dq G.K G.w H v (toPyX (unrefX d st)) := by
  cases d with
  | ref n =>
    cases r with
    | @ref _ a ha =>
    cases e : st[n]? with
    | none => simp [unrefX, e, isPyX] at q
    | some o =>
      cases o with
      | none => simp [unrefX, e, isPyX] at q
      | some d =>
        obtain ⟨a', ha', c⟩ := s.cells n _ e
        rw [ha] at ha'; cases ha'
        cases d with
        | lst ds =>
          simp only [unrefX, e, isPyX] at q ⊢
          obtain ⟨vs, hv, rr⟩ := c
          simp only [toPyX]
          exact .lst (.inl (.inl hv)) (RelDs.dqs rr q)
        | dic kvs =>
          simp only [unrefX, e, isPyX, Bool.and_eq_true] at q ⊢
          simp only [toPyX]
          exact DicR.dq c q.2
        | _ => simp [unrefX, e, isPyX] at q
  | _ => exact RelD.dq r q
def fReprX (ds : List D) (st : Store) : Res Wv := match ds with
  | [d] => if isPyX (unrefX d st) = true ∧ (toPyX (unrefX d st)).showable = true ∧ (toPyX (unrefX d st)).depth ≤ 60 ∧ (toPyX (unrefX d st)).shown.length ≤ 100000 then .ok (.val (.str (toPyX (unrefX d st)).shown)) st else .stuck
  | _ => .stuck
theorem callS_reprX : CallS G E fReprX (rReprX G.K G.w) := by
  intro E' as st H ds xs Q s r p
  unfold fReprX at p
  split at p
  · split at p
    · rename_i c
      cases r with
      | cons r t =>
      cases t
      exact ⟨_, _, rfl, unrefX_dq s r c.1, c.2.1, c.2.2.1, szl c.2.2.2, p.now s _ (.str _)⟩
    · exact p.elim
  · exact p.elim
end
end VI
namespace VI
open PySem PySem.Spec PyProof.Rows L2
/-! ### sets of texts (after the kit's sets of ints) -/
def keyT (e : Int × Value) : Str := match e.2 with | .str k _ => k | _ => Str.empty
def GoodT (w : World) (e : Int × Value) : Prop := ∃ k tk, e.2 = Value.str k tk ∧ e.1 = hashStr w k
def SetT (w : World) (h : Heap) (a : Addr) (S : Str → Bool) (n : Nat) : Prop :=
  ∃ o es ep t, h.get? a = some o ∧ o.ExactSet ∧ o.data = .set es ep t ∧ (∀ e ∈ es.toList, GoodT w e) ∧ (es.toList.map keyT).Nodup ∧ (∀ k, S k = true ↔ k ∈ es.toList.map keyT) ∧
    es.size < scanBound ∧ t.fits es.size = true ∧ es.size = n ∧ Ris t.place.toList ∧ (w.params.followText "set-order" = true ∨ t.led = true)
section
variable {P : Program} {w : World} {h h' : Heap} {a : Addr} {S : Str → Bool} {n : Nat}

theorem SetT.at (R : SetT w h a S n) (k : ∀ o, h.get? a = some o → h'.get? a = some o) : SetT w h' a S n := by
  obtain ⟨o, es, ep, t, ho, r⟩ := R
  exact ⟨o, es, ep, t, k o ho, r⟩
theorem SetT.lt (R : SetT w h a S n) : a < h.objs.size := by
  obtain ⟨o, es, ep, t, ho, r⟩ := R
  exact Heap.lt_size ho
theorem SetT.congr {S' : Str → Bool} (R : SetT w h a S n) (e : ∀ k, S' k = S k) : SetT w h a S' n := by
  have q : S' = S := funext e
  rw [q]; exact R
theorem goodT_elems {l : List (Int × Value)} (g : ∀ e ∈ l, GoodT w e) : ElemsOf (PySem.strKind P w) l := fun e he => by
  obtain ⟨k, tk, h1, h2⟩ := g e he
  exact ⟨⟨k, by rw [h1]; exact strKind_is P w k tk, h2⟩, by rw [h1] <;> rfl⟩
theorem goodT_is {e : Int × Value} (g : GoodT w e) (k : Str) : (PySem.strKind P w).is k e.2 = true ↔ keyT e = k := by
  obtain ⟨k0, tk, h1, _⟩ := g
  unfold keyT
  rw [h1]
  show ((k0 == k) = true) ↔ k0 = k
  exact beq_iff_eq
theorem goodT_mem {l : List (Int × Value)} (g : ∀ e ∈ l, GoodT w e) (k : Str) : k ∈ l.map keyT ↔ ∃ e ∈ l, (PySem.strKind P w).is k e.2 = true := by
  rw [List.mem_map]
  constructor
  · rintro ⟨e, he, q⟩
    exact ⟨e, he, (goodT_is (g e he) k).2 q⟩
  · rintro ⟨e, he, q⟩
    exact ⟨e, he, (goodT_is (g e he) k).1 q⟩
theorem SetT.setOf (R : SetT w h a S n) : h.SetOf (PySem.strKind P w) a S n := by
  obtain ⟨o, es, ep, t, ho, hx, hd, g, nd, hm, hb, hf, hn, _⟩ := R
  exact ⟨o, es, ep, t, ho, hx, hd, goodT_elems g, fun k => (hm k).trans (goodT_mem g k), hb, hf, hn⟩
end

section
variable {P : Program} {w : World} {A : Around} {E : Value → Shared → Prop} {s : Shared} {a : Addr} {S : Str → Bool} {n : Nat}

/-! ### add -/
theorem setT_add_tail {g : Bool → Sem Unit} (hg : ∀ (b : Bool) (s₁ : Shared) (Q' : Unit → Shared → Prop), Q' () s₁ → wpAny (model P w) A (g b) Q' E s₁)
    {o : Obj} {es : Array (Int × Value)} {ep : Nat} {t : SetTable} (ho : s.heap.get? a = some o) (hex : o.ExactSet) (hd : o.data = .set es ep t)
    {es1 : Array (Int × Value)} {t2 : SetTable} {S' : Str → Bool} (g1 : ∀ e ∈ es1.toList, GoodT w e) (nd1 : (es1.toList.map keyT).Nodup) (m1 : ∀ k, S' k = true ↔ k ∈ es1.toList.map keyT)
    (hb1 : es1.size < scanBound) (hf2 : t2.fits es1.size = true) (hr : Ris t2.place.toList) (hl : w.params.followText "set-order" = true ∨ t2.led = true) {wasDummy : Bool} {R : Option Bool → Shared → Prop}
    (hR : ∀ h', Heap.SameBut a s.heap h' → SetT w h' a S' es1.size → R (some true) { s with heap := h' }) :
    wpAny (model P w) A (do
        storeSet a es1 t2
        if (!wasDummy && t2.tooFull) = true then do
            g (relayAll t2 es1 (SetTable.grown es1.size)).2.2
            storeSet a (relayAll t2 es1 (SetTable.grown es1.size)).1 (relayAll t2 es1 (SetTable.grown es1.size)).2.1
            pure (some true)
          else pure (some true)) R E s := by
  refine wpAny_bind (wpAny_storeSet_of ho hd ?_ (fits_of_scanBound hb1))
  have ho1 := store_at (es' := es1) (t' := t2) ho hd
  have sb1 := Heap.SameBut.update s.heap a (Obj.putSet es1 t2)
  split
  · have pm := relayAll_perm t2 es1 (SetTable.grown es1.size)
    have hf3 := relayAll_fits t2 es1 (SetTable.grown es1.size)
    have hr3 := relayAll_ris t2 es1 (SetTable.grown es1.size)
    have hl3 := relayAll_led t2 es1 (SetTable.grown es1.size)
    generalize relayAll t2 es1 (SetTable.grown es1.size) = Z at pm hf3 hr3 hl3 ⊢
    obtain ⟨es2, t3, gave⟩ := Z
    dsimp only at pm hf3 hr3 hl3 ⊢
    have hsz : es2.size = es1.size := by rw [← Array.length_toList, pm.length_eq, Array.length_toList]
    have hb2 : es2.size < scanBound := by rw [hsz]; exact hb1
    refine wpAny_bind (hg _ _ _ ?_)
    refine wpAny_bind (wpAny_storeSet_of ho1 rfl ?_ (fits_of_scanBound hb2))
    have ho2 := store_at (es' := es2) (t' := t3) ho1 rfl
    refine wpAny_pure (hR _ (sb1.trans (Heap.SameBut.update _ a _)) ?_)
    exact ⟨_, es2, _, t3, ho2, hex, rfl, fun e he => g1 e (pm.mem_iff.mp he), (pm.map keyT).nodup_iff.mpr nd1, fun k => (m1 k).trans (pm.map keyT).mem_iff.symm, hb2, hf3, hsz, hr3,
      hl.imp id fun z => by rw [hl3]; exact z⟩
  · exact wpAny_pure (hR _ sb1 ⟨_, es1, _, t2, ho1, hex, rfl, g1, nd1, m1, hb1, hf2, rfl, hr, hl⟩)

theorem setT_add_hashed {k : Str} {tk : Tok} {Q : Bool → Shared → Prop} (R : SetT w s.heap a S n) (room : n + 1 < scanBound)
    (hQ : ∀ h', Heap.SameBut a s.heap h' → SetT w h' a (fun j => S j || decide (j = k)) (if S k = true then n else n + 1) → Q (!S k) { s with heap := h' }) :
    wpAny (model P w) A (setAddHashed a (.str k tk) ((PySem.strKind P w).hash k)) Q E s := by
  obtain ⟨o, es, ep, t, ho, hex, hd, g, nd, hm, hb, hf, hn, hr, hl⟩ := R
  have hkey : (PySem.strKind P w).is k (.str k tk) = true := strKind_is P w k tk
  have hsc : (Value.str k tk).scannable = true := rfl
  have hel : ElemsOf (PySem.strKind P w) es.toList := goodT_elems g
  unfold setAddHashed setAddHashedIn
  refine wpAny_holding (wpAny_bind (wpAny_setState_of ho hd hf ?_))
  dsimp only
  rw [byScan_of hsc hb hel]
  simp only [↓reduceIte]
  unfold setAddByScan
  refine wpAny_bind ?_
  refine wpAny_bind (wpAny_rule ?_)
  refine wpAny_bind (wpAny_setScan_of hkey ho hd hf hel ?_)
  cases hfi : List.findIdx? (fun e => (PySem.strKind P w).is k e.2) es.toList with
  | some j =>
    dsimp only
    obtain ⟨hj, pj, _⟩ := List.findIdx?_eq_some_iff_getElem.mp hfi
    have hSk : S k = true := (hm k).2 ((goodT_mem (P := P) (w := w) g k).2 ⟨es.toList[j], List.getElem_mem hj, pj⟩)
    refine wpAny_pure (wpAny_pure ?_)
    have q := hQ s.heap (Heap.SameBut.refl a s.heap) ⟨o, es, ep, t, ho, hex, hd, g, nd, fun i => by
      rw [Bool.or_eq_true, decide_eq_true_eq, ← hm i]
      exact ⟨fun z => z.elim id (fun e => e ▸ hSk), .inl⟩, hb, hf, by rw [if_pos hSk]; exact hn, hr, hl⟩
    rw [hSk] at q
    exact q
  | none =>
    dsimp only
    have hnk : k ∉ es.toList.map keyT := fun z => by
      obtain ⟨e, he, q⟩ := (goodT_mem (P := P) (w := w) g k).1 z
      have c := List.findIdx?_eq_none_iff.mp hfi e he
      rw [q] at c
      cases c
    have hSk : S k = false := by
      cases q : S k with
      | false => rfl
      | true => exact absurd ((hm k).1 q) hnk
    have hgw : ∀ (b : Bool) {s₁ : Shared} {Q' : Unit → Shared → Prop}, Q' () s₁ → wpAny (model P w) A (match b with | true => rule "set.scan.the-table-gave-way" | false => pure ()) Q' E s₁ :=
      fun b s₁ Q' q => by cases b <;> first | exact wpAny_pure q | exact wpAny_rule q
    have pm := layNew_perm t es ((PySem.strKind P w).hash k) (.str k tk)
    have hf1 := layNew_fits t es ((PySem.strKind P w).hash k) (.str k tk)
    have hr1 := layNew_ris t es ((PySem.strKind P w).hash k) (.str k tk) hr
    have hl1 := layNew_led t es ((PySem.strKind P w).hash k) (.str k tk)
    generalize layNew t es ((PySem.strKind P w).hash k) (.str k tk) = Z at pm hf1 hr1 hl1 ⊢
    obtain ⟨es1, t1, wasDummy, gave⟩ := Z
    dsimp only at pm hf1 hr1 hl1 ⊢
    rw [Array.toList_push] at pm
    have pc : es1.toList.Perm (((PySem.strKind P w).hash k, Value.str k tk) :: es.toList) := pm.trans (List.perm_append_singleton _ _)
    have pk : (es1.toList.map keyT).Perm (k :: es.toList.map keyT) := pc.map keyT
    have g1 : ∀ e ∈ es1.toList, GoodT w e := fun e he => by
      rcases List.mem_cons.mp (pc.mem_iff.mp he) with z | z
      · rw [z]; exact ⟨k, tk, rfl, rfl⟩
      · exact g e z
    have nd1 : (es1.toList.map keyT).Nodup := pk.nodup_iff.mpr (List.nodup_cons.mpr ⟨hnk, nd⟩)
    have m1 : ∀ i, (S i || decide (i = k)) = true ↔ i ∈ es1.toList.map keyT := fun i => by
      rw [Bool.or_eq_true, decide_eq_true_eq, hm i, pk.mem_iff, List.mem_cons]
      exact Or.comm
    have hsz : es1.size = n + 1 := by rw [← Array.length_toList, pc.length_eq, List.length_cons, Array.length_toList, hn]
    have hb1 : es1.size < scanBound := by rw [hsz]; exact room
    have hled : w.params.followText "set-order" = true ∨ t1.led = true := hl.imp id fun z => by rw [hl1]; exact z
    have fin : ∀ h', Heap.SameBut a s.heap h' → SetT w h' a (fun j => S j || decide (j = k)) es1.size → Q true { s with heap := h' } := fun h' sb r => by
      have q := hQ h' sb
      rw [hSk] at q
      rw [hsz] at r
      exact q r
    refine wpAny_bind (hgw _ ?_)
    split
    · refine wpAny_bind ?_
      rw [hashByValue_scannable 8 hsc]
      refine wpAny_pure ?_
      refine setT_add_tail ?_ ho hex hd g1 nd1 m1 hb1 ?_ ?_ ?_ ?_
      · intro b s₁ Q' q; cases b <;> first | exact wpAny_pure q | exact wpAny_rule q
      · first | (split <;> first | exact hf1 | exact SetTable.fits_plain_off hf1) | exact hf1
      · first | (split <;> exact hr1) | exact hr1
      · first | (split <;> exact hled) | exact hled
      · intro h' sb r; dsimp only; exact wpAny_pure (fin h' sb r)
    · refine wpAny_bind (wpAny_pure ?_)
      simp only [↓reduceIte]
      refine setT_add_tail ?_ ho hex hd g1 nd1 m1 hb1 hf1 hr1 hled ?_
      · intro b s₁ Q' q; cases b <;> first | exact wpAny_pure q | exact wpAny_rule q
      · intro h' sb r; dsimp only; exact wpAny_pure (fin h' sb r)

end
theorem setT_new_at {w : World} {h : Heap} {a : Addr} {ns : List Str} (ho : h.get? a = some { cls := .type "set", dict := none, data := .set #[] 0 (.fresh 0 0 (!w.params.followText "set-order")) }) : SetT w h a (fun j => decide (j ∈ ns.take 0)) 0 :=
  ⟨_, #[], 0, _, ho, ⟨rfl, rfl, rfl⟩, rfl, (fun e he => by simp at he), (by simp), (fun k => by simp), (by decide), (by rfl), rfl, List.Pairwise.nil, by
    show _ ∨ (!w.params.followText "set-order") = true
    cases w.params.followText "set-order"
    · exact .inr rfl
    · exact .inl rfl⟩
section
variable {P : Program} {w : World} {A : Around} {E : Value → Shared → Prop} {s : Shared}
theorem set_update_strs {I : Addr} {fp wr : List Addr} {G : Array GenState → Array GenState → Prop} {n : Nat} {Pv : Nat → Value → Prop} {St : Nat → Shared → Prop} {R : Result → Shared → Prop}
    (W : WalksS P w A.in1 I fp wr G n Pv St) (S : Addr) (hSf : S ∉ fp) (ns : List Str) (hn : n = ns.length) (hb : ns.length + 1 < scanBound) (hval : ∀ i v, Pv i v → ∃ k t, ns[i]? = some k ∧ v = .str k t) :
    ∀ (k i : Nat) (s : Shared), n - i = k → i ≤ n → St i s → (∃ c, c ≤ i ∧ SetT w s.heap S (fun j => decide (j ∈ ns.take i)) c) →
      (∀ s' c, Moved (S :: wr) G s s' → c ≤ n → SetT w s'.heap S (fun j => decide (j ∈ ns)) c → R (.ok (.ret .none)) s') →
      codeAny (model P w) A (.builtin "set.update.loop" ⟨[.ref S, .ref I], []⟩) R s := by
  have hSw : S ∉ wr := fun h => hSf (W.sub _ h)
  have hsub : ∀ b ∈ wr, b ∈ S :: wr := fun b hb => List.mem_cons_of_mem _ hb
  intro k
  induction k with
  | zero =>
    intro i s hk' hi hst ⟨c, hc, hS⟩ hR
    have hin : i = n := by omega
    subst hin
    refine codeAny_builtin F.entry_set_update_loop ?_
    rw [Around.under_plainId F.plain_set_update_loop _]
    show wpAny _ A.in1 (pyNext (.ref I) >>= _) _ _ s
    refine wpAny_bind (W.done s _ _ hst fun s' hm => ?_)
    show wpAny _ A.in1 (ret Value.none) _ _ s'
    have e : ns.take i = ns := List.take_of_length_le (by omega)
    rw [e] at hS
    exact wpAny_pure (hR s' c (hm.mono hsub) hc (hS.at fun o e => hm.heap S o hSw e))
  | succ k ih =>
    intro i s hk' hi hst ⟨c, hc, hS⟩ hR
    have hlt : i < n := by omega
    refine codeAny_builtin F.entry_set_update_loop ?_
    rw [Around.under_plainId F.plain_set_update_loop _]
    show wpAny _ A.in1 (pyNext (.ref I) >>= _) _ _ s
    refine wpAny_bind (W.item i s _ _ hlt hst fun v s' hP hst' hm => ?_)
    obtain ⟨z, t, hz, rfl⟩ := hval i v hP
    have hS' : SetT w s'.heap S (fun j => decide (j ∈ ns.take i)) c := hS.at fun o e => hm.heap S o hSw e
    show wpAny _ A.in1 (holding [Value.str z t] (setAdd S (.str z t)) >>= _) _ _ s'
    refine wpAny_bind (wpAny_holding ?_)
    unfold setAdd
    refine wpAny_holding ?_
    refine wpAny_bind ((PySem.strKind P w).pyHash (k := z) (strKind_is _ _ _ _) ?_)
    refine setT_add_hashed (s := { s' with toks := s'.toks + 1 }) hS' (by omega) fun h' hsb hS2 => ?_
    have hS3 : SetT w h' S (fun j => decide (j ∈ ns.take (i + 1))) (if decide (z ∈ ns.take i) = true then c else c + 1) := hS2.congr fun j => by
      rw [List.take_add_one, hz]
      simp [List.mem_append]
    have hc3 : (if decide (z ∈ ns.take i) = true then c else c + 1) ≤ i + 1 := by
      split <;> omega
    refine wpAny_pure ⟨plainId_quiet F.plain_set_update_loop _, ih (i + 1) _ (by omega) hlt (W.frame _ s' _ _ hst' (Nat.le_succ _) fun b hb o e => ?_) ⟨_, hc3, hS3⟩ fun s'' c2 hm'' hc'' hS'' => ?_⟩
    · rw [hsb.2 b (fun h : b = S => hSf (by rw [← h]; exact hb))]; exact e
    · refine hR s'' c2 (Moved.trans W.gtrans ((hm.mono hsub).then_heap (Nat.le_succ _) fun b o hb e => ?_) hm'') hc'' hS''
      rw [hsb.2 b (fun h : b = S => hb (by rw [h]; exact List.mem_cons_self))]; exact e
end
end VI
namespace VI
open PySem PySem.Spec PyProof.Rows L2
theorem fills_s {P : Program} {w : World} {s : Shared} {ns : List Str} {n u : Nat} {Pv : Nat → Value → Prop} (hn : n = ns.length) (hfew : ns.length + 1 < scanBound) (getv : ∀ i v, Pv i v → ∃ k t, ns[i]? = some k ∧ v = .str k t) :
    Fills P w s u n Pv fun h' => ∃ c, SetT w h' s.heap.objs.size (fun j => decide (j ∈ ns)) c := by
  intro A' I fp wr G St W s0 R sf hw au hh st0 nw old hR
  refine set_update_strs W s.heap.objs.size sf ns hn hfew getv (n - 0) 0 s0 rfl (Nat.zero_le _) st0 ⟨0, Nat.le_refl 0, setT_new_at nw⟩ fun s' c hm _ R2 => hR s' hm ⟨c, R2⟩ fun b o e => ?_
  exact hm.heap b o (fun hb => by
    rcases List.mem_cons.mp hb with rfl | hb
    · exact Nat.lt_irrefl _ (Heap.lt_size e)
    · rw [hw b hb] at e; cases e) (old b o e)
def SetTO (w : World) (a : Addr) (S : Str → Bool) (n : Nat) : HO := .ext fun h => SetT w h a S n
section
variable {X : Cx}
theorem setTO_new {w : World} {P : Program} {H : Hp} {h : Heap} {a : Addr} {S : Str → Bool} {n : Nat} (R : SetT w h a S n) : ObjOk P w H h a (SetTO w a S n) := by
  have ⟨o, _, _, _, ho, _⟩ := R
  exact ⟨R, ⟨o, ho⟩, fun h1 h2 p k => SetT.at p k⟩
theorem setTO_get {pins : List (Addr × Obj)} {σ : L2.St} {H : Hp} {s : Shared} {a : Addr} {S : Str → Bool} {n : Nat} (I : Inv X pins σ H s) (ha : H a = some (SetTO X.w a S n)) : SetT X.w s.heap a S n := (I.hok a _ ha).1
theorem setT_len {w : World} {h : Heap} {a : Addr} {ns : List Str} {c : Nat} (R : SetT w h a (fun j => decide (j ∈ ns)) c) : SetT w h a (fun j => decide (j ∈ ns)) (nub ns).length := by
  obtain ⟨o, es, ep, t, h1, h2, h3, h4, h5, h6, h7, h8, h9, r⟩ := R
  have pm := perm_nub h5 fun k => ((h6 k).symm.trans (by simp) : k ∈ es.toList.map keyT ↔ k ∈ ns)
  have e : es.size = (nub ns).length := by rw [← pm.length_eq, List.length_map, Array.length_toList]
  exact ⟨o, es, ep, t, h1, h2, h3, h4, h5, h6, h7, h8, e, r⟩
theorem getv_strs {ns : List Str} {items : Array Value} (h : StrsAre items.toList ns) (i : Nat) (v : Value) (hv : items[i]? = some v) : ∃ k t, ns[i]? = some k ∧ v = .str k t := by
  obtain ⟨y, t, e1, e2⟩ := StrsAre.item h i v (by rw [Array.getElem?_toList]; exact hv)
  exact ⟨y, t, e2, e1⟩
theorem strs_of_vals : ∀ {ns : List Str} {us : List Value}, Vals (ns.map V.str) us → StrsAre us ns
  | [], _, .nil => .nil
  | k :: ns, _, .cons r t => by
    obtain ⟨tk, rfl⟩ := r
    exact .cons _ _ (strs_of_vals t)
/-- set(texts) -/
def rSetS (K : PySem.W.Frag) (w : World) : List V → Hp → VK → Prop := fun xs H Q => ∃ (l : Addr) (ns : List Str), xs = [V.ref l] ∧ (SqL K H l (ns.map V.str) ∨ SqT K H l (ns.map V.str)) ∧ ns.length < 1000 ∧
  ∀ a, H a = none → Q (.ref a) (upd H a (SetTO w a (fun j => decide (j ∈ ns)) (nub ns).length))
theorem cr_setS (hc : X.calm = true) : CallR X (.type "set") (rSetS X.K X.w) := by
  intro pins s σ H xs us Q I r h
  obtain ⟨l, ns, rfl, hl, hf, q⟩ := h
  rw [Vals.ref1 r]
  have hn : H s.heap.objs.size = none := I.hok.fresh (Nat.le_refl _)
  have fin : ∀ (h' : Heap) (tk : Nat), (∃ c, SetT X.w h' s.heap.objs.size (fun j => decide (j ∈ ns)) c) → (∀ b o, s.heap.get? b = some o → h'.get? b = some o) →
      ∃ y H', Inv X pins σ H' { s with heap := h', toks := tk } ∧ RelV y (.ref s.heap.objs.size) ∧ Q y H' := fun h' tk ⟨c, R⟩ k =>
    ⟨.ref s.heap.objs.size, _, I.laid (t' := tk) k (Nat.le_refl _) (setTO_new (setT_len R)), rfl, q _ hn⟩
  rcases hl with hl | hl
  · obtain ⟨its, rv, pl, hz⟩ := I.list hl
    have ev : StrsAre its.toArray.toList ns := by simpa using strs_of_vals rv
    have el : its.toArray.size = ns.length := by have := rv.length; simp at this; simp [this]
    exact call_set_list (P := X.prog) (w := X.w) (I.ok.hd hc) pl.isList (fills_s el (by unfold scanBound; omega) (getv_strs ev)) fin
  · obtain ⟨its, rv, pl, hz⟩ := I.tuple hl
    have ev : StrsAre its.toArray.toList ns := by simpa using strs_of_vals rv
    have el : its.toArray.size = ns.length := by have := rv.length; simp at this; simp [this]
    exact call_set_tuple (P := X.prog) (w := X.w) (I.ok.hd hc) pl (fills_s el (by unfold scanBound; omega) (getv_strs ev)) fin
/-- sorted(set of texts) -/
def rSortS (w : World) : List V → Hp → VK → Prop := fun vs H Q => ∃ (a : Addr) (S : Str → Bool) (n : Nat), vs = [V.ref a] ∧ H a = some (SetTO w a S n) ∧
  ∀ (ks : List Str) (p : Addr), ks.Nodup → (∀ k, k ∈ ks ↔ S k = true) → H p = none → Q (.ref p) (upd H p (.lst ((ks.mergeSort (W.dataLe false PyData.str)).map V.str)))
theorem texts_of {w : World} : ∀ {vs : List Value}, (∀ v ∈ vs, ∃ k tk, v = Value.str k tk) → W.EachIs (fun v (x : Str) => RelV (.str x) v) vs (vs.map fun v => match v with | .str k _ => k | _ => Str.empty)
  | [], _ => .nil
  | v :: vs, h => by
    obtain ⟨k, tk, rfl⟩ := h v List.mem_cons_self
    exact .cons ⟨tk, rfl⟩ (texts_of (w := w) fun u hu => h u (List.mem_cons_of_mem _ hu))
theorem each_reads {h : Heap} {a : Addr} : ∀ {vs : List Value} {ks : List Str}, W.EachIs (fun v (x : Str) => RelV (.str x) v) vs ks → W.EachIs (fun v (x : Str) => ∃ as, Reads h v (PyData.str x) as ∧ a ∉ as) vs ks
  | _, _, .nil => .nil
  | _, _, .cons r t => by
    obtain ⟨tk, rfl⟩ := r
    exact .cons ⟨[], .str _ _, by simp⟩ (each_reads t)
theorem each_texts : ∀ {ks : List Str} {vs : List Value}, W.EachIs (fun v (x : Str) => RelV (.str x) v) vs ks → Vals (ks.map V.str) vs
  | _, _, .nil => .nil
  | _, _, .cons r t => .cons r (each_texts t)
theorem cr_sortS (hc : X.calm = true) (hu : X.A.units + 64 < cLine) : CallR X (.builtin "sorted") (rSortS X.w) := by
  intro pins s σ H vs us Q I r h
  obtain ⟨a, S, n, rfl, ha, q⟩ := h
  obtain ⟨ob, es, ep, t, hob, hex, hdt, g, nd, hm, hb, hf, hsz, hr, hl⟩ := setTO_get I ha
  rw [Vals.ref1 r]
  refine Calls.call_function_entry kind_sorted plain_sorted entry_sorted (args_sorted1 _) ?_
  unfold Builtin.«sorted»
  refine wpAny_bind (m := checkCount "sorted" 1 1 _) (wpAny_pure ?_)
  refine wpAny_bind (collect_set (A := X.A.in1) (I.ok.hd hc) ⟨ob, hob, hex.1, hdt⟩ hf hb hr hl fun s1 vs k1 hz g1 o1 pm => ?_)
  have hst : ∀ v ∈ vs, ∃ k tk, v = Value.str k tk := fun v hv => by
    obtain ⟨e, he, q⟩ := List.mem_map.mp (pm.mem_iff.mp hv)
    obtain ⟨k, tk, h1, _⟩ := g e he
    exact ⟨k, tk, by rw [← q]; exact h1⟩
  obtain ⟨ks, hks⟩ : ∃ ks : List Str, ks = vs.map fun v => match v with | .str k _ => k | _ => Str.empty := ⟨_, rfl⟩
  have eks : W.EachIs (fun v (x : Str) => RelV (.str x) v) vs ks := hks ▸ texts_of (w := X.w) hst
  have pk : ks.Perm (es.toList.map keyT) := by
    have q := pm.map fun v : Value => match v with | .str k _ => k | _ => Str.empty
    rw [List.map_map] at q
    rw [hks]
    exact q
  have few : vs.length < 4096 := by rw [pm.length_eq, List.length_map, Array.length_toList]; exact hb
  have fewk : ks.length < 4096 := by rw [pk.length_eq, List.length_map, Array.length_toList]; exact hb
  refine wpAny_bind (wpAny_newList ?_ (by rw [sizeLine_eq]; omega))
  have hoL : (s1.heap.push (seqObj "list" vs.toArray 0)).get? s1.heap.objs.size = some (seqObj "list" vs.toArray 0) := Heap.get?_push_size _ rfl
  have al : W.AllAlike (ks.map PyData.str) := fun d hd e he => by
    obtain ⟨x, _, rfl⟩ := List.mem_map.mp hd
    obtain ⟨y, _, rfl⟩ := List.mem_map.mp he
    rfl
  have so : W.Sortable (ks.map PyData.str) := .inr fun d hd => by
    obtain ⟨x, _, rfl⟩ := List.mem_map.mp hd
    exact ⟨fun z => (nomatch z), fun xs z => (nomatch z)⟩
  refine wpAny_bind (wpAny_holding (W.list_sort_data (s := { s1 with heap := s1.heap.push (seqObj "list" vs.toArray 0) }) (bs := ks) (enc := PyData.str) (R := fun v x => RelV (.str x) v) hoL eks
    (each_reads eks) al so (by rw [sizeLine_eq]; omega)
    (fun p hp => by simp [PyData.depth]; omega) fun out ho he => ?_))
  obtain ⟨c, hcp⟩ := sortedHeap_at (vs := vs) (out := out.toArray) hoL
  have hn' : H s1.heap.objs.size = none := I.hok.fresh hz
  have old : ∀ b o, s.heap.get? b = some o → (sortedHeap (s1.heap.push (seqObj "list" vs.toArray 0)) s1.heap.objs.size vs out.toArray).get? b = some o := fun b o e => by
    have k := k1 b o e
    have hlt := Heap.lt_size k
    rw [sortedHeap_old (Nat.ne_of_lt hlt) (by rw [size_push']; exact Nat.lt_succ_of_lt hlt)]
    exact Heap.get?_push_of_some _ k
  have J : Inv X pins σ (upd H s1.heap.objs.size (.lst ((ks.mergeSort (W.dataLe false PyData.str)).map V.str))) { s with heap := sortedHeap (s1.heap.push (seqObj "list" vs.toArray 0)) s1.heap.objs.size vs out.toArray, gens := s1.gens, drawn := s1.drawn, toks := s1.toks } :=
    I.call (ch := []) (Un.laid old hz hn') (I.hok.laid old hz ⟨by rw [List.length_map, List.length_mergeSort, sizeLine_eq]; omega, out, c, each_texts he, hcp⟩) (by rw [g1]; exact I.bare) (fun _ z => nomatch z)
  have e : ({ s1 with heap := sortedHeap (s1.heap.push (seqObj "list" vs.toArray 0)) s1.heap.objs.size vs out.toArray } : Shared) = { s with heap := sortedHeap (s1.heap.push (seqObj "list" vs.toArray 0)) s1.heap.objs.size vs out.toArray, gens := s1.gens, drawn := s1.drawn, toks := s1.toks } := by
    cases s1
    cases s
    cases o1
    rfl
  refine wpAny_pure ⟨_, rfl, ?_⟩
  rw [e]
  exact ⟨.ref _, _, J, rfl, q ks _ (pk.nodup_iff.mpr nd) (fun k => by rw [pk.mem_iff, ← hm k]) hn'⟩
end
end VI
namespace VI
open PySem PySem.Spec PyProof.Rows L2 HT
/-! ### x[::-1]: tuples, texts -/
section
variable {prog : Program} {w : World} {A : Around} {E : Value → Shared → Prop} {s : Shared}
theorem adjust_rev (n : Nat) : Builtin.Slice.sliceAdjust none none (-1) (n : Int) = ((n : Int) - 1, -1) := rfl
theorem places_rev (n : Nat) : Builtin.Slice.slicePlaces ((n : Int) - 1) (-1) (-1) = n := by
  unfold Builtin.Slice.slicePlaces
  have h1 : ¬ ((-1 : Int) > 0) := by omega
  simp only [h1, if_false]
  split
  · rw [show (-(-1) : Int) = 1 by decide, Int.ediv_one]; omega
  · have : n = 0 := by omega
    subst this; rfl
theorem sliceApplied_rev {sl : Addr} {vk : Value} {n : Nat} {Q : Int × Int × Nat → Shared → Prop} (hs : s.heap.IsSliceOf sl .none .none vk) (pk : IsPart vk (some (-1)))
    (h : Q ((n : Int) - 1, -1, n) s) : wpAny (model prog w) A (Builtin.Slice.sliceApplied (.ref sl) (pure (n : Int))) Q E s := by
  obtain ⟨os, hos, hcs, hds⟩ := id hs
  unfold Builtin.Slice.sliceApplied Builtin.Slice.sliceFields
  refine wpAny_bind (wpAny_bind (wpAny_field hos hds (x := .none) rfl (wpAny_bind (wpAny_field hos hds (x := .none) rfl (wpAny_bind (wpAny_field hos hds (x := vk) rfl (wpAny_pure ?_)))))))
  refine wpAny_bind (slicePart_ pk ?_)
  show wpAny _ _ (if ((-1 : Int) == 0) = true then _ else _) _ _ s
  rw [if_neg (by decide)]
  refine wpAny_bind (slicePart_none (wpAny_bind (slicePart_none (wpAny_bind (wpAny_pure ?_)))))
  show wpAny _ _ (match Builtin.Slice.sliceAdjust none none (-1) (n : Int) with | (lo, hi) => pure (lo, (-1 : Int), Builtin.Slice.slicePlaces lo hi (-1))) _ _ s
  rw [adjust_rev]
  show wpAny _ _ (pure ((n : Int) - 1, (-1 : Int), Builtin.Slice.slicePlaces ((n : Int) - 1) (-1) (-1))) _ _ s
  rw [places_rev]
  exact wpAny_pure h
theorem fm_congr {α β : Type} {f g : α → Option β} : ∀ {l : List α}, (∀ a ∈ l, f a = g a) → l.filterMap f = l.filterMap g
  | [], _ => rfl
  | a :: l, h => by
    rw [List.filterMap_cons, List.filterMap_cons, h a List.mem_cons_self, fm_congr fun b hb => h b (List.mem_cons_of_mem _ hb)]
theorem pick_rev (xs : Array Value) : ((List.range xs.size).filterMap fun (m : Nat) => xs[(((xs.size : Int) - 1) + (m : Int) * (-1)).toNat]?).toArray = xs.toList.reverse.toArray := by
  have e : (List.range xs.size).filterMap (fun (m : Nat) => xs[(((xs.size : Int) - 1) + (m : Int) * (-1)).toNat]?) = ((List.range xs.size).map fun k => xs.size - 1 - k).filterMap (xs[·]?) := by
    rw [List.filterMap_map]
    refine fm_congr fun m hm => ?_
    have : (((xs.size : Int) - 1) + (m : Int) * (-1)).toNat = xs.size - 1 - m := by
      have := List.mem_range.mp hm
      omega
    rw [this]; rfl
  rw [e, PySem.W.krv_range, List.filterMap_reverse, PySem.W.krv_all]
theorem getItem_tuple_rev {t sl : Addr} {items : Array Value} {vk : Value} {Q : Value → Shared → Prop} (ht : IsTup s.heap t items) (hs : s.heap.IsSliceOf sl .none .none vk) (pk : IsPart vk (some (-1)))
    (h : Q (.ref s.heap.objs.size) { s with heap := s.heap.push { cls := .type "tuple", data := .seq items.toList.reverse.toArray } })
    (hsz : items.size ≤ sizeLine) : wpAny (model prog w) A (getItem (.ref t) (.ref sl)) Q E s := by
  have htake : sizeOk (.seq items.toList.reverse.toArray) := by
    show items.toList.reverse.toArray.size ≤ sizeLine
    simpa using hsz
  obtain ⟨os, hos, hcs, hds⟩ := id hs
  have hTs : s.TypeIs (.ref sl) "slice" := ⟨os, hos, hcs⟩
  unfold getItem
  try with_reducible refine wpAny_holding ?_
  first | refine wpAny_bind (wpAny_pure ?_) | skip
  refine wpAny_bind (wpAny_sequenceKey ht.typeIs (by decide) ?_)
  refine wpAny_bind (wpAny_callSpecial?_slot (name := Str.ofString "__getitem__") ht.typeIs PyProof.Rows.slot_tuple_getitem
    (wpAny_call_entry PyProof.Rows.slot_tuple_getitem ht.typeIs entry_tuple_getitem ?_ (args_tuple_getitem _ _)))
  show wpAny _ _ (Builtin.Tuple.tupleItemsOf (.ref t) >>= _) _ _ s
  refine wpAny_bind (tupleItemsOf_ ht ?_)
  refine wpAny_bind (wpAny_typeOf hTs ?_)
  rw [if_pos (by decide)]
  refine wpAny_bind (sliceApplied_rev hs pk ?_)
  have hno : ¬ ((((items.size : Int) - 1) == 0 && (-1 : Int) == 1 && items.size == items.size) = true) := by
    intro q
    rw [Bool.and_eq_true, Bool.and_eq_true] at q
    exact absurd q.1.2 (by decide)
  show wpAny _ _ (if (((items.size : Int) - 1) == 0 && (-1 : Int) == 1 && items.size == items.size) = true then _ else _) _ _ s
  rw [if_neg hno, pick_rev]
  first
    | exact wpAny_bind (m := Builtin.Tuple.tupleExact _) (wpAny_newObj_type (wpAny_pure ⟨_, rfl, wpAny_pure h⟩) htake)
    | exact wpAny_bind (m := Builtin.Tuple.tupleExact _) (wpAny_newObj_type (wpAny_bind (wpAny_pure (wpAny_pure ⟨_, rfl, wpAny_pure h⟩))) htake)
    | exact wpAny_bind (wpAny_bind (m := Builtin.Tuple.tupleExact _) (wpAny_newObj_type (wpAny_pure (wpAny_pure ⟨_, rfl, wpAny_pure h⟩)) htake))
    | exact wpAny_bind (wpAny_bind (m := Builtin.Tuple.tupleExact _) (wpAny_newObj_type (wpAny_pure ⟨_, rfl, wpAny_pure h⟩) htake))
end
/-- a text turned round -/
def revS (x : Str) : Str := ⟨x.cps.toList.reverse.toArray⟩
theorem picked_rev (x : Str) : (Builtin.Str.strSliceIndices none none (-1) x.length).filterMap (x.cps[·]?) = x.cps.toList.reverse := by
  have e : Builtin.Str.strSliceIndices none none (-1) x.length = sliceRange ((x.cps.size : Int) - 1) (-1) (-1) := rfl
  rw [e, PySem.W.krv_sliceRange, PySem.W.krv_range, List.filterMap_reverse, PySem.W.krv_all]
def rRev (K : PySem.W.Frag) : V → Hp → VK → Prop := fun x H1 Q => (∃ a xs, x = .ref a ∧ SqL K H1 a xs ∧ ∀ p, H1 p = none → Q (.ref p) (upd H1 p (.lst xs.reverse))) ∨
  (∃ a xs, x = .ref a ∧ SqT K H1 a xs ∧ ∀ p, H1 p = none → Q (.ref p) (upd H1 p (.tup xs.reverse))) ∨ ∃ t, x = .str t ∧ t.length ≤ sizeLine ∧ Q (.str (revS t)) H1
def tRevA (K : PySem.W.Frag) (te : TE) : TE := fun σ H Q => te σ H fun x H1 => rRev K x H1 Q
theorem pe_revA {X : Cx} {e : Expr} {te : TE} {k : Nat} {p1 p2 p3 pos : Pos} (he : PE X e te) : PE X (.Subscript e (.Slice none none (some (.UnaryOp .USub (.Constant (.int 1) k p1) p2)) p3) pos) (tRevA X.K te) := by
  refine ⟨fun pins s σ H Q I h => ?_⟩
  refine Subscript_ (thn (he.run pins s σ H _ I h) fun v s1 ⟨x, H1, I1, r1, q1⟩ => ?_)
  have hst : PO X (some (.UnaryOp .USub (.Constant (.int 1) k p1) p2)) (tPart (tUn (rU fun i => .int (-i)) (tC (.int 1)))) := po_some (pe_un un_neg pe_int)
  refine wpAny_Slice (thn (po_none.run pins s1 σ H1 (fun o H2 => o = none ∧ H2 = H1) I1 ⟨rfl, rfl⟩) fun vl s2 ⟨l, H2, I2, pl, el, e2⟩ => ?_)
  subst el e2
  refine thn (po_none.run pins s2 σ H2 (fun o H3 => o = none ∧ H3 = H2) I2 ⟨rfl, rfl⟩) fun vu s3 ⟨u, H3, I3, pu, eu, e3⟩ => ?_
  subst eu e3
  refine thn (hst.run pins s3 σ H3 (fun o H4 => o = some (-1) ∧ H4 = H3) I3 ⟨1, rfl, -1, rfl, rfl, rfl⟩) fun vs s4 ⟨o, H4, I4, ps, eo, e4⟩ => ?_
  subst eo e4
  have I5 : Inv X pins σ H4 { s4 with heap := s4.heap.push { cls := .type "slice", data := .fields #[vl, vu, vs] } } := I4.kept (t' := s4.toks) fun b ob q => Heap.get?_push_of_some _ q
  show wpAny (model X.prog X.w) X.A (subscriptTail e (.Slice none none (some (.UnaryOp .USub (.Constant (.int 1) k p1) p2)) p3) v (.ref s4.heap.objs.size)) (EP X pins σ Q) X.xe { s4 with heap := s4.heap.push { cls := .type "slice", data := .fields #[vl, vu, vs] } }
  rcases q1 with ⟨a, xs, ex, hx, q⟩ | ⟨a, xs, ex, hx, q⟩ | ⟨t, ex, hz, q⟩
  · subst ex
    cases r1
    obtain ⟨its, r, ht, hz⟩ := I5.list hx
    have hlen := r.length
    refine tail_any (ops := [.ref a, .ref s4.heap.objs.size]) ht.isList.typeIs (PySem.slot_list_getitem.lookup) ?_ (by with_unfolding_all rfl)
    refine wpAny_getItem_list_slice ht.isList (Heap.IsSliceOf.new _ vl vu vs) pl pu ps (by decide) ?_ (by rw [List.size_toArray]; omega)
    rw [PySem.W.krv_pick]
    refine ⟨.ref _, _, I5.laid (t' := s4.toks) (o := .lst xs.reverse) (fun b ob q => Heap.get?_push_of_some _ q) (Nat.le_refl _) ?_, rfl, q _ (I5.hok.fresh (Nat.le_refl _))⟩
    exact ⟨by rw [List.length_reverse]; exact hz, _, 0, r.reverse, Heap.get?_push_size _ rfl⟩
  · subst ex
    cases r1
    obtain ⟨its, r, ht, hz⟩ := I5.tuple hx
    have hlen := r.length
    cases pl
    cases pu
    refine tail_any (ops := [.ref a, .ref s4.heap.objs.size]) ht.typeIs (PyProof.Rows.slot_tuple_getitem.lookup) ?_ (by with_unfolding_all rfl)
    refine getItem_tuple_rev ht (Heap.IsSliceOf.new _ _ _ vs) ps ?_ (by rw [List.size_toArray]; omega)
    refine ⟨.ref _, _, I5.laid (t' := s4.toks) (o := .tup xs.reverse) (fun b ob q => Heap.get?_push_of_some _ q) (Nat.le_refl _) ?_, rfl, q _ (I5.hok.fresh (Nat.le_refl _))⟩
    exact ⟨by rw [List.length_reverse]; exact hz, _, r.reverse, ⟨_, Heap.get?_push_size _ rfl, rfl, 0, rfl⟩⟩
  · subst ex
    obtain ⟨tk, rfl⟩ := r1
    cases pl
    cases pu
    obtain ⟨u, rfl, hu⟩ := IsPart.raw ps
    cases u with
    | none => cases hu
    | some u =>
      obtain ⟨i, ui⟩ := u
      have hi : i = -1 := by simpa using hu
      subst hi
      refine tail_any (ops := [.ref s4.heap.objs.size, .str t tk]) (typeIs_str _ _ _) (F.slot_str_getitem.lookup) ?_ (by with_unfolding_all rfl)
      refine wpAny_getItem_str_slice (l := none) (u := none) (st := some (-1, ui)) ⟨_, Heap.get?_push_size _ rfl, rfl, rfl⟩ rfl ?_
      show Made.post (if ((-1 : Int) == 1 && (Builtin.Str.strSliceIndices none none (-1) t.length).length == t.length) = true then Made.val (.str t tk)
        else Made.str ⟨((Builtin.Str.strSliceIndices none none (-1) t.length).filterMap (t.cps[·]?)).toArray⟩) (EP X pins σ Q) _
      rw [if_neg (by simp), picked_rev]
      refine ⟨?_, .str _, H4, I5.tok _, ⟨_, rfl⟩, q⟩
      show t.cps.toList.reverse.toArray.size ≤ sizeLine
      rw [List.size_toArray, List.length_reverse, Array.length_toList]
      exact hz
end VI
namespace VI
open PySem PySem.Spec PyProof.Rows L2 HT
/-! ### a list so many times -/
theorem rmul_any (a : Int) (t : Tok) (l : Addr) (items : Array Value) (n : Nat) (o : Obj) (hc : o.cls = .type "list") (hd : o.data = .seq items n) :
    Meets (Builtin.«int.__rmul__» ⟨[.int a t, .ref l], []⟩) (fun _ R s => s.heap.get? l = some o ∧ R (.ok (.ret Value.notImplemented)) s) :=
  .of_wp fun prog w A R s h => by
    obtain ⟨c, dd, data, sl⟩ := o
    simp only at hc hd
    subst hc hd
    obtain ⟨hp, g, d, tk, os⟩ := s; obtain ⟨hl, h⟩ := h; wp_walk; exact ⟨_, rfl, h⟩
theorem mul_any (l : Addr) (items : Array Value) (n : Nat) (x : Int) (u : Tok) (o : Obj) (hc : o.cls = .type "list") (hd : o.data = .seq items n) (hc0 : ¬(!Builtin.List.listFitsIndex x) = true) (hc1 : ¬items.size * x.toNat > (2 ^ 63 - 1) / 8) (hc2 : ¬Builtin.List.listTooLong (items.size * x.toNat) = true) :
    Meets (Builtin.«list.__mul__» ⟨[.ref l, .int x u], []⟩) (fun _ R s => s.heap.get? l = some o ∧ R (.ok (.ret (Value.ref s.heap.objs.size))) { s with heap := s.heap.push { cls := Value.type "list", data := Data.seq (List.foldl (fun x1 x2 => x1 ++ x2) #[] (List.replicate (if items.isEmpty = true then 0 else x.toNat) items)) }, toks := s.toks }) :=
  .of_wp fun prog w A R s h => by
    obtain ⟨c, dd, data, sl⟩ := o
    simp only at hc hd
    subst hc hd
    obtain ⟨hp, g, d, tk, os⟩ := s; obtain ⟨hl, h⟩ := h
    have hsz := AutoListH.joined_fits hc2
    wp_walk; refine wpAny_ite_false (decide_eq_false (Nat.not_lt.mpr hsz)) ?_; wp_walk; exact ⟨_, rfl, h⟩
def rRepL (K : PySem.W.Frag) : R2 := fun x y H Q => ∃ l k xs, x = .ref l ∧ y = .int k ∧ SqL K H l xs ∧ -(2 ^ 63) ≤ k ∧ k < 2 ^ 63 ∧ xs.length * k.toNat ≤ sizeLine ∧
  ∀ p, H p = none → Q (.ref p) (upd H p (.lst (List.replicate k.toNat xs).flatten))
theorem op_repL {X : Cx} : OpR X (binaryOp .Mult) (rRepL X.K) := by
  intro pins s σ H x y v u Q I rx ry h
  obtain ⟨l, k, xs, rfl, rfl, hH, h1, h2, hz, q⟩ := h
  cases rx
  obtain ⟨t, rfl⟩ := ry
  obtain ⟨its, r, ⟨o, n, e, hcl, hdi, hda⟩, hsz⟩ := I.list hH
  have hl : xs.length = its.length := r.length
  have hlen : its.toArray.size * k.toNat ≤ sizeLine := by rw [List.size_toArray, ← hl]; exact hz
  have hcap : ¬ its.toArray.size * k.toNat > (2 ^ 63 - 1) / 8 := by
    have : (sizeLine : Nat) ≤ (2 ^ 63 - 1) / 8 := by decide
    omega
  have hfit : ¬ (!Builtin.List.listFitsIndex k) = true := by
    rw [fitsIndex_both h1 h2]
    exact Bool.false_ne_true
  have hlong : ¬ Builtin.List.listTooLong (its.toArray.size * k.toNat) = true := by
    rw [notLongL hlen]
    exact Bool.false_ne_true
  have hnew : List.foldl (fun x1 x2 => x1 ++ x2) #[] (List.replicate (if its.toArray.isEmpty = true then 0 else k.toNat) its.toArray) = (List.replicate k.toNat its).flatten.toArray := by
    have f0 : ∀ m : Nat, List.foldl (fun x1 x2 => x1 ++ x2) #[] (List.replicate m its.toArray) = (List.replicate m its).flatten.toArray := fun m => by
      have := foldl_rep its m []
      rw [List.nil_append] at this
      exact this
    rw [f0]
    cases its with
    | nil => simp
    | cons a r' => rw [if_neg (by simp)]
  refine wpAny_binaryOp_repeat_ref (T := "list") (U := "int") (by decide) ⟨_, e, hcl⟩ (fun s' => typeIs_int s' k t) noFill_list_mul F.fills_int_mul F.slot_int_rmul repeat_list F.slot_int_index.lookup
    (call_meets F.slot_int_rmul (typeIs_int s k t) F.entry_int_rmul (F.args_int_rmul_2 _ _) (rmul_any k t l its.toArray n o hcl hda)
      ⟨e, rfl, ⟨_, e, hcl⟩, call_meets F.slot_list_mul ⟨_, e, hcl⟩ F.entry_list_mul (F.args_list_mul_2 _ _) (mul_any l its.toArray n k t o hcl hda hfit hcap hlong) ⟨e, ?_⟩⟩)
  rw [hnew]
  exact ⟨.ref _, _, I.lnew (t' := s.toks) (r.rep k.toNat) (by rw [PyProof.Rows.lm_len_rep_flat, Nat.mul_comm]; exact hz), rfl, q _ I.fresh⟩
section
variable {X : Cx} {G : Gx} {E : WX} {De : Ends} {as as' as1 : List Addr} {st st' st1 : Store} {H H' H1 : Hp} {σ : L2.St} {pos : Pos} {L : Addr → Prop}
def fMulB (a b : D) (st : Store) : Res Wv := match b with
  | .int k => match lstOf a st with
    | some (ds, _) => if 0 ≤ k ∧ k ≤ 1000 ∧ ds.length ≤ 1000 then .ok (.new (.lst (List.replicate k.toNat ds).flatten)) st else .stuck
    | none => fMulA a b st
  | _ => fMulA a b st
theorem opS_mulB : OpS G E fMulB (fun x y H Q => rRepL G.K x y H Q ∨ rMulS x y H Q ∨ rI CMul (fun i j => .int (i * j)) x y H Q ∨ rRepT G.K x y H Q) := by
  intro E' as st H d1 d2 x y Q s r1 r2 p
  unfold fMulB at p
  split at p
  · rename_i kk
    split at p
    · rename_i ds src hl
      split at p
      · rename_i h
        obtain ⟨pa, vs, rfl, h1, hr⟩ := lstOf_sq s r1 hl
        cases r2
        have e := hr.length
        have : vs.length * kk.toNat ≤ 1000 * 1000 := Nat.mul_le_mul (by rw [← e]; exact h.2.2) (by omega)
        exact .inl ⟨pa, _, vs, rfl, rfl, h1, by omega, by omega, Nat.le_trans this (by decide : 1000 * 1000 ≤ sizeLine), fun t ht => p as _ (Ext.lay ht) (s.laid ht) _ (RelW.newLst s (hr.rep _) ht)⟩
      · exact p.elim
    · exact .inr (opS_mulA (E := E) E' as st H _ _ x y Q s r1 r2 p)
  · exact .inr (opS_mulA (E := E) E' as st H _ _ x y Q s r1 r2 p)
/-! ### x[::-1] -/
def evRevA (m : EM) : EM := fun env st => (m env st).bind fun w st1 => match w.d with
  | .tup ds => .ok (.val (.tup ds.reverse)) st1
  | .str x => if x.length ≤ 100000 then .ok (.val (.str (revS x))) st1 else .stuck
  | d => match lstOf d st1 with
    | some (ds, _) => .ok (.new (.lst ds.reverse)) st1
    | none => .stuck
theorem pI_revA {e : Expr} {k : Nat} {p1 p2 p3 : Pos} {m : EM} (hK : G.K = X.K) (he : PE X e (tI G E m)) : PE X (.Subscript e (.Slice none none (some (.UnaryOp .USub (.Constant (.int 1) k p1) p2)) p3) pos) (tI G E (evRevA m)) :=
  (pe_revA he).vi fun σ H Q ⟨as, st, env, s, er, p⟩ => ⟨as, st, env, s, er, (p.bind s.len).mono fun w as1 st1 H1 e1 s1 p1 v r => by
    have rd := r.d
    revert p1 rd
    generalize w.d = d
    intro p1 rd
    rw [← hK]
    split at p1
    · rename_i ds
      cases rd with
      | @tup _ pa vs h1 hr =>
      exact .inr (.inl ⟨pa, vs, rfl, h1, fun t ht => p1 as1 _ (Ext.lay ht) (s1.laid ht) _ (RelD.newTup s1 hr.rev ht)⟩)
    · split at p1
      · rename_i x h
        cases rd
        exact .inr (.inr ⟨_, rfl, szl h, p1.now s1 _ (.str _)⟩)
      · exact p1.elim
    · split at p1
      · rename_i ds src hl
        obtain ⟨pa, vs, rfl, h1, hr⟩ := lstOf_sq s1 rd hl
        exact .inl ⟨pa, vs, rfl, h1, fun t ht => p1 as1 _ (Ext.lay ht) (s1.laid ht) _ ((RelW.newLst s1 hr.rev ht).from (fresh_of e1))⟩
      · exact p1.elim⟩
/-! ### >= of alike data -/
def rGeD (K : PySem.W.Frag) : R2 := fun x y H Q => ∃ d e, Dp K H x d ∧ Dp K H y e ∧ W.alike d e = true ∧ d ≠ .none ∧ min d.depth e.depth ≤ 60 ∧ Q (.bl (!W.dataLt d e)) H
theorem op_geD (hu : X.A.units + 64 < cLine) : OpR X (compareOp .GtE) (rGeD X.K) := by
  intro pins s σ H x y v u Q I rx ry h
  obtain ⟨d, e, hd, he, al, nn, hm, q⟩ := h
  obtain ⟨as, r1⟩ := Dp.reads I d x v hd rx
  obtain ⟨bs, r2⟩ := Dp.reads I e y u he ry
  exact W.ge_data r1 r2 al nn (by omega) ⟨.bl _, H, I, rfl, q⟩
def fGeA (a b : D) (st : Store) : Res Wv := match a, b with
  | .int i, .int j => .ok (.val (.bl (decide (j ≤ i)))) st
  | a, b => if (isPy a && isPy b && W.alike (toPy a) (toPy b) && !noneD a && shallow a b) = true then .ok (.val (.bl (leD b a))) st else .stuck
theorem opS_geA : OpS G E fGeA (fun x y H Q => rI0 (fun i j => .bl (decide (j ≤ i))) x y H Q ∨ rGeD G.K x y H Q) := by
  intro E' as st H d1 d2 x y Q s r1 r2 p
  unfold fGeA at p
  split at p
  · cases r1; cases r2
    exact .inl ⟨_, _, rfl, rfl, p.now s _ (.bl _)⟩
  · split at p
    · rename_i h
      simp only [Bool.and_eq_true, Bool.not_eq_true', shallow, decide_eq_true_eq] at h
      obtain ⟨⟨⟨⟨h1, h2⟩, h3⟩, h4⟩, h5⟩ := h
      refine .inr ⟨_, _, r1.dp h1, r2.dp h2, h3, fun z => ?_, h5, p.now s _ (.bl _)⟩
      cases d1 <;> simp [toPy, isPy, noneD] at z h1 h4
    · exact p.elim
def fUpper (o : D) (ds : List D) (st : Store) : Res Wv := match o, ds with
  | .str x, [] => if x.length ≤ 100000 then .ok (.val (.str (Txt.upper x))) st else .stuck
  | _, _ => .stuck
theorem mtS_upper : MtS' G E fUpper (fun x xs H Q => ∃ a, x = .str a ∧ xs = [] ∧ a.length ≤ 5592405 ∧ Q (.str (Txt.upper a)) H) := by
  intro E' as st H d ds x xs Q s r rs p
  unfold fUpper at p
  split at p
  · split at p
    · rename_i h
      cases r; cases rs
      exact ⟨_, rfl, rfl, by omega, p.now s _ (.str _)⟩
    · exact p.elim
  · exact p.elim
/-! ### sorted(set(..)): texts, too -/
def leT (x y : Str) : Bool := W.dataLe false PyData.str x y
def sortT (ss : List Str) : List Str := isort leT (nub ss)
theorem leT_total : W.TotalLe leT := dataLe_total PyData.str
theorem leT_anti {x y : Str} (h1 : leT x y = true) (h2 : leT y x = true) : x = y := by
  have h1 : (!W.dataLt (PyData.str y) (PyData.str x)) = true := h1
  have h2 : (!W.dataLt (PyData.str x) (PyData.str y)) = true := h2
  have e : NestedKey.text x = NestedKey.text y := key_anti (x := .text x) (y := .text y) rfl (by simpa [NestedKey.data] using h1) (by simpa [NestedKey.data] using h2)
  injection e
theorem mem_sortT {ss : List Str} {x : Str} : x ∈ sortT ss ↔ x ∈ ss := ((isort_perm _).mem_iff).trans mem_nub
def fSortSetT (ds : List D) (st : Store) : Res Wv := match ds with
  | [d] => match (colOf d st).bind strsOf with
    | some ss => if ss.length < 1000 then .ok (.new (.lst ((sortT ss).map D.str))) st else .stuck
    | none => fSortSet [d] st
  | _ => .stuck
def rSetB (K : PySem.W.Frag) (w : World) : List V → Hp → VK → Prop := fun vs H Q => rSetA K w vs H Q ∨ rSetS K w vs H Q
def rSortSetB (K : PySem.W.Frag) (w : World) : List V → Hp → VK → Prop := fun vs H Q => rSortSetA K w vs H Q ∨ rSortS w vs H Q
theorem rSetA_mono {K : PySem.W.Frag} {w : World} {vs : List V} {Q Q' : VK} (k : ∀ v H1, Q v H1 → Q' v H1) (h : rSetA K w vs H Q) : rSetA K w vs H Q' := by
  rcases h with ⟨l, ps, h1, h2, h3, h4, q⟩ | ⟨l, ns, h1, h2, h3, q⟩
  · exact .inl ⟨l, ps, h1, h2, h3, h4, fun a L a1 a2 a3 a4 => k _ _ (q a L a1 a2 a3 a4)⟩
  · exact .inr ⟨l, ns, h1, h2, h3, fun a a1 => k _ _ (q a a1)⟩
theorem rel_strs (ss : List Str) : RelDs G as L H (ss.map D.str) (ss.map V.str) := by
  induction ss with
  | nil => exact .nil
  | cons x ss ih => exact .cons (.str x) ih
theorem callS_sortSetT {w : World} : CallS G E fSortSetT (fun vs H Q => rSetB G.K w vs H fun v H1 => rSortSetB G.K w [v] H1 Q) := by
  intro E' as st H ds xs Q s r p
  unfold fSortSetT at p
  split at p
  · rename_i d
    split at p
    · rename_i ss hss
      obtain ⟨ds, hd, hs⟩ := Option.bind_eq_some_iff.mp hss
      split at p
      · rename_i hl
        cases r with
        | cons r t =>
        cases t
        obtain ⟨l, vs, rfl, h1, hr⟩ := colOf_sq s r hd
        have ev := strsOf_rel hr hs
        subst ev
        refine .inr ⟨l, ss, rfl, h1, hl, fun a ha => .inr ⟨a, _, _, rfl, upd_same, fun ks q nd hk hq => ?_⟩⟩
        have pm : ks.Perm (nub ss) := perm_nub nd fun x => by rw [hk x]; simp
        have e : ks.mergeSort (W.dataLe false PyData.str) = sortT ss := by
          show ks.mergeSort leT = sortT ss
          rw [isort_merge leT_total ks fun a _ b _ => leT_anti]
          exact isort_same leT_total pm fun a _ b _ => leT_anti
        rw [e]
        have w1 := RelW.newLst (s.laid ha (o := SetTO w a (fun j => decide (j ∈ ss)) (nub ss).length)) (vs := (sortT ss).map V.str) (ds := (sortT ss).map D.str) (rel_strs _) hq
        have hqa : q ≠ a := fun z => by rw [z, upd_same] at hq; cases hq
        exact p as _ ((Ext.lay ha).trans (Ext.lay hq) s.len) ((s.laid ha).laid hq) _ (w1.from fun b hb => (by
          by_cases hba : b = a
          · rw [hba]; exact ha
          · rw [upd_ne hba] at hb; exact hb))
      · exact p.elim
    · exact .inl (rSetA_mono (fun v H1 h => .inl h) (callS_sortSet (E := E) (w := w) E' as st H _ xs Q s r p))
  · exact p.elim
variable {Q : VK} {e : Expr} {p1 p2 : Pos} {m : EM} {ma : AM}
theorem pI_sortSetT {x1 x2 : Str} {pp : Pos} (ex1 : x1 = "sorted" := by rfl) (ex2 : x2 = "set" := by rfl) (hc : X.calm = true) (hu : X.A.units + 64 < cLine) (hK : G.K = X.K) (hg : Gl X "sorted") (hm : X.mg "sorted" = none) (hg2 : Gl X "set") (hm2 : X.mg "set" = none) (ha : PA X [e] (tAr G E ma))
    (he : starEach [e] X.env = (false, eval e X.env) :: starEach [] X.env := by rfl) : PE X (.Call (.Name "sorted" p1) [.Call (.Name "set" p2) [e] [] pp] [] pos) (tI G E (evA fSortSetT ma)) := by
  have i1 := pe_callTy (pos := pp) (p := p2) (callR_or (callR_or (cr_setN hc hu) (cr_setI hc)) (cr_setS hc)) hg2 hm2 (by decide +kernel) ha (by decide) (by decide) he rfl
  have i2 := pe_callB (pos := pos) (p := p1) (callR_or (callR_or (cr_sortedN hc hu) (cr_sortedSet hc)) (cr_sortS hc hu)) hg hm (by decide +kernel) (pa_cons i1 pa_nil (by rfl)) (by decide) (by decide) (by rfl) (by rfl)
  rw [← hK] at i2
  exact i2.vi fun _ _ _ => tI_two (callS_sortSetT (w := X.w))
end
end VI
namespace VI
open PySem PySem.Spec PyProof.Rows L2
/-! ### // by greater numbers -/
def fDivW (a b : D) (st : Store) : Res Wv := match a, b with
  | .int i, .int j => if 0 < j ∧ j.natAbs.log2 < 9000 then .ok (.val (.int (i / j))) st else .stuck
  | _, _ => .stuck
theorem opS_divW {G : Gx} {E : WX} : OpS G E fDivW (rI CDivW fun i j => .int (i / j)) := by
  intro E' as st H d1 d2 x y Q s r1 r2 p
  unfold fDivW at p
  split at p
  · cases r1; cases r2
    split at p
    · rename_i h
      exact ⟨_, _, rfl, rfl, h, p.now s _ (.int _)⟩
    · exact p.elim
  · exact p.elim
@[simp] theorem fDivW_int {i j : Int} {st : Store} : fDivW (.int i) (.int j) st = if 0 < j ∧ j.natAbs.log2 < 9000 then .ok (.val (.int (i / j))) st else .stuck := rfl
end VI
namespace VI
open PySem PySem.Spec PyProof.Rows L2
open Sem (wp)
open AutoSeq1 (wpAny_loadPart')
theorem meets_enumerate_newLT (l : Addr) (items : Array Value) (n : Nat) (dct : Option Addr) (sl : Array (Option Value)) :
    Meets (Builtin.«enumerate.__new__» ⟨[.type "enumerate", .ref l], []⟩) (fun _ R s => s.heap.get? l = some { cls := .type "tuple", dict := dct, data := .seq items n, slots := sl } ∧
      R (.ok (.ret (.ref (s.heap.push { cls := .type "tuple_iterator", data := .fields #[.ref l, .int 0 0] }).objs.size)))
        { s with heap := (s.heap.push { cls := .type "tuple_iterator", data := .fields #[.ref l, .int 0 0] }).push { cls := .type "enumerate", data := .fields #[.none, .bool false, .ref s.heap.objs.size, rawInt 0, .none, .none] } }) :=
  .of_wp fun prog w A R s h => by
    obtain ⟨hp, g, d, tk, os⟩ := s; obtain ⟨hl, h⟩ := h
    have hsub := sub_enumerate
    have hL : Heap.IsTuple (Shared.heap ⟨hp, g, d, tk, os⟩) l items := ⟨_, hl, rfl, n, rfl⟩
    wp_walk using wpAny_loadPart' hl
    refine wpAny_stack_any fun st => wpAny_pure ?_
    split
    · rename_i c _ _ _ _ _
      cases (c == Value.type "enumerate")
      · wp_walk using wpAny_loadPart' hl, wpAny_pyIter_tuple hL
        exact ⟨_, rfl, h⟩
      · wp_walk using wpAny_loadPart' hl, wpAny_pyIter_tuple hL
        exact ⟨_, rfl, h⟩
    · wp_walk using wpAny_loadPart' hl, wpAny_pyIter_tuple hL
      exact ⟨_, rfl, h⟩

section
variable {prog : Program} {w : World} {A : Around} {E : Value → Shared → Prop} {s : Shared}
theorem call_enumerate_listT {l : Addr} {items : Array Value} {Q : Value → Shared → Prop} (hL : s.heap.IsTuple l items)
    (h : ∀ h', IsEnum h' (s.heap.objs.size + 1) s.heap.objs.size 0 .none → h'.IsTupleIter s.heap.objs.size l 0 → h'.objs.size = s.heap.objs.size + 2 →
      (∀ b o, s.heap.get? b = some o → h'.get? b = some o) → Q (.ref (s.heap.objs.size + 1)) { s with heap := h' }) :
    wpAny (model prog w) A (call (.type "enumerate") [.ref l]) Q E s := by
  obtain ⟨⟨c, dct, dt, sl⟩, hl, hc, n, hd⟩ := hL
  replace hc : c = .type "tuple" := hc
  replace hd : dt = .seq items n := hd
  subst hc hd
  refine callType_new F.called_enumerate (by decide) (F.typeCall_enumerate_1 _) (F.newCall_enumerate_1 _) (fun obj => F.args_object_init_2 obj _) F.entry_enumerate_new
    (meets_enumerate_newLT l items n dct sl) ⟨hl, ?_⟩
  have hz : (s.heap.push { cls := .type "tuple_iterator", data := .fields #[.ref l, .int 0 0] }).objs.size = s.heap.objs.size + 1 := Heap.size_push ..
  show _ ∧ _
  rw [hz]
  have he : IsEnum ((s.heap.push { cls := .type "tuple_iterator", data := .fields #[.ref l, .int 0 0] }).push
      { cls := .type "enumerate", data := .fields #[.none, .bool false, .ref s.heap.objs.size, rawInt 0, .none, .none] }) (s.heap.objs.size + 1) s.heap.objs.size 0 .none := by
    have := Heap.get?_push_size (s.heap.push { cls := .type "tuple_iterator", data := .fields #[.ref l, .int 0 0] })
      (o := { cls := .type "enumerate", data := .fields #[.none, .bool false, .ref s.heap.objs.size, rawInt 0, .none, .none] }) rfl
    rw [hz] at this; exact this
  refine ⟨⟨_, he, rfl⟩, h _ he ⟨_, Heap.get?_push_of_some _ (Heap.get?_push_size _ rfl), rfl, rfl⟩ (by rw [Heap.size_push, hz]) fun b o x => Heap.get?_push_of_some _ (Heap.get?_push_of_some _ x)⟩

theorem enumerate_next_itemT {e it l : Addr} {i : Nat} {items : Array Value} {x old : Value} {Q : Value → Shared → Prop}
    (he : IsEnum s.heap e it i old) (hit : s.heap.IsTupleIter it l i) (hl : s.heap.IsTuple l items) (hx : items[i]? = some x) (hne : e ≠ it)
    (hQ : ∀ h', IsEnumOut h' e it ((i : Int) + 1) x s.heap.objs.size → h'.IsTupleIter it l (i + 1) →
      h'.get? s.heap.objs.size = some { cls := .type "tuple", data := .seq #[.int i s.toks, x] } → h'.objs.size = s.heap.objs.size + 1 →
      (∀ b o, b ≠ e → b ≠ it → s.heap.get? b = some o → h'.get? b = some o) → Q (.ref s.heap.objs.size) { s with heap := h', toks := s.toks + 1 }) :
    wpAny (model prog w) A (Builtin.«enumerate.__next__» ⟨[.ref e], []⟩) (fun fin s' => ∃ v, fin = .done (.ret v) ∧ Q v s') E s := by
  obtain ⟨hp, g, d, tk, os⟩ := s
  show wpAny _ _ (field (.ref e) 2 >>= _) _ _ _
  refine wpAny_bind (wpAny_field he rfl (x := .ref it) rfl ?_)
  refine wpAny_bind (wpAny_nextOf_tuple_item hit hl hx fun h₁ hit₁ hs₁ => ?_)
  replace hs₁ : Heap.SameBut it hp h₁ := hs₁
  have he₁ : IsEnum h₁ e it i old := (hs₁.2 e hne).trans he
  show wpAny _ _ (field (.ref e) 3 >>= _) _ _ ⟨h₁, g, d, tk, os⟩
  refine wpAny_bind (wpAny_field he₁ rfl (x := rawInt i) rfl ?_)
  show wpAny _ _ (field (.ref e) 4 >>= _) _ _ ⟨h₁, g, d, tk, os⟩
  refine wpAny_bind (wpAny_field he₁ rfl (x := .none) rfl ?_)
  show wpAny _ _ (mkInt i >>= _) _ _ ⟨h₁, g, d, tk, os⟩
  refine wpAny_bind (wpAny_mkInt ?_)
  show wpAny _ _ (setField (.ref e) 3 (rawInt ((i : Int) + 1)) >>= _) _ _ ⟨h₁, g, d, tk + 1, os⟩
  refine wpAny_bind (wpAny_setField_rec he₁ (by simp) fun h₂ he₂ hs₂ => ?_)
  replace hs₂ : Heap.SameBut e h₁ h₂ := hs₂
  replace he₂ : IsEnum h₂ e it ((i : Int) + 1) old := he₂
  show wpAny _ _ (setField (.ref e) 4 .none >>= _) _ _ ⟨h₂, g, d, tk + 1, os⟩
  refine wpAny_bind (wpAny_setField_rec he₂ (by simp) fun h₃ he₃ hs₃ => ?_)
  replace hs₃ : Heap.SameBut e h₂ h₃ := hs₃
  replace he₃ : IsEnum h₃ e it ((i : Int) + 1) old := he₃
  show wpAny _ _ (newTuple [.int i tk, x] >>= _) _ _ ⟨h₃, g, d, tk + 1, os⟩
  refine wpAny_bind (wpAny_newTuple ?_)
  have he₄ : IsEnum (h₃.push { cls := .type "tuple", data := .seq #[.int i tk, x] }) e it ((i : Int) + 1) old := Heap.get?_push_of_some _ he₃
  generalize hh₄ : h₃.push { cls := .type "tuple", data := .seq #[.int i tk, x] } = h₄ at he₄
  have hsz : h₃.objs.size = hp.objs.size := by rw [hs₃.1, hs₂.1, hs₁.1]
  have hel : e < hp.objs.size := Heap.lt_size he
  have ht₄ : h₄.get? hp.objs.size = some { cls := .type "tuple", data := .seq #[.int i tk, x] } := by rw [← hh₄, ← hsz]; exact Heap.get?_push_size _ rfl
  have hz₄ : h₄.objs.size = hp.objs.size + 1 := by rw [← hh₄, Heap.size_push, hsz]
  have hk₄ : ∀ b o, b ≠ e → b ≠ it → hp.get? b = some o → h₄.get? b = some o := fun b o hbe hbi hb => by
    rw [← hh₄]; exact Heap.get?_push_of_some _ (hs₃.extBut b o hbe (hs₂.extBut b o hbe (hs₁.extBut b o hbi hb)))
  have hit₄ : h₄.IsTupleIter it l (i + 1) := by
    rw [← hh₄]; obtain ⟨o, ho, r⟩ := (hit₁.extBut hs₂.extBut (Ne.symm hne)).extBut hs₃.extBut (Ne.symm hne); exact ⟨o, Heap.get?_push_of_some _ ho, r⟩
  show wpAny _ _ (Builtin.SmallTypes.ownedTupleIsFree (.ref e) >>= _) _ _ ⟨h₄, g, d, tk + 1, os⟩
  rw [hsz]
  clear hh₄ he₃ hs₃ he₂ hs₂ he₁ hs₁ hit₁ hsz h₃ h₂ h₁
  refine wpAny_bind ?_
  · unfold Builtin.SmallTypes.ownedTupleIsFree
    refine wpAny_bind (wpAny_field he₄ rfl (x := .none) rfl (wpAny_pure ?_))
    simp only [if_true]
    refine wpAny_bind (wpAny_rule ?_)
    refine wpAny_bind (wpAny_field he₄ rfl (x := old) rfl ?_)
    refine wpAny_bind (wpAny_setField_rec he₄ (by simp) fun h₅ he₅ hs₅ => ?_)
    replace hs₅ : Heap.SameBut e h₄ h₅ := hs₅
    replace he₅ : IsEnum h₅ e it ((i : Int) + 1) x := he₅
    show wpAny _ _ (Builtin.SmallTypes.ownedTupleHandOut (.ref e) (.ref hp.objs.size) >>= _) _ _ ⟨h₅, g, d, tk + 1, os⟩
    refine wpAny_bind ?_
    · unfold Builtin.SmallTypes.ownedTupleHandOut
      refine wpAny_bind (wpAny_setField_rec he₅ (by simp) fun h₆ he₆ hs₆ => ?_)
      replace hs₆ : Heap.SameBut e h₅ h₆ := hs₆
      replace he₆ : IsEnumOut h₆ e it ((i : Int) + 1) x hp.objs.size := he₆
      refine wpAny_setField_rec he₆ (by simp) fun h₇ he₇ hs₇ => ?_
      replace hs₇ : Heap.SameBut e h₆ h₇ := hs₇
      replace he₇ : IsEnumOut h₇ e it ((i : Int) + 1) x hp.objs.size := he₇
      refine wpAny_bind (wpAny_letGo (wpAny_pure ⟨_, rfl, hQ h₇ he₇ ?_ ?_ ?_ ?_⟩))
      · exact ((hit₄.extBut hs₅.extBut (Ne.symm hne)).extBut hs₆.extBut (Ne.symm hne)).extBut hs₇.extBut (Ne.symm hne)
      · exact hs₇.extBut _ _ (Nat.ne_of_gt hel) (hs₆.extBut _ _ (Nat.ne_of_gt hel) (hs₅.extBut _ _ (Nat.ne_of_gt hel) ht₄))
      · rw [hs₇.1, hs₆.1, hs₅.1, hz₄]
      · exact fun b o hbe hbi hb => hs₇.extBut b o hbe (hs₆.extBut b o hbe (hs₅.extBut b o hbe (hk₄ b o hbe hbi hb)))

theorem wpAny_pyNext_enum_itemT {e it l : Addr} {i : Nat} {items : Array Value} {x old : Value} {Q : Option Value → Shared → Prop}
    (he : IsEnum s.heap e it i old) (hit : s.heap.IsTupleIter it l i) (hl : s.heap.IsTuple l items) (hx : items[i]? = some x) (hne : e ≠ it)
    (hQ : ∀ h', IsEnumOut h' e it ((i : Int) + 1) x s.heap.objs.size → h'.IsTupleIter it l (i + 1) →
      h'.get? s.heap.objs.size = some { cls := .type "tuple", data := .seq #[.int i s.toks, x] } → h'.objs.size = s.heap.objs.size + 1 →
      (∀ b o, b ≠ e → b ≠ it → s.heap.get? b = some o → h'.get? b = some o) → Q (some (.ref s.heap.objs.size)) { s with heap := h', toks := s.toks + 1 }) :
    wpAny (model prog w) A (pyNext (.ref e)) Q E s := by
  have hT : s.TypeIs (.ref e) "enumerate" := ⟨_, he, rfl⟩
  unfold pyNext
  exact wpAny_bind (wpAny_attempt (wpAny_callSpecial?_slot (name := Str.ofString "__next__") hT F.slot_enumerate_next
    (wpAny_call_entry F.slot_enumerate_next hT F.entry_enumerate_next
      (enumerate_next_itemT he hit hl hx hne fun h' a b c d k => wpAny_pure (hQ h' a b c d k)) (F.args_enumerate_next_1 _))))

theorem wpAny_pyNext_enum_endT {e it l : Addr} {i : Nat} {items : Array Value} {old : Value} {Q : Option Value → Shared → Prop} (hh : A.handled = none)
    (he : IsEnum s.heap e it i old) (hit : s.heap.IsTupleIter it l i) (hl : s.heap.IsTuple l items) (hx : items[i]? = none)
    (hQ : ∀ h', Heap.ExtBut it s.heap h' → Q none { s with heap := h' }) : wpAny (model prog w) A (pyNext (.ref e)) Q E s := by
  have hT : s.TypeIs (.ref e) "enumerate" := ⟨_, he, rfl⟩
  unfold pyNext
  refine wpAny_bind (wpAny_attempt (wpAny_callSpecial?_slot (name := Str.ofString "__next__") hT F.slot_enumerate_next
    (wpAny_call_entry F.slot_enumerate_next hT F.entry_enumerate_next ?_ (F.args_enumerate_next_1 _))))
  show wpAny _ _ (field (.ref e) 2 >>= _) _ _ _
  refine wpAny_bind (wpAny_field he rfl (x := .ref it) rfl ?_)
  refine wpAny_bind (wpAny_nextOf_tuple_end hh hit hl hx fun h' x he' hx' => ?_)
  obtain ⟨o, ho, hc⟩ := hx'
  refine wpAny_bind (wpAny_isInstance (T := "StopIteration") (b := true) ⟨o, ho, hc⟩ isSubtype_stop ?_)
  exact wpAny_pure (hQ _ he')
end
/-- the list at a as it stands at each turn, each item in a new pair -/
def IteT (K : PySem.W.Frag) (a : Addr) : It :=
  ⟨fun i H => ∃ (xs : List V) (x : V), SqT K H a xs ∧ xs[i]? = some x, fun i H v H' => ∃ T x, v = .ref T ∧ H T = none ∧ H' = upd H T (.tup [.int (i : Nat), x]) ∧ ∀ xs, SqT K H a xs → xs[i]? = some x, fun i H => ∃ xs : List V, SqT K H a xs ∧ xs.length ≤ i⟩
theorem turn_enumT {P : Program} {w : World} {K : PySem.W.Frag} {elts : List Expr} {kk : Nat} {tpos : Pos} (a e it : Addr) :
    Turn P w K (.Tuple elts kk tpos) (IteT K a) [e, it] e (fun i h => (∃ old, IsEnum h e it ((i : Nat) : Int) old) ∧ h.IsTupleIter it a i ∧ e ≠ it) where
  mem := by simp
  obj := fun i h st b hb => by
    obtain ⟨⟨old, he⟩, ⟨o, ho, hc, hd⟩, _⟩ := st
    have e' : b = e ∨ b = it := by simpa using hb
    rcases e' with z | z
    · rw [z]; exact ⟨_, he, fun v q => nomatch q⟩
    · rw [z]; exact ⟨o, ho, fun v q => by rw [hd] at q; cases q⟩
  keep := fun i h h' st k => let ⟨⟨old, he⟩, hi, hne⟩ := st; ⟨⟨old, k e (by simp) _ he⟩, hi.at fun o q => k it (by simp) o q, hne⟩
  item := by
    intro X hP hw hK hc i pins s σ H E I hf st hg
    subst hP hw hK
    obtain ⟨⟨old, he⟩, hit, hne⟩ := st
    obtain ⟨xs, x, hq, hx⟩ := hg
    obtain ⟨its, rv, p, hz⟩ := I.tuple hq
    obtain ⟨u, hu, ru⟩ := rv.get hx
    have hel : e < s.heap.objs.size := Heap.lt_size he
    have hil : it < s.heap.objs.size := by obtain ⟨_, q, _⟩ := hit; exact Heap.lt_size q
    refine wpAny_pyNext_enum_itemT he hit p (x := u) (by simpa using hu) hne fun h' ho hit' hT hsz hk => ?_
    refine ⟨_, rfl, wpAny_letOwnedTupleGo_enum (s := { s with heap := h', toks := s.toks + 1 }) ho fun h'' he' sb => ?_⟩
    have hT2 : h''.get? s.heap.objs.size = some { cls := .type "tuple", data := .seq #[.int i s.toks, u] } := (sb.2 _ (Nat.ne_of_gt hel)).trans hT
    have new : ObjOk X.prog X.w (upd H s.heap.objs.size (.tup [.int (i : Nat), x])) h'' s.heap.objs.size (.tup [.int (i : Nat), x]) :=
      ⟨by show 2 ≤ sizeLine; decide, [.int i s.toks, u], .cons ⟨_, rfl⟩ (.cons ru .nil), ⟨_, hT2, rfl, _, rfl⟩⟩
    have I1 : Inv X pins σ (upd H s.heap.objs.size (.tup [.int (i : Nat), x])) { s with heap := h'', toks := s.toks + 1 } :=
      I.turnedNew (ch := [e, it]) (fun b ob hb q => (sb.2 b (fun z => hb (by simp [z]))).trans (hk b ob (fun z => hb (by simp [z])) (fun z => hb (by simp [z])) q)) hf (Nat.le_refl _) new
    refine ⟨.ref s.heap.objs.size, _, I1, rfl, ⟨_, x, rfl, I.hok.fresh (Nat.le_refl _), rfl, fun ys hy => by rw [I.tuple_inj hy hq]; exact hx⟩, ⟨⟨u, ?_⟩, hit'.at fun o q => (sb.2 it (Ne.symm hne)).trans q, hne⟩, fun b hb => ?_⟩
    · have e1 : ((i + 1 : Nat) : Int) = (i : Int) + 1 := by omega
      rw [e1]; exact he'
    · have hb' : b < s.heap.objs.size := by
        have e' : b = e ∨ b = it := by simpa using hb
        rcases e' with z | z
        · rw [z]; exact hel
        · rw [z]; exact hil
      rw [upd_ne (Nat.ne_of_lt hb')]
      exact (hf b hb).1
  done := by
    intro X hP hw hK hc i pins s σ H E I hf st hg
    subst hP hw hK
    obtain ⟨⟨old, he⟩, hit, hne⟩ := st
    obtain ⟨xs, hq, hx⟩ := hg
    obtain ⟨its, rv, p, hz⟩ := I.tuple hq
    obtain ⟨f0, f1, f2, f3, f4, f5⟩ := hf it (by simp)
    have hl := rv.length
    exact wpAny_pyNext_enum_endT (I.ok.hd hc) he hit p (by simp; omega) fun h' eb => ⟨rfl, I.turned (t' := s.toks) (fun b o hb q => eb b o hb q) f0 f1 f3 f4 f5⟩
  self := fun A i s Q E st h => let ⟨⟨_, he⟩, _⟩ := st; wpAny_pyIter_enum he h
def iEnumT (K : PySem.W.Frag) (ta : TA) : TI := fun σ H R => ta σ H fun vs H1 => ∃ a xs, vs = [.ref a] ∧ SqT K H1 a xs ∧ R (IteT K a) H1
theorem pi_enumT {X : Cx} {e : Expr} {ta : TA} {p pos tpos : Pos} {elts : List Expr} {kk : Nat} (hg : Gl X "enumerate") (hm : X.mg "enumerate" = none) (ha : PA X [e] ta) (hs : starEach [e] X.env = [(false, eval e X.env)] := by rfl) :
    PI X (.Tuple elts kk tpos) (.Call (.Name "enumerate" p) [e] [] pos) (iEnumT X.K ta) := by
  refine ⟨fun pins s σ H R I h => ?_⟩
  refine Call_ (ld_blt I hg hm boot_enumerate (PyProof.Rows.callWith_type1 (thn (ha.run pos pins s σ H _ I h) fun us s1 ⟨vs, H1, I1, r1, q1⟩ => ?_) hs rfl))
  obtain ⟨a, xs, ex, hq, q⟩ := q1
  subst ex
  cases r1 with
  | cons r rr =>
    cases rr
    cases r
    obtain ⟨its, rv, p', hz⟩ := I1.tuple hq
    refine call_enumerate_listT p' fun h' he hit hsz hk => wpAny_pyIter_enum he ?_
    have I2 : Inv X pins σ H1 { s1 with heap := h' } := I1.kept (t' := s1.toks) hk
    refine ⟨s1.heap.objs.size + 1, [s1.heap.objs.size + 1, s1.heap.objs.size], _, _, H1, rfl, I2, turn_enumT a (s1.heap.objs.size + 1) s1.heap.objs.size, ⟨⟨.none, he⟩, hit, Nat.succ_ne_self _⟩, fun b hb => ?_, q⟩
    have e' : b = s1.heap.objs.size + 1 ∨ b = s1.heap.objs.size := by simpa using hb
    have hle : s1.heap.objs.size ≤ b := by
      rcases e' with z | z
      · rw [z]; exact Nat.le_add_right _ _
      · rw [z]; exact Nat.le_refl _
    exact I1.fpOk hle (I1.hok.fresh hle)
end VI
namespace VI
open PySem PySem.Spec PyProof.Rows L2
section
variable {X : Cx} {G : Gx} {E : WX} {as as' : List Addr} {st st' : Store} {H : Hp} {L : Addr → Prop}
/-! ### enumerate over tuples and lists -/
def itEnumA (m : AM) : IM := fun env st => (m env st).bind fun ds st1 => match ds with
  | [.tup ds] => .ok ⟨numD 0 ds, none⟩ st1
  | [d] => match lstOf d st1 with
    | some (ds, none) => .ok ⟨numD 0 ds, none⟩ st1
    | _ => .stuck
  | _ => .stuck
theorem src_enumT (s : StR G as st H) {p : Addr} {xs : List V} {ds : List D} (h1 : SqT G.K H p xs) (r1 : RelDs G as (Live as st) H ds xs) : Src G (IteT G.K p) ⟨numD 0 ds, none⟩ as st H where
  go := fun as' st' H' e s' ok i d' hi => by
    have k1 : SqT G.K H' p xs := sqT_mono (L := Live as st) e.keep h1
    obtain ⟨y, hy, rfl⟩ := numD_get ds 0 i d' hi
    obtain ⟨x, hx, rx⟩ := (r1.ext e s.len).get hy
    refine ⟨⟨xs, x, k1, hx⟩, fun z H2 hz => ?_⟩
    obtain ⟨T, x', rfl, hT, rfl, hall⟩ := hz
    have := hall xs k1
    rw [hx] at this; cases this
    refine ⟨Ext.lay hT, s'.laid hT, ?_⟩
    have q : RelDs G as' (Live as' st') H' [.int ((0 + i : Nat) : Int), y] [.int (i : Nat), x] := .cons (by rw [Nat.zero_add]; exact .int _) (.cons rx .nil)
    exact RelD.newTup s' q hT
  stop := fun as' st' H' e s' ok i hi => by
    have hi : (numD 0 ds).length ≤ i := hi
    rw [numD_len] at hi
    exact ⟨xs, sqT_mono (L := Live as st) e.keep h1, by rw [← r1.length]; exact hi⟩
def iEnumB (K : PySem.W.Frag) (ta : TA) : TI := fun σ H R => ta σ H fun vs H1 => (∃ a xs, vs = [.ref a] ∧ SqL K H1 a xs ∧ R (Ite K a) H1) ∨ ∃ a xs, vs = [.ref a] ∧ SqT K H1 a xs ∧ R (IteT K a) H1
theorem pi_enumB {X : Cx} {e : Expr} {ta : TA} {p pos tpos : Pos} {elts : List Expr} {kk : Nat} (hg : Gl X "enumerate") (hm : X.mg "enumerate" = none) (ha : PA X [e] ta) (hs : starEach [e] X.env = [(false, eval e X.env)] := by rfl) :
    PI X (.Tuple elts kk tpos) (.Call (.Name "enumerate" p) [e] [] pos) (iEnumB X.K ta) := by
  refine ⟨fun pins s σ H R I h => ?_⟩
  refine Call_ (ld_blt I hg hm boot_enumerate (PyProof.Rows.callWith_type1 (thn (ha.run pos pins s σ H _ I h) fun us s1 ⟨vs, H1, I1, r1, q1⟩ => ?_) hs rfl))
  rcases q1 with q1 | q1
  · obtain ⟨a, xs, ex, hq, q⟩ := q1
    subst ex
    cases r1 with
    | cons r rr =>
      cases rr
      cases r
      obtain ⟨its, rv, p', hz⟩ := I1.list hq
      refine call_enumerate_list p'.isList fun h' he hit hsz hk => wpAny_pyIter_enum he ?_
      have I2 : Inv X pins σ H1 { s1 with heap := h' } := I1.kept (t' := s1.toks) hk
      refine ⟨s1.heap.objs.size + 1, [s1.heap.objs.size + 1, s1.heap.objs.size], _, _, H1, rfl, I2, turn_enum a (s1.heap.objs.size + 1) s1.heap.objs.size, ⟨⟨.none, he⟩, hit, Nat.succ_ne_self _⟩, fun b hb => ?_, q⟩
      have e' : b = s1.heap.objs.size + 1 ∨ b = s1.heap.objs.size := by simpa using hb
      have hle : s1.heap.objs.size ≤ b := by
        rcases e' with z | z
        · rw [z]; exact Nat.le_add_right _ _
        · rw [z]; exact Nat.le_refl _
      exact I1.fpOk hle (I1.hok.fresh hle)
  · obtain ⟨a, xs, ex, hq, q⟩ := q1
    subst ex
    cases r1 with
    | cons r rr =>
      cases rr
      cases r
      obtain ⟨its, rv, p', hz⟩ := I1.tuple hq
      refine call_enumerate_listT p' fun h' he hit hsz hk => wpAny_pyIter_enum he ?_
      have I2 : Inv X pins σ H1 { s1 with heap := h' } := I1.kept (t' := s1.toks) hk
      refine ⟨s1.heap.objs.size + 1, [s1.heap.objs.size + 1, s1.heap.objs.size], _, _, H1, rfl, I2, turn_enumT a (s1.heap.objs.size + 1) s1.heap.objs.size, ⟨⟨.none, he⟩, hit, Nat.succ_ne_self _⟩, fun b hb => ?_, q⟩
      have e' : b = s1.heap.objs.size + 1 ∨ b = s1.heap.objs.size := by simpa using hb
      have hle : s1.heap.objs.size ≤ b := by
        rcases e' with z | z
        · rw [z]; exact Nat.le_add_right _ _
        · rw [z]; exact Nat.le_refl _
      exact I1.fpOk hle (I1.hok.fresh hle)
theorem pIt_enumA {e : Expr} {m : AM} {p pos tpos : Pos} {elts : List Expr} {kk : Nat} (hK : G.K = X.K) (hg : Gl X "enumerate") (hm : X.mg "enumerate" = none) (ha : PA X [e] (tAr G E m)) (hs : starEach [e] X.env = [(false, eval e X.env)] := by rfl) :
    PI X (.Tuple elts kk tpos) (.Call (.Name "enumerate" p) [e] [] pos) (tIt G E (itEnumA m)) :=
  (pi_enumB hg hm ha hs).vi fun σ H R ⟨as, st, env, s, er, p⟩ => ⟨as, st, env, s, er, (p.bind s.len).mono fun ds as1 st1 H1 e1 s1 p1 vs r1 => by
    split at p1
    · cases r1 with
      | cons r t =>
      cases t
      cases r with
      | @tup _ pa ws h1 hr =>
      exact .inr ⟨pa, ws, rfl, by rw [← hK]; exact h1, by rw [← hK]; exact p1.now s1 _ (src_enumT s1 h1 hr)⟩
    · cases r1 with
      | cons r t =>
      cases t
      split at p1
      · rename_i xs hl
        obtain ⟨pa, ws, rfl, h1, hr⟩ := lstOf_sq s1 r hl
        exact .inl ⟨pa, ws, rfl, by rw [← hK]; exact h1, by rw [← hK]; exact p1.now s1 _ (src_enum s1 r hl)⟩
      · exact p1.elim
    · exact p1.elim⟩
end
end VI
namespace VI
open PySem PySem.Spec PyProof.Rows L2
/-! ### equations for simp: dicts by value -/
section
variable {st : Store} {neg : Bool} {n : Nat}
@[simp] theorem dicOf_non : dicOf .non st = none := rfl
@[simp] theorem dicOf_bl {b : Bool} : dicOf (.bl b) st = none := rfl
@[simp] theorem dicOf_int {b : Int} : dicOf (.int b) st = none := rfl
@[simp] theorem dicOf_str {b : Str} : dicOf (.str b) st = none := rfl
@[simp] theorem dicOf_tup {b : List D} : dicOf (.tup b) st = none := rfl
@[simp] theorem dicOf_lst {b : List D} : dicOf (.lst b) st = none := rfl
@[simp] theorem dicOf_obj {c : String} {fs : List (Str × D)} : dicOf (.obj c fs) st = none := rfl
theorem dicOf_dic {kvs : List (D × D)} (h : noErr kvs = true) : dicOf (.dic kvs) st = some kvs := by simp [dicOf, h]
@[simp] theorem dicOf_ref : dicOf (.ref n) st = (match st[n]? with | some (some (.dic kvs)) => some kvs | _ => none) := rfl
theorem fInD_no {a b : D} (h : dicOf b st = none) : fInD neg a b st = fIn neg a b st := by unfold fInD; rw [h]
theorem fIxD_no {a b : D} (h : dicOf a st = none) : fIxD a b st = fIx a b st := by unfold fIxD; rw [h]
theorem fLenD_no {a : D} (h : dicOf a st = none) : fLenD [a] st = fLen [a] st := by simp only [fLenD, h]
theorem fListD_no {a : D} (h : dicOf a st = none) : fListD [a] st = fList [a] st := by simp only [fListD, h]
theorem fTupleD_no {a : D} (h : dicOf a st = none) : fTupleD [a] st = fTuple [a] st := by simp only [fTupleD, h]
@[simp] theorem fInD_str {a : D} {z : Str} : fInD neg a (.str z) st = fIn neg a (.str z) st := fInD_no rfl
@[simp] theorem fInD_tup {a : D} {z : List D} : fInD neg a (.tup z) st = fIn neg a (.tup z) st := fInD_no rfl
@[simp] theorem fInD_lst {a : D} {z : List D} : fInD neg a (.lst z) st = fIn neg a (.lst z) st := fInD_no rfl
@[simp] theorem fIxD_str {a : D} {z : Str} : fIxD (.str z) a st = fIx (.str z) a st := fIxD_no rfl
@[simp] theorem fIxD_tup {a : D} {z : List D} : fIxD (.tup z) a st = fIx (.tup z) a st := fIxD_no rfl
@[simp] theorem fIxD_lst {a : D} {z : List D} : fIxD (.lst z) a st = fIx (.lst z) a st := fIxD_no rfl
@[simp] theorem fLenD_str {z : Str} : fLenD [.str z] st = fLen [.str z] st := fLenD_no rfl
@[simp] theorem fLenD_tup {z : List D} : fLenD [.tup z] st = .ok (.val (.int z.length)) st := rfl
@[simp] theorem fLenD_lst {z : List D} : fLenD [.lst z] st = .ok (.val (.int z.length)) st := rfl
@[simp] theorem fListD_tup {z : List D} : fListD [.tup z] st = .ok (.new (.lst z)) st := rfl
@[simp] theorem fListD_lst {z : List D} : fListD [.lst z] st = .ok (.new (.lst z)) st := rfl
@[simp] theorem fTupleD_tup {z : List D} : fTupleD [.tup z] st = .ok (.val (.tup z)) st := rfl
@[simp] theorem fTupleD_lst {z : List D} : fTupleD [.lst z] st = .ok (.val (.tup z)) st := rfl
theorem fIxD_ref {z : List D} {i : Int} (h : st[n]? = some (some (.lst z))) : fIxD (.ref n) (.int i) st = (match atI z i with | some d => .ok (.val d) st | none => .stuck) := by
  rw [fIxD_no (by simp [h]), fIx_ref h]
  all_goals (cases atI z i <;> rfl)
theorem fLenD_ref {z : List D} (h : st[n]? = some (some (.lst z))) : fLenD [.ref n] st = .ok (.val (.int z.length)) st := by rw [fLenD_no (by simp [h]), fLen_ref h]
theorem fTupleD_ref {z : List D} (h : st[n]? = some (some (.lst z))) : fTupleD [.ref n] st = .ok (.val (.tup z)) st := by rw [fTupleD_no (by simp [h]), fTuple_ref h]
theorem fTupleD_dref {z : List (D × D)} (h : st[n]? = some (some (.dic z))) : fTupleD [.ref n] st = .ok (.val (.tup (z.map (·.1)))) st := by simp [fTupleD, h]
theorem fSetA_lst {z : List D} {i : Int} {v : D} {j : Nat} (h : st[n]? = some (some (.lst z))) (hj : ixN z.length i = some j) : fSetA (.ref n) (.int i) v st = some (st.set n (some (.lst (z.set j v)))) := by simp [fSetA, fSetL, h, hj]
theorem fSetA_dic {z : List (D × D)} {i v : D} (h : st[n]? = some (some (.dic z))) (hk : okKey z i = true) (hl : z.length < 100000) : fSetA (.ref n) i v st = some (st.set n (some (.dic (putA z i v)))) := by
  have e : fSetL (.ref n) i v st = none := by unfold fSetL; cases i <;> simp [h]
  simp [fSetA, e, fSetD, h, hk, hl]
@[simp] theorem fMulB_int' {i j : Int} : fMulB (.int i) (.int j) st = fMul (.int i) (.int j) st := rfl
@[simp] theorem fGeA_int' {i j : Int} : fGeA (.int i) (.int j) st = .ok (.val (.bl (decide (j ≤ i)))) st := rfl
variable {env : DEnv} {m o : EM} {a : AM} {f : D → List D → Store → Res Wv} {c : String} {k : Nat} {fs : FnSem}
@[simp] theorem evReg_s : evReg m env st = (m env st).bind fun w st1 => match w with | .new d => .ok (.val (.ref st1.length)) (st1 ++ [some d]) | .val _ => .stuck := rfl
@[simp] theorem evRegL_s : evRegL m env st = (m env st).bind fun w st1 => match w with | .new d => .ok (.val (.ref st1.length)) (st1 ++ [some d]) | .val d => .ok (.val d) st1 := rfl
@[simp] theorem evDm_s : evDm f o a env st = (o env st).bind fun w st1 => match dicOf w.d st1 with | some _ => (a env st1).bind fun ds st2 => f w.d ds st2 | none => .stuck := rfl
end
/-! ### keys in the order in which they first come -/
def once {α : Type} [DecidableEq α] : List α → List α → List α
  | acc, [] => acc
  | acc, x :: xs => once (if x ∈ acc then acc else acc ++ [x]) xs
theorem getA_keys {kvs : List (D × D)} {k : D} : (getA kvs k).isSome = decide (k ∈ kvs.map (·.1)) := by
  induction kvs with
  | nil => rfl
  | cons p r ih =>
    rw [getA_cons]
    by_cases h : p.1 = k
    · simp [h]
    · rw [if_neg h, ih]
      have : ¬ k = p.1 := fun e => h e.symm
      simp [this]
theorem putA_keys {kvs : List (D × D)} {k v : D} : (putA kvs k v).map (·.1) = if k ∈ kvs.map (·.1) then kvs.map (·.1) else kvs.map (·.1) ++ [k] := by
  unfold putA
  rw [getA_keys]
  by_cases h : k ∈ kvs.map (·.1)
  · simp only [h, decide_true, if_true]
    exact map_keys
  · simp only [h, decide_false, if_false, Bool.false_eq_true]
    simp
section
variable {α : Type} [DecidableEq α]
theorem once_mem : ∀ (xs acc : List α) (x : α), x ∈ once acc xs ↔ x ∈ acc ∨ x ∈ xs
  | [], acc, x => by simp [once]
  | y :: xs, acc, x => by
    unfold once
    rw [once_mem xs]
    by_cases h : y ∈ acc
    · simp only [h, if_true, List.mem_cons]
      constructor
      · rintro (q | q)
        · exact .inl q
        · exact .inr (.inr q)
      · rintro (q | rfl | q)
        · exact .inl q
        · exact .inl h
        · exact .inr q
    · simp only [h, if_false, List.mem_append, List.mem_cons, List.not_mem_nil, or_false, or_assoc]
theorem once_nodup : ∀ (xs acc : List α), acc.Nodup → (once acc xs).Nodup
  | [], acc, h => h
  | y :: xs, acc, h => by
    unfold once
    refine once_nodup xs _ ?_
    by_cases q : y ∈ acc
    · rw [if_pos q]; exact h
    · rw [if_neg q, List.nodup_append]
      refine ⟨h, by simp, fun a ha b hb => ?_⟩
      rw [List.mem_singleton.mp hb]
      rintro rfl
      exact q ha
theorem once_len : ∀ (xs acc : List α), (once acc xs).length ≤ acc.length + xs.length
  | [], acc => Nat.le_refl _
  | y :: xs, acc => by
    unfold once
    have h := once_len xs (if y ∈ acc then acc else acc ++ [y])
    have h2 : (if y ∈ acc then acc else acc ++ [y]).length ≤ acc.length + 1 := by split <;> simp
    simp only [List.length_cons]
    omega
theorem once_self : ∀ (xs acc : List α), (acc ++ xs).Nodup → once acc xs = acc ++ xs
  | [], acc, _ => by simp [once]
  | y :: xs, acc, h => by
    have hy : y ∉ acc := fun hm => by
      rw [List.nodup_append] at h
      exact h.2.2 y hm y (by simp) rfl
    unfold once
    rw [if_neg hy, once_self xs (acc ++ [y]) (by simpa using h)]
    simp
theorem once_get : ∀ (xs acc : List α), ∃ more, once acc xs = acc ++ more
  | [], acc => ⟨[], by simp [once]⟩
  | y :: xs, acc => by
    unfold once
    obtain ⟨more, h⟩ := once_get xs (if y ∈ acc then acc else acc ++ [y])
    rw [h]
    split
    · exact ⟨more, rfl⟩
    · exact ⟨[y] ++ more, by simp⟩
theorem once_snoc (x : α) : ∀ (xs acc : List α), once acc (xs ++ [x]) = if x ∈ once acc xs then once acc xs else once acc xs ++ [x]
  | [], acc => by
    by_cases h : x ∈ acc <;> simp [once, h]
  | y :: xs, acc => by
    rw [List.cons_append]
    unfold once
    exact once_snoc x xs _
theorem once_map {β : Type} [DecidableEq β] (f : α → β) (hf : ∀ a b, f a = f b → a = b) : ∀ (xs acc : List α), once (acc.map f) (xs.map f) = (once acc xs).map f
  | [], acc => rfl
  | y :: xs, acc => by
    have e : (f y ∈ acc.map f) ↔ y ∈ acc := by
      constructor
      · intro h
        obtain ⟨z, hz, e⟩ := List.mem_map.mp h
        rwa [← hf _ _ e]
      · exact fun h => List.mem_map.mpr ⟨y, h, rfl⟩
    rw [List.map_cons]
    unfold once
    by_cases h : y ∈ acc
    · rw [if_pos (e.mpr h), if_pos h]; exact once_map f hf xs acc
    · rw [if_neg fun z => h (e.mp z), if_neg h]
      have := once_map f hf xs (acc ++ [y])
      rw [List.map_append] at this
      exact this
end
theorem allA_keys (v : D) : ∀ (xs : List D) (kvs : List (D × D)), (allA kvs (xs.map fun x => (x, v))).map (·.1) = once (kvs.map (·.1)) xs
  | [], kvs => rfl
  | x :: xs, kvs => by
    show (allA (putA kvs x v) (xs.map fun x => (x, v))).map (·.1) = _
    rw [allA_keys v xs, putA_keys]
    rfl
/-- keys all texts, or all tuples -/
def keyAll (xs : List D) : Bool := (xs.all fun x => (keyOfD x).isSome) || xs.all keyNd
theorem okKey_of {xs : List D} {k : D} {kvs : List (D × D)} (h : keyAll xs = true) (hk : k ∈ xs) (hs : ∀ p ∈ kvs, p.1 ∈ xs) : okKey kvs k = true := by
  unfold keyAll at h
  rw [Bool.or_eq_true, List.all_eq_true, List.all_eq_true] at h
  unfold okKey
  rcases h with h | h
  · rw [Bool.or_eq_true, Bool.and_eq_true, List.all_eq_true]
    exact .inl ⟨h k hk, fun p hp => h _ (hs p hp)⟩
  · rw [Bool.or_eq_true, Bool.and_eq_true (a := keyNd k), List.all_eq_true (l := kvs)]
    exact .inr ⟨h k hk, fun p hp => h _ (hs p hp)⟩
end VI
namespace VI
open PySem PySem.Spec PyProof.Rows L2
/-! ### == between lists of unlike lengths, whatever they hold -/
def fEqL (neg : Bool) (a b : D) (st : Store) : Res Wv := match lstOf a st, lstOf b st with
  | some (xs, _), some (ys, _) => if xs.length = ys.length then fEq neg a b st else .ok (.val (.bl neg)) st
  | _, _ => fEq neg a b st
def rLenL (K : PySem.W.Frag) (neg : Bool) : R2 := fun x y H Q => ∃ p q xs ys, x = .ref p ∧ y = .ref q ∧ SqL K H p xs ∧ SqL K H q ys ∧ xs.length ≠ ys.length ∧ Q (.bl neg) H
def rEqL (K : PySem.W.Frag) (neg : Bool) : R2 := fun x y H Q => rLenL K neg x y H Q ∨ rEqP K neg x y H Q
section
variable {X : Cx} {G : Gx} {E : WX} {st : Store}
theorem op_eqLen (hu : X.A.units + 64 < cLine) : OpR X (compareOp .Eq) (rLenL X.K false) := by
  intro pins s σ H x y v u Q I rx ry h
  obtain ⟨p, q, xs, ys, rfl, rfl, h1, h2, hl, k⟩ := h
  obtain rfl : v = Value.ref p := rx
  obtain rfl : u = Value.ref q := ry
  obtain ⟨its, r, ⟨o1, n1, e1, ec1, ed1, et1⟩, z1⟩ := I.list h1
  obtain ⟨its2, r2, ⟨o2, n2, e2, ec2, ed2, et2⟩, z2⟩ := I.list h2
  exact PySem.SeqAt.RcAt.lists_lengths (A := X.A) ⟨o1, e1, ec1, n1, et1⟩ ⟨o2, e2, ec2, n2, et2⟩ (by
    have l1 := r.length
    have l2 := r2.length
    simp only [bne_iff_ne, ne_eq, List.size_toArray]
    omega) (by omega) _ _ _ _ ⟨.bl _, H, I, rfl, k⟩
theorem op_neLen (hu : X.A.units + 64 < cLine) : OpR X (compareOp .NotEq) (rLenL X.K true) := by
  intro pins s σ H x y v u Q I rx ry h
  obtain ⟨p, q, xs, ys, rfl, rfl, h1, h2, hl, k⟩ := h
  obtain rfl : v = Value.ref p := rx
  obtain rfl : u = Value.ref q := ry
  obtain ⟨its, r, ⟨o1, n1, e1, ec1, ed1, et1⟩, z1⟩ := I.list h1
  obtain ⟨its2, r2, ⟨o2, n2, e2, ec2, ed2, et2⟩, z2⟩ := I.list h2
  exact PySem.SeqAt.RcNeAt.lists_lengths (A := X.A) ⟨o1, e1, ec1, n1, et1⟩ ⟨o2, e2, ec2, n2, et2⟩ (by
    have l1 := r.length
    have l2 := r2.length
    simp only [bne_iff_ne, ne_eq, List.size_toArray]
    omega) (by omega) _ _ _ _ ⟨.bl _, H, I, rfl, k⟩
theorem op_eqL (hu : X.A.units + 64 < cLine) : OpR X (compareOp .Eq) (rEqL X.K false) := OpR.or (op_eqLen hu) (op_eqP hu)
theorem op_neL (hu : X.A.units + 64 < cLine) : OpR X (compareOp .NotEq) (rEqL X.K true) := OpR.or (op_neLen hu) (op_neP hu)
theorem opS_eqL {neg : Bool} : OpS G E (fEqL neg) (rEqL G.K neg) := by
  intro E' as st H d1 d2 x y Q s r1 r2 p
  unfold fEqL at p
  split at p
  · rename_i xs s1 ys s2 e1 e2
    split at p
    · exact .inr (opS_eq (E := E) E' as st H d1 d2 x y Q s r1 r2 p)
    · rename_i hl
      obtain ⟨p1, vs, rfl, k1, q1⟩ := lstOf_sq s r1 e1
      obtain ⟨p2, us, rfl, k2, q2⟩ := lstOf_sq s r2 e2
      refine .inl ⟨p1, p2, vs, us, rfl, rfl, k1, k2, ?_, p.now s _ (.bl _)⟩
      have l1 := q1.length
      have l2 := q2.length
      omega
  · exact .inr (opS_eq (E := E) E' as st H d1 d2 x y Q s r1 r2 p)
theorem fEqL_nil {neg : Bool} {ds : List D} : fEqL neg (.lst ds) (.lst []) st = .ok (.val (.bl (if neg then !ds.isEmpty else ds.isEmpty))) st := by
  cases ds with
  | nil => exact fEq_nil (neg := neg) (ds := []) rfl
  | cons d ds => cases neg <;> simp [fEqL, lstOf]
end
end VI
namespace VI
open PySem PySem.Spec PyProof.Rows L2
/-! ### {k: v}, one pair -/
/-- the new dict is a cell as long as it is made -/
def evDisp1 (k m : EM) : EM := fun env st => (noX (k env (st ++ [some (.dic [])]))).bind fun wk st1 => (noX (m env st1)).bind fun wv st2 =>
  if st2[st.length]? = some (some (.dic [])) ∧ (keyOfD wk.d).isSome = true ∧ cutOk st (st2.set st.length (some (.dic [(wk.d, wv.d)]))) = true ∧ refsLt st.length (.dic [(wk.d, wv.d)]) = true then .ok (.new (.dic [(wk.d, wv.d)])) ((st2.set st.length (some (.dic [(wk.d, wv.d)]))).take st.length) else .stuck
section
variable {X : Cx} {G : Gx} {E : WX} {as as' : List Addr} {st st' : Store} {H H' : Hp} {L : Addr → Prop} {pos : Pos} {σ : L2.St}
theorem Post.bindB {α β : Type} {E1 : XK} {as2 : List Addr} {st2 : Store} {H2 : Hp} {r : Res α} {k : α → Store → Res β} {R : β → List Addr → Store → Hp → Prop} (h : Post G E1 as st H ((VI.noX r).bind k) R) :
    Post G E0 as2 st2 H2 r (fun a _ st' _ => Post G E1 as st H (k a st') R) := by
  cases r with
  | ok a st' => exact fun as' H' e s => h
  | exc x st' => exact False.elim h
  | stuck => exact h
theorem tI_disp1 {k m : EM} {Q : VK} (h : tI G E (evDisp1 k m) σ H Q) : tDisp [(tI G E0w k, tI G E0w m)] σ H Q := by
  obtain ⟨as, st, env, s, er, p⟩ := h
  intro Dl hD
  have eD : Ext as st H as st (upd H Dl (.dK [])) := Ext.lay hD
  have sD := s.lay (o := .dK []) hD
  have cD : CellR G as (fun b => Live as st b ∨ b = Dl) (upd H Dl (.dK [])) Dl (.dic []) := DicR.k (ks := []) (vs := []) upd_same rfl .nil
  have sR := sD.reg (notLive s hD) cD
  have eR : Ext as st H (as ++ [Dl]) (st ++ [some (.dic [])]) (upd H Dl (.dK [])) := eD.regAt s.len s.len hD
  have hk : (as ++ [Dl])[st.length]? = some Dl := by
    rw [List.getElem?_append_right (by have := s.len; omega), show st.length - as.length = 0 by have := s.len; omega]; rfl
  unfold evDisp1 at p
  show tI G E0w k σ (upd H Dl (.dK [])) _
  refine ⟨as ++ [Dl], (st ++ [some (D.dic [])] : Store), env, sR, er.ext eR s.len, (Post.bindB p).mono fun wk as3 st3 H3 e3 s3 p3 x rx => ?_⟩
  have hk3 : as3[st.length]? = some Dl := pre_get e3.pre hk
  have eR3 := eR.trans e3 s.len
  show tI G E0w m σ H3 _
  refine ⟨as3, st3, env, s3, (er.ext eR s.len).ext e3 sR.len, (Post.bindB p3).mono fun wv as5 st5 H5 e5 s5 p5 y ry => ?_⟩
  have hk5 : as5[st.length]? = some Dl := pre_get e5.pre hk3
  have eR5 := eR3.trans e5 s.len
  by_cases c : st5[st.length]? = some (some (.dic [])) ∧ (keyOfD wk.d).isSome = true ∧ cutOk st (st5.set st.length (some (.dic [(wk.d, wv.d)]))) = true ∧ refsLt st.length (.dic [(wk.d, wv.d)]) = true
  · rw [if_pos c] at p5
    obtain ⟨c1, c2, c3, c4⟩ := c
    obtain ⟨a, ha, cr⟩ := s5.cells _ _ c1
    rw [hk5] at ha; cases ha
    obtain ⟨κ, hκ⟩ := Option.isSome_iff_exists.mp c2
    have ek : wk.d = keyD κ := keyOfD_keyD hκ
    have hx : x = kV κ := by
      have rd := rx.d
      rw [ek] at rd
      cases κ with
      | inl i => cases rd; rfl
      | inr z => cases rd; rfl
    have hH : H5 Dl = some (.dK []) := by
      cases cr with
      | k h1 h2 h3 =>
        rename_i ks vs
        cases ks with
        | nil => exact h1
        | cons _ _ => simp at h2
      | n h1 h2 => exact absurd rfl h2
    refine ⟨hH, [(κ, y)], by rw [hx]; rfl, by simp, ?_⟩
    have em : mergeK [] [(κ, y)] = [(κ, y)] := rfl
    rw [em]
    have live : Live as5 st5 Dl := ⟨_, _, hk5, c1⟩
    have kp : ∀ b o, H5 b = some o → (¬ Live as5 st5 b ∨ notMut o = true) → upd H5 Dl (.dK [(κ, y)]) b = some o := fun b o eb k => by
      have ne : b ≠ Dl := fun z => by
        subst z
        rcases k with k | k
        · exact k live
        · rw [hH] at eb; cases eb; cases k
      rw [upd_ne ne]; exact eb
    have ry' : RelD G as5 (Live as5 st5) (upd H5 Dl (.dK [(κ, y)])) wv.d y := ry.d.mono (List.prefix_refl _) (fun _ _ n => n) kp
    obtain ⟨a1, a2⟩ := s5.write (d := .dic [(wk.d, wv.d)]) (o := .dK [(κ, y)]) c1 hk5 (DicR.k (ks := [κ]) (vs := [y]) upd_same (by rw [ek]; rfl) (.cons ry' .nil))
    have e2 := eR5.trans a2 s.len
    have sc := s.cut a1 c3
    have hlt := (List.getElem?_eq_some_iff.mp c1).1
    have g2 : (st5.set st.length (some (.dic [(wk.d, wv.d)])))[st.length]? = some (some (.dic [(wk.d, wv.d)])) := List.getElem?_set_self hlt
    obtain ⟨a', ha', cr2⟩ := a1.cells _ _ g2
    rw [hk5] at ha'; cases ha'
    have la : Live as5 (st5.set st.length (some (.dic [(wk.d, wv.d)]))) Dl := ⟨_, _, hk5, g2⟩
    refine p5 (as5.take st.length) _ (e2.cut s) (sc.less fun b z => live_cut z) (.ref Dl) ⟨Dl, rfl, hD, fun i hi => ?_, (cr2.cut c4).lessL fun b z => z.elim live_cut fun z => z ▸ la, sc.less fun b z => z.elim live_cut fun z => z ▸ la⟩
    by_cases hk : i < st.length
    · rw [List.getElem?_take_of_lt hk] at hi
      obtain ⟨h1, e1'⟩ := List.getElem?_eq_some_iff.mp hk5
      obtain ⟨h2, e2'⟩ := List.getElem?_eq_some_iff.mp hi
      have := (List.getElem_inj s5.nd).mp (e1'.trans e2'.symm)
      omega
    · rw [List.getElem?_take_eq_none (by omega)] at hi; cases hi
  · rw [if_neg c] at p5; exact p5.elim
theorem pI_disp1 {ke ve : Expr} {k m : EM} (hk : PE X ke (tI G E0w k)) (hv : PE X ve (tI G E0w m)) : PE X (.Dict [some ke] [ve] pos) (tI G E (evDisp1 k m)) :=
  (pe_disp (pps_cons hk hv pps_nil) rfl rfl (by simp) (by simp)).vi fun σ H Q h => tI_disp1 h
theorem evDisp1_of {k m : EM} {env : DEnv} {wk wv : Wv} (hk : k env (st ++ [some (D.dic [])]) = .ok wk (st ++ [some (.dic [])])) (hm : m env (st ++ [some (D.dic [])]) = .ok wv (st ++ [some (.dic [])])) (h1 : (keyOfD wk.d).isSome = true) (h2 : refsLt 0 (.dic [(wk.d, wv.d)]) = true) :
    evDisp1 k m env st = .ok (.new (.dic [(wk.d, wv.d)])) st := by
  unfold evDisp1
  rw [hk]
  show (noX (m env (st ++ [some (D.dic [])]))).bind _ = _
  rw [hm]
  show (if _ then _ else _) = _
  have e : (st ++ [some (D.dic [])]).set st.length (some (.dic [(wk.d, wv.d)])) = st ++ [some (.dic [(wk.d, wv.d)])] := set_last _ _ _
  rw [e, if_pos ⟨by simp, h1, cutOk_self _ _, refsLt_mono (Nat.zero_le _) _ h2⟩]
  simp
end
end VI
/-! printed by gen2.py from the text of the law -/
namespace Lw
open PySem PySem.Spec PyProof.Rows L2 VI
def topS (i : Nat) : Stmt := PySem.Challenge.pw_paperreader_k13_grammars_refused.main.body.getD i (.Pass ⟨0, 0, 0, 0⟩)
abbrev s_is_name : Stmt := topS 16
abbrev N_is_name : List Str := ["thing", "letter"]
theorem sc_is_name : FnScope N_is_name ["thing"] (defScope s_is_name) := ⟨rfl, rfl, rfl, by decide +kernel, rfl, by decide +kernel, by decide +kernel⟩
abbrev s_is_rule : Stmt := topS 20
abbrev N_is_rule : List Str := ["thing", "names", "name"]
theorem sc_is_rule : FnScope N_is_rule ["thing"] (defScope s_is_rule) := ⟨rfl, rfl, rfl, by decide +kernel, rfl, by decide +kernel, by decide +kernel⟩
abbrev s_need_rules : Stmt := topS 21
abbrev N_need_rules : List Str := ["things", "thing"]
theorem sc_need_rules : FnScope N_need_rules ["things"] (defScope s_need_rules) := ⟨rfl, rfl, rfl, by decide +kernel, rfl, by decide +kernel, by decide +kernel⟩
abbrev s_each_once : Stmt := topS 22
abbrev N_each_once : List Str := ["things", "found", "thing"]
theorem sc_each_once : FnScope N_each_once ["things"] (defScope s_each_once) := ⟨rfl, rfl, rfl, by decide +kernel, rfl, by decide +kernel, by decide +kernel⟩
abbrev s_Grammar_init : Stmt := inClass (topS 23) 0
abbrev N_Grammar_init : List Str := ["self", "rules", "words", "number", "rule", "part", "names", "word"]
theorem sc_Grammar_init : FnScope N_Grammar_init ["self", "rules"] (defScope s_Grammar_init) := ⟨rfl, rfl, rfl, by decide +kernel, rfl, by decide +kernel, by decide +kernel⟩
abbrev s_f_law_draws : Stmt := topS 25
abbrev N_f_law_draws : List Str := ["_law_number", "_law_sizes", "_law_found", "_law_size"]
theorem sc_f_law_draws : FnScope N_f_law_draws ["_law_number", "_law_sizes"] (defScope s_f_law_draws) := ⟨rfl, rfl, rfl, by decide +kernel, rfl, by decide +kernel, by decide +kernel⟩
abbrev s_f_law_mix : Stmt := topS 26
abbrev N_f_law_mix : List Str := ["_law_number", "_law_k", "_law_mixed"]
theorem sc_f_law_mix : FnScope N_f_law_mix ["_law_number", "_law_k"] (defScope s_f_law_mix) := ⟨rfl, rfl, rfl, by decide +kernel, rfl, by decide +kernel, by decide +kernel⟩
abbrev s_f_law_word_of : Stmt := topS 27
abbrev N_f_law_word_of : List Str := ["_law_e", "_law_marks", "_law_names_here"]
theorem sc_f_law_word_of : FnScope N_f_law_word_of ["_law_e"] (defScope s_f_law_word_of) := ⟨rfl, rfl, rfl, by decide +kernel, rfl, by decide +kernel, by decide +kernel⟩
abbrev s_f_law_names : Stmt := topS 28
abbrev N_f_law_names : List Str := ["_law_number", "_law_size", "_law_at", "_law_first", "_law_base", "_law_letters", "_law_k"]
theorem sc_f_law_names : FnScope N_f_law_names ["_law_number"] (defScope s_f_law_names) := ⟨rfl, rfl, rfl, by decide +kernel, rfl, by decide +kernel, by decide +kernel⟩
abbrev s_f_law_by_digits : Stmt := topS 29
abbrev N_f_law_by_digits : List Str := ["_law_cell", "_law_number", "_law_many_here", "_law_rules_here", "_law_k", "_law_part", "_law_size", "_law_one", "_law_other"]
theorem sc_f_law_by_digits : FnScope N_f_law_by_digits ["_law_cell"] (defScope s_f_law_by_digits) := ⟨rfl, rfl, rfl, by decide +kernel, rfl, by decide +kernel, by decide +kernel⟩
abbrev s_f_law_by_mixes : Stmt := topS 30
abbrev N_f_law_by_mixes : List Str := ["_law_cell", "_law_names_here", "_law_many_here", "_law_few", "_law_rules_here", "_law_k", "_law_part", "_law_size", "_law_j"]
theorem sc_f_law_by_mixes : FnScope N_f_law_by_mixes ["_law_cell"] (defScope s_f_law_by_mixes) := ⟨rfl, rfl, rfl, by decide +kernel, rfl, by decide +kernel, by decide +kernel⟩
abbrev s_f_law_rules : Stmt := topS 31
abbrev N_f_law_rules : List Str := ["_law_cell", "_law_rules_here", "_law_rule"]
theorem sc_f_law_rules : FnScope N_f_law_rules ["_law_cell"] (defScope s_f_law_rules) := ⟨rfl, rfl, rfl, by decide +kernel, rfl, by decide +kernel, by decide +kernel⟩
abbrev s_f_law_made : Stmt := topS 32
abbrev N_f_law_made : List Str := ["_law_rules_here", "_law_found", "_law_error", "_law_e"]
theorem sc_f_law_made : FnScope N_f_law_made ["_law_rules_here"] (defScope s_f_law_made) := ⟨rfl, rfl, rfl, by decide +kernel, rfl, by decide +kernel, by decide +kernel⟩
abbrev s_f_law_odd_rule : Stmt := topS 33
abbrev N_f_law_odd_rule : List Str := ["_law_cell", "_law_some"]
theorem sc_f_law_odd_rule : FnScope N_f_law_odd_rule ["_law_cell"] (defScope s_f_law_odd_rule) := ⟨rfl, rfl, rfl, by decide +kernel, rfl, by decide +kernel, by decide +kernel⟩
abbrev s_f_law_no_list : Stmt := topS 34
abbrev N_f_law_no_list : List Str := ["_law_cell", "_law_some"]
theorem sc_f_law_no_list : FnScope N_f_law_no_list ["_law_cell"] (defScope s_f_law_no_list) := ⟨rfl, rfl, rfl, by decide +kernel, rfl, by decide +kernel, by decide +kernel⟩
abbrev s_f_law_many : Stmt := topS 35
abbrev N_f_law_many : List Str := ["_law_cell", "_law_letters", "_law_rules_here", "_law_k"]
theorem sc_f_law_many : FnScope N_f_law_many ["_law_cell"] (defScope s_f_law_many) := ⟨rfl, rfl, rfl, by decide +kernel, rfl, by decide +kernel, by decide +kernel⟩
abbrev s_f_law_many_right : Stmt := topS 36
abbrev N_f_law_many_right : List Str := ["_law_more", "_law_many_here", "_law_due"]
theorem sc_f_law_many_right : FnScope N_f_law_many_right ["_law_more"] (defScope s_f_law_many_right) := ⟨rfl, rfl, rfl, by decide +kernel, rfl, by decide +kernel, by decide +kernel⟩
abbrev s_f_law_right : Stmt := topS 37
abbrev N_f_law_right : List Str := ["_law_cell", "_law_rules_here", "_law_way", "_law_at", "_law_more", "_law_odd", "_law_again", "_law_kept"]
theorem sc_f_law_right : FnScope N_f_law_right ["_law_cell"] (defScope s_f_law_right) := ⟨rfl, rfl, rfl, by decide +kernel, rfl, by decide +kernel, by decide +kernel⟩
abbrev s_law : Stmt := topS 38
abbrev N_law : List Str := ["_law_script", "_law_cell"]
theorem sc_law : FnScope N_law ["_law_script"] (defScope s_law) := ⟨rfl, rfl, rfl, by decide +kernel, rfl, by decide +kernel, by decide +kernel⟩
def errC : List (String × String × Bool) := [("NoGrammar", "NoGrammar", true), ("NoGrammar", "NoText", false), ("NoGrammar", "NoRow", false), ("NoGrammar", "NoPart", false), ("NoGrammar", "NoTree", false), ("NoGrammar", "NoChart", false), ("NoGrammar", "NoTable", false), ("NoGrammar", "NoMachine", false), ("NoGrammar", "NoDeed", false), ("NoGrammar", "TooMany", false), ("TooMany", "NoGrammar", false), ("TooMany", "NoText", false), ("TooMany", "NoRow", false), ("TooMany", "NoPart", false), ("TooMany", "NoTree", false), ("TooMany", "NoChart", false), ("TooMany", "NoTable", false), ("TooMany", "NoMachine", false), ("TooMany", "NoDeed", false), ("TooMany", "TooMany", true)]
def errT : List (String × String × Bool) := [("NoGrammar", "ValueError", true), ("TooMany", "ValueError", true)]
def hits_ReadError : List (String × Bool) := [("NoGrammar", true), ("TooMany", true)]
def x2_is_name : SM :=
  sRet (evC (.bl false))
def x1_is_name : SM :=
  sIf (tvOr (tvNot (tvB (evA fIsi (acons (evVar 0) (acons (evC (.ty "str")) (anil)))))) (tvNot (tvB (evCh fLe fLe (evC (.int 1)) (evA fLenD (acons (evVar 0) (anil))) (evC (.int 8)))))) (x2_is_name) (sNext)
def lc_is_name_1 : EM := evLc [1] (itSeq (evVar 0)) (gdName 1) (tvYes) (ev2 (fInD false) (evVar 1) (evC (.str "abcdefghijklmnopqrstuvwxyz")))
def x3_is_name : SM :=
  sRet (evA fAll (acons (lc_is_name_1) (anil)))
def b_is_name : SM :=
  sSeq (x1_is_name)
  (x3_is_name)
def F_is_name : FnSem := runP 2 b_is_name
def x1_each_once : SM :=
  sReg 1 (evDic0)
def x3_each_once : SM :=
  sSetIx fSetA (evC (.bl true)) (evVar 1) (evVar 2)
def lp_each_once_1 : SM :=
  x3_each_once
def x2_each_once : SM :=
  sFor (itSeq (evVar 0)) (gdName 2) (lp_each_once_1)
def x4_each_once : SM :=
  sRet (evA fTupleD (acons (evVar 1) (anil)))
def b_each_once : SM :=
  sSeq (x1_each_once)
  (sSeq (x2_each_once)
  (x4_each_once))
def F_each_once : FnSem := runP 3 b_each_once
def x1_f_law_draws : SM :=
  sReg 2 (evLst (anil))
def x3_f_law_draws : SM :=
  sDrop (evMt "list" fAppend (evVar 2) (acons (ev2 fMod (evVar 0) (evVar 3)) (anil)))
def x4_f_law_draws : SM :=
  sSet 0 (ev2 fDivW (evVar 0) (evVar 3))
def lp_f_law_draws_1 : SM :=
  sSeq (x3_f_law_draws)
  (x4_f_law_draws)
def x2_f_law_draws : SM :=
  sFor (itSeq (evVar 1)) (gdName 3) (lp_f_law_draws_1)
def x5_f_law_draws : SM :=
  sRet (evVar 2)
def b_f_law_draws : SM :=
  sSeq (x1_f_law_draws)
  (sSeq (x2_f_law_draws)
  (x5_f_law_draws))
def F_f_law_draws : FnSem := runP 4 b_f_law_draws
def x1_f_law_mix : SM :=
  sSet 2 (ev2 fMod (ev2 fAdd (ev2 fAdd (ev2 fMulB (evVar 0) (evC (.int 48271))) (ev2 fMulB (evVar 1) (evC (.int 104729)))) (evC (.int 11))) (evC (.int 2147483647)))
def x2_f_law_mix : SM :=
  sRet (ev2 fMod (ev2 fAdd (ev2 fAdd (ev2 fMulB (evVar 2) (evVar 2)) (ev2 fMulB (evC (.int 48271)) (evVar 2))) (evVar 1)) (evC (.int 2147483629)))
def b_f_law_mix : SM :=
  sSeq (x1_f_law_mix)
  (x2_f_law_mix)
def F_f_law_mix : FnSem := runP 3 b_f_law_mix
def x1_f_law_word_of : SM :=
  sSet 1 (evLst (acons (evA (fIsE errC errT) (acons (evVar 0) (acons (evC (.cl "NoGrammar")) (anil)))) (acons (evA (fIsE errC errT) (acons (evVar 0) (acons (evC (.cl "NoText")) (anil)))) (acons (evA (fIsE errC errT) (acons (evVar 0) (acons (evC (.cl "NoRow")) (anil)))) (acons (evA (fIsE errC errT) (acons (evVar 0) (acons (evC (.cl "NoPart")) (anil)))) (anil))))))
def x2_f_law_word_of : SM :=
  sSet 1 (ev2 fAdd (evVar 1) (evLst (acons (evA (fIsE errC errT) (acons (evVar 0) (acons (evC (.cl "NoTree")) (anil)))) (acons (evA (fIsE errC errT) (acons (evVar 0) (acons (evC (.cl "NoChart")) (anil)))) (acons (evA (fIsE errC errT) (acons (evVar 0) (acons (evC (.cl "NoTable")) (anil)))) (acons (evA (fIsE errC errT) (acons (evVar 0) (acons (evC (.cl "NoMachine")) (anil)))) (anil)))))))
def x3_f_law_word_of : SM :=
  sSet 1 (ev2 fAdd (evVar 1) (evLst (acons (evA (fIsE errC errT) (acons (evVar 0) (acons (evC (.cl "NoDeed")) (anil)))) (acons (evA (fIsE errC errT) (acons (evVar 0) (acons (evC (.cl "TooMany")) (anil)))) (anil)))))
def x5_f_law_word_of : SM :=
  sRet (evC (.str "other"))
def x4_f_law_word_of : SM :=
  sIf (tvOr (tvB (ev2 (fEq true) (evMt "list" fCount (evVar 1) (acons (evC (.bl true)) (anil))) (evC (.int 1)))) (tvNot (tvB (evA (fIsE errC errT) (acons (evVar 0) (acons (evC (.ty "ValueError")) (anil))))))) (x5_f_law_word_of) (sNext)
def x6_f_law_word_of : SM :=
  sSet 2 (evLst (acons (evC (.str "NoGrammar")) (acons (evC (.str "NoText")) (acons (evC (.str "NoRow")) (acons (evC (.str "NoPart")) (acons (evC (.str "NoTree")) (acons (evC (.str "NoChart")) (acons (evC (.str "NoTable")) (acons (evC (.str "NoMachine")) (acons (evC (.str "NoDeed")) (anil)))))))))))
def x7_f_law_word_of : SM :=
  sRet (ev2 fIxD (ev2 fAdd (evVar 2) (evLst (acons (evC (.str "TooMany")) (anil)))) (evMt "list" fIndex (evVar 1) (acons (evC (.bl true)) (anil))))
def b_f_law_word_of : SM :=
  sSeq (x1_f_law_word_of)
  (sSeq (x2_f_law_word_of)
  (sSeq (x3_f_law_word_of)
  (sSeq (x4_f_law_word_of)
  (sSeq (x6_f_law_word_of)
  (x7_f_law_word_of)))))
def F_f_law_word_of : FnSem := runP 3 b_f_law_word_of
def x1_f_law_odd_rule : SM :=
  sSet 1 (evLst (acons (evC .non) (acons (evTup (anil)) (acons (evTup (acons (evC (.str "p")) (anil))) (acons (evTup (acons (evC (.str "p")) (acons (evTup (acons (evC (.str "a")) (anil))) (acons (evC (.int 1)) (anil))))) (acons (evTup (acons (evC (.str "p")) (acons (evLst (acons (evC (.str "a")) (anil))) (anil)))) (acons (evLst (acons (evC (.str "p")) (acons (evTup (acons (evC (.str "a")) (anil))) (anil)))) (acons (evTup (acons (evC (.str "P")) (acons (evTup (anil)) (anil)))) (acons (evTup (acons (evC (.str "")) (acons (evTup (anil)) (anil)))) (anil))))))))))
def x2_f_law_odd_rule : SM :=
  sSet 1 (ev2 fAdd (evVar 1) (evLst (acons (evTup (acons (evC (.str "p")) (acons (evTup (acons (evC (.str "A")) (anil))) (anil)))) (acons (evTup (acons (evC (.str "p")) (acons (evC (.str "ab")) (anil)))) (acons (evTup (acons (evC (.str "p")) (acons (evC .non) (anil)))) (acons (evTup (acons (evC (.int 5)) (acons (evTup (anil)) (anil)))) (acons (evTup (acons (evC (.str "p")) (acons (evTup (acons (evC (.int 5)) (anil))) (anil)))) (acons (evTup (acons (evC (.str "abcdefghi")) (acons (evTup (anil)) (anil)))) (anil)))))))))
def x3_f_law_odd_rule : SM :=
  sSet 1 (ev2 fAdd (evVar 1) (evLst (acons (evTup (acons (evC (.str "p")) (acons (evTup (acons (evC (.str "abcdefghi")) (anil))) (anil)))) (anil))))
def x4_f_law_odd_rule : SM :=
  sSet 1 (ev2 fAdd (evVar 1) (evLst (acons (evTup (acons (evC (.str "p")) (acons (ev2 fMulB (evTup (acons (evC (.str "a")) (anil))) (evC (.int 9))) (anil)))) (acons (evC (.str "p = a")) (acons (evC (.int 7)) (acons (evTup (acons (evC (.str "p")) (acons (evTup (acons (evC (.str "a")) (acons (evC (.str "")) (anil)))) (anil)))) (acons (evTup (acons (evC (.str "p")) (acons (evTup (acons (evTup (acons (evC (.str "a")) (anil))) (anil))) (anil)))) (acons (evTup (acons (evC (.str "p q")) (acons (evTup (anil)) (anil)))) (anil)))))))))
def x5_f_law_odd_rule : SM :=
  sSet 1 (ev2 fAdd (evVar 1) (evLst (acons (evTup (acons (evC (.str "p")) (acons (evTup (acons (evC (.str "a b")) (anil))) (anil)))) (acons (evTup (acons (evC .non) (acons (evTup (anil)) (anil)))) (acons (evTup (acons (evC (.str "p")) (acons (evDic0) (anil)))) (acons (evDisp1 (evC (.str "p")) (evTup (anil))) (acons (evC (.bl true)) (acons (evTup (acons (evC (.str "p")) (acons (evTup (acons (evC (.str "=")) (anil))) (anil)))) (acons (evTup (acons (evC (.str "#")) (acons (evTup (anil)) (anil)))) (anil))))))))))
def x6_f_law_odd_rule : SM :=
  sSet 1 (ev2 fAdd (evVar 1) (evLst (acons (evTup (acons (evC (.str "p1")) (acons (evTup (anil)) (anil)))) (acons (evTup (acons (evC (.str "p")) (acons (evTup (acons (evC (.str "-")) (anil))) (anil)))) (anil)))))
def x7_f_law_odd_rule : SM :=
  sRet (ev2 fIxD (evVar 1) (ev2 fMod (evVar 0) (evC (.int 30))))
def b_f_law_odd_rule : SM :=
  sSeq (x1_f_law_odd_rule)
  (sSeq (x2_f_law_odd_rule)
  (sSeq (x3_f_law_odd_rule)
  (sSeq (x4_f_law_odd_rule)
  (sSeq (x5_f_law_odd_rule)
  (sSeq (x6_f_law_odd_rule)
  (x7_f_law_odd_rule))))))
def F_f_law_odd_rule : FnSem := runP 2 b_f_law_odd_rule
def x1_f_law_no_list : SM :=
  sSet 1 (evLst (acons (evC .non) (acons (evC (.int 5)) (acons (evC (.str "")) (acons (evC (.str "p")) (acons (evDic0) (acons (evDisp1 (evC (.str "p")) (evC (.int 1))) (acons (evC (.bl true)) (acons (evLst (anil)) (acons (evTup (anil)) (acons (evLst (acons (evTup (anil)) (anil))) (acons (evLst (acons (evLst (anil)) (anil))) (anil)))))))))))))
def x2_f_law_no_list : SM :=
  sRet (ev2 fIxD (ev2 fAdd (evVar 1) (evLst (acons (evLst (acons (evTup (acons (evC (.str "p")) (acons (evTup (anil)) (anil)))) (acons (evC .non) (anil)))) (anil)))) (ev2 fMod (evVar 0) (evC (.int 12))))
def b_f_law_no_list : SM :=
  sSeq (x1_f_law_no_list)
  (x2_f_law_no_list)
def F_f_law_no_list : FnSem := runP 2 b_f_law_no_list
def x2_is_rule : SM :=
  sRet (evC (.bl false))
def x1_is_rule : SM :=
  sIf (tvOr (tvNot (tvB (evA fIsi (acons (evVar 0) (acons (evC (.ty "tuple")) (anil)))))) (tvOr (tvB (ev2 (fEq true) (evA fLenD (acons (evVar 0) (anil))) (evC (.int 2)))) (tvNot (tvB (evCall 1 F_is_name (acons (ev2 fIxD (evVar 0) (evC (.int 0))) (anil))))))) (x2_is_rule) (sNext)
def x3_is_rule : SM :=
  sSet 1 (ev2 fIxD (evVar 0) (evC (.int 1)))
def lc_is_rule_1 : EM := evLc [2] (itSeq (evVar 1)) (gdName 2) (tvYes) (evCall 1 F_is_name (acons (evVar 2) (anil)))
def x4_is_rule : SM :=
  sRet (evAnd (evA fIsi (acons (evVar 1) (acons (evC (.ty "tuple")) (anil)))) (evAnd (ev2 fLe (evA fLenD (acons (evVar 1) (anil))) (evC (.int 8))) (evA fAll (acons (lc_is_rule_1) (anil)))))
def b_is_rule : SM :=
  sSeq (x1_is_rule)
  (sSeq (x3_is_rule)
  (x4_is_rule))
def F_is_rule : FnSem := runP 3 b_is_rule
def x1_f_law_names : SM :=
  sUn [gdName 1, gdName 2, gdName 3] (evCall 2 F_f_law_draws (acons (evVar 0) (acons (evLst (acons (evC (.int 8)) (acons (evC (.int 8)) (acons (evC (.int 26)) (anil))))) (anil))))
def lc_f_law_names_1 : EM := evLc [6] (itR1 (acons (evVar 1) (anil))) (gdName 6) (tvYes) (ev2 fIxD (evC (.str "abcdefghijklmnopqrstuvwxyz")) (ev2 fMod (evCall 2 F_f_law_mix (acons (evVar 0) (acons (ev2 fAdd (evC (.int 40)) (evVar 6)) (anil)))) (evC (.int 26))))
def x2_f_law_names : SM :=
  sSet 4 (evMt "str" fJoin (evC (.str "")) (acons (lc_f_law_names_1) (anil)))
def x3_f_law_names : SM :=
  sSet 2 (ev2 fMod (evVar 2) (ev2 fAdd (evVar 1) (evC (.int 1))))
def x4_f_law_names : SM :=
  sSet 5 (ev2 fMulB (evC (.str "abcdefghijklmnopqrstuvwxyz")) (evC (.int 2)))
def lc_f_law_names_2 : EM := evLc [6] (itR1 (acons (evC (.int 7)) (anil))) (gdName 6) (tvYes) (ev2 fAdd (ev2 fAdd (evSl (evVar 4) (bNone) (bSome (evVar 2))) (ev2 fIxD (evVar 5) (ev2 fAdd (evVar 3) (ev2 fMulB (evC (.int 3)) (evVar 6))))) (evSl (evVar 4) (bSome (evVar 2)) (bNone)))
def x5_f_law_names : SM :=
  sRet (lc_f_law_names_2)
def b_f_law_names : SM :=
  sSeq (x1_f_law_names)
  (sSeq (x2_f_law_names)
  (sSeq (x3_f_law_names)
  (sSeq (x4_f_law_names)
  (x5_f_law_names))))
def F_f_law_names : FnSem := runP 7 b_f_law_names
def x1_f_law_by_digits : SM :=
  sSet 1 (evA fAbs (acons (evVar 0) (anil)))
def x2_f_law_by_digits : SM :=
  sPar 2 1 (acons (ev2 fMod (evVar 1) (evC (.int 4))) (acons (ev2 fDivW (evVar 1) (evC (.int 4))) (anil)))
def x3_f_law_by_digits : SM :=
  sReg 3 (evLst (anil))
def x5_f_law_by_digits : SM :=
  sUn [gdName 5, gdName 6, gdName 7, gdName 8] (evCall 2 F_f_law_draws (acons (evVar 1) (acons (evLst (acons (evC (.int 2)) (acons (evC (.int 3)) (acons (evC (.int 4)) (acons (evC (.int 4)) (anil)))))) (anil))))
def x6_f_law_by_digits : SM :=
  sSet 1 (ev2 fDivW (evVar 1) (evC (.int 96)))
def x7_f_law_by_digits : SM :=
  sDrop (evMt "list" fAppend (evVar 3) (acons (evTup (acons (ev2 fIxD (evLst (acons (evC (.str "p")) (acons (evC (.str "q")) (anil)))) (evVar 5)) (acons (evSl (evTup (acons (ev2 fIxD (evTup (acons (evC (.str "p")) (acons (evC (.str "q")) (acons (evC (.str "a")) (acons (evC (.str "b")) (anil)))))) (evVar 7)) (acons (ev2 fIxD (evTup (acons (evC (.str "p")) (acons (evC (.str "q")) (acons (evC (.str "a")) (acons (evC (.str "b")) (anil)))))) (evVar 8)) (anil)))) (bNone) (bSome (evVar 6))) (anil)))) (anil)))
def lp_f_law_by_digits_1 : SM :=
  sSeq (x5_f_law_by_digits)
  (sSeq (x6_f_law_by_digits)
  (x7_f_law_by_digits))
def x4_f_law_by_digits : SM :=
  sFor (itR1 (acons (ev2 fAdd (evC (.int 1)) (evVar 2)) (anil))) (gdName 4) (lp_f_law_by_digits_1)
def x8_f_law_by_digits : SM :=
  sRet (evVar 3)
def b_f_law_by_digits : SM :=
  sSeq (x1_f_law_by_digits)
  (sSeq (x2_f_law_by_digits)
  (sSeq (x3_f_law_by_digits)
  (sSeq (x4_f_law_by_digits)
  (x8_f_law_by_digits))))
def F_f_law_by_digits : FnSem := runP 9 b_f_law_by_digits
def x1_f_law_many : SM :=
  sSet 1 (evC (.str "abcdefghijklmnopqrstuvwxyz"))
def x2_f_law_many : SM :=
  sReg 2 (evLst (anil))
def x4_f_law_many : SM :=
  sDrop (evMt "list" fAppend (evVar 2) (acons (evTup (acons (ev2 fAdd (evC (.str "p")) (ev2 fIxD (evVar 1) (ev2 fDivW (evVar 3) (evC (.int 26))))) (acons (evTup (acons (ev2 fIxD (evVar 1) (ev2 fMod (evVar 3) (evC (.int 26)))) (anil))) (anil)))) (anil)))
def lp_f_law_many_1 : SM :=
  x4_f_law_many
def x3_f_law_many : SM :=
  sFor (itR1 (acons (ev2 fAdd (evC (.int 300)) (ev2 fMod (evVar 0) (evC (.int 3)))) (anil))) (gdName 3) (lp_f_law_many_1)
def x6_f_law_many : SM :=
  sSetIx fSetA (evCall 1 F_f_law_odd_rule (acons (ev2 fDivW (evVar 0) (evC (.int 11))) (anil))) (evVar 2) (ev2 fMod (ev2 fDivW (evVar 0) (evC (.int 9))) (evC (.int 300)))
def x5_f_law_many : SM :=
  sIf (tvB (ev2 (fEq false) (ev2 fMod (ev2 fDivW (evVar 0) (evC (.int 3))) (evC (.int 3))) (evC (.int 1)))) (x6_f_law_many) (sNext)
def x8_f_law_many : SM :=
  sSetIx fSetA (ev2 fIxD (evVar 2) (ev2 fMod (ev2 fAdd (ev2 fAdd (ev2 fDivW (evVar 0) (evC (.int 9))) (evC (.int 1))) (ev2 fMod (ev2 fDivW (evVar 0) (evC (.int 11))) (evC (.int 298)))) (evC (.int 300)))) (evVar 2) (ev2 fMod (ev2 fDivW (evVar 0) (evC (.int 9))) (evC (.int 300)))
def x7_f_law_many : SM :=
  sIf (tvB (ev2 (fEq false) (ev2 fMod (ev2 fDivW (evVar 0) (evC (.int 3))) (evC (.int 3))) (evC (.int 2)))) (x8_f_law_many) (sNext)
def x9_f_law_many : SM :=
  sRet (evVar 2)
def b_f_law_many : SM :=
  sSeq (x1_f_law_many)
  (sSeq (x2_f_law_many)
  (sSeq (x3_f_law_many)
  (sSeq (x5_f_law_many)
  (sSeq (x7_f_law_many)
  (x9_f_law_many)))))
def F_f_law_many : FnSem := runP 4 b_f_law_many
def lc_need_rules_1 : EM := evLc [1] (itSeq (evVar 0)) (gdName 1) (tvYes) (evCall 1 F_is_rule (acons (evVar 1) (anil)))
def x2_need_rules : SM :=
  sRaise "NoGrammar"
def x1_need_rules : SM :=
  sIf (tvOr (tvNot (tvB (evA fIsi (acons (evVar 0) (acons (evTup (acons (evC (.ty "list")) (acons (evC (.ty "tuple")) (anil)))) (anil)))))) (tvOr (tvB (ev2 (fEq false) (evA fLenD (acons (evVar 0) (anil))) (evC (.int 0)))) (tvNot (tvB (evA fAll (acons (lc_need_rules_1) (anil))))))) (x2_need_rules) (sNext)
def x4_need_rules : SM :=
  sRaise "NoGrammar"
def x3_need_rules : SM :=
  sIf (tvB (ev2 fLt (evA fLenSet (acons (evVar 0) (anil))) (evA fLenD (acons (evVar 0) (anil))))) (x4_need_rules) (sNext)
def x6_need_rules : SM :=
  sRaise "TooMany"
def x5_need_rules : SM :=
  sIf (tvB (ev2 fGt (evA fLenD (acons (evVar 0) (anil))) (evC (.int 300)))) (x6_need_rules) (sNext)
def b_need_rules : SM :=
  sSeq (x1_need_rules)
  (sSeq (x3_need_rules)
  (x5_need_rules))
def F_need_rules : FnSem := runP 2 b_need_rules
def x1_f_law_by_mixes : SM :=
  sSet 1 (evCall 1 F_f_law_names (acons (evCall 2 F_f_law_mix (acons (evVar 0) (acons (evC (.int 1)) (anil)))) (anil)))
def x2_f_law_by_mixes : SM :=
  sUn [gdName 2, gdName 3] (evCall 2 F_f_law_draws (acons (evCall 2 F_f_law_mix (acons (evVar 0) (acons (evC (.int 2)) (anil)))) (acons (evLst (acons (evC (.int 9)) (acons (evC (.int 4)) (anil)))) (anil))))
def x3_f_law_by_mixes : SM :=
  sReg 4 (evLst (anil))
def x5_f_law_by_mixes : SM :=
  sUn [gdName 6, gdName 7] (evCall 2 F_f_law_draws (acons (evCall 2 F_f_law_mix (acons (evVar 0) (acons (ev2 fAdd (evC (.int 10)) (evVar 5)) (anil)))) (acons (evLst (acons (ev2 fAdd (evC (.int 1)) (evVar 3)) (acons (evC (.int 5)) (anil)))) (anil))))
def lc_f_law_by_mixes_1 : EM := evLc [8] (itR1 (acons (evVar 7) (anil))) (gdName 8) (tvYes) (ev2 fIxD (evVar 1) (ev2 fMod (evCall 2 F_f_law_mix (acons (evVar 0) (acons (ev2 fAdd (ev2 fAdd (evC (.int 100)) (ev2 fMulB (evC (.int 9)) (evVar 5))) (evVar 8)) (anil)))) (evC (.int 7))))
def x6_f_law_by_mixes : SM :=
  sDrop (evMt "list" fAppend (evVar 4) (acons (evTup (acons (ev2 fIxD (evVar 1) (evVar 6)) (acons (evA fTupleD (acons (lc_f_law_by_mixes_1) (anil))) (anil)))) (anil)))
def lp_f_law_by_mixes_1 : SM :=
  sSeq (x5_f_law_by_mixes)
  (x6_f_law_by_mixes)
def x4_f_law_by_mixes : SM :=
  sFor (itR1 (acons (ev2 fAdd (evC (.int 1)) (evVar 2)) (anil))) (gdName 5) (lp_f_law_by_mixes_1)
def x7_f_law_by_mixes : SM :=
  sRet (evVar 4)
def b_f_law_by_mixes : SM :=
  sSeq (x1_f_law_by_mixes)
  (sSeq (x2_f_law_by_mixes)
  (sSeq (x3_f_law_by_mixes)
  (sSeq (x4_f_law_by_mixes)
  (x7_f_law_by_mixes))))
def F_f_law_by_mixes : FnSem := runP 9 b_f_law_by_mixes
def x1_Grammar_init : SM :=
  sDrop (evCallX 1 F_need_rules (acons (evVar 1) (anil)))
def x2_Grammar_init : SM :=
  sFldSet ["Grammar"] "rules" (evA fTupleD (acons (evVar 1) (anil))) (evVar 0)
def lc_Grammar_init_1 : EM := evLc [5, 6] (itSeq (evFld ["Grammar"] "rules" (evVar 0))) (gdUn [gdName 5, gdName 6]) (tvYes) (evVar 5)
def x3_Grammar_init : SM :=
  sFldSet ["Grammar"] "parts" (evCall 1 F_each_once (acons (lc_Grammar_init_1) (anil))) (evVar 0)
def x4_Grammar_init : SM :=
  sFldSet ["Grammar"] "start" (ev2 fIxD (evFld ["Grammar"] "parts" (evVar 0)) (evC (.int 0))) (evVar 0)
def x5_Grammar_init : SM :=
  sFldSet ["Grammar"] "numbers" (evReg (evDic0)) (evVar 0)
def x6_Grammar_init : SM :=
  sReg 2 (evLst (anil))
def x8_Grammar_init : SM :=
  sDrop (evMt "list" fAppend (evDm fSetd (evFld ["Grammar"] "numbers" (evVar 0)) (acons (ev2 fIxD (evVar 4) (evC (.int 0))) (acons (evReg (evLst (anil))) (anil)))) (acons (evVar 3) (anil)))
def x9_Grammar_init : SM :=
  sDrop (evMt "list" fExtend (evVar 2) (acons (ev2 fIxD (evVar 4) (evC (.int 1))) (anil)))
def lp_Grammar_init_1 : SM :=
  sSeq (x8_Grammar_init)
  (x9_Grammar_init)
def x7_Grammar_init : SM :=
  sFor (itEnumA (acons (evFld ["Grammar"] "rules" (evVar 0)) (anil))) (gdUn [gdName 3, gdName 4]) (lp_Grammar_init_1)
def lc_Grammar_init_2 : EM := evLc [7] (itSeq (evCall 1 F_each_once (acons (evVar 2) (anil)))) (gdName 7) (tvB (ev2 (fInD true) (evVar 7) (evFld ["Grammar"] "parts" (evVar 0)))) (evVar 7)
def x10_Grammar_init : SM :=
  sFldSet ["Grammar"] "words" (evA fTupleD (acons (evA fSorted (acons (lc_Grammar_init_2) (anil))) (anil))) (evVar 0)
def b_Grammar_init : SM :=
  sSeq (x1_Grammar_init)
  (sSeq (x2_Grammar_init)
  (sSeq (x3_Grammar_init)
  (sSeq (x4_Grammar_init)
  (sSeq (x5_Grammar_init)
  (sSeq (x6_Grammar_init)
  (sSeq (x7_Grammar_init)
  (x10_Grammar_init)))))))
def F_Grammar_init : FnSem := runK 8 b_Grammar_init
def x1_f_law_rules : SM :=
  sSet 1 (evIf (tvB (ev2 fGeA (evA fAbs (acons (evVar 0) (anil))) (ev2 fPow (evC (.int 10)) (evC (.int 18))))) (evCall 1 F_f_law_by_digits (acons (ev2 fSub (evA fAbs (acons (evVar 0) (anil))) (ev2 fPow (evC (.int 10)) (evC (.int 18)))) (anil))) (evCall 1 F_f_law_by_mixes (acons (evVar 0) (anil))))
def lc_f_law_rules_1 : EM := evLc [2] (itSeq (evVar 1)) (gdName 2) (tvYes) (evTup (acons (evVar 2) (acons (evC (.bl true)) (anil))))
def x2_f_law_rules : SM :=
  sRet (evA fListD (acons (evA fDictP (acons (lc_f_law_rules_1) (anil))) (anil)))
def b_f_law_rules : SM :=
  sSeq (x1_f_law_rules)
  (x2_f_law_rules)
def F_f_law_rules : FnSem := runP 3 b_f_law_rules
def x1_f_law_made : SM :=
  sSet 1 (evC .non)
def x2_f_law_made : SM :=
  sSet 2 (evC .non)
def x4_f_law_made : SM :=
  sSet 1 (evMakeR "Grammar" 1 F_Grammar_init (acons (evVar 0) (anil)))
def x6_f_law_made : SM :=
  sSet 2 (evVar 3)
def x3_f_law_made : SM :=
  sTry 3 hits_ReadError (x4_f_law_made) (x6_f_law_made)
def x7_f_law_made : SM :=
  sRet (evIf (tvB (ev2 (fIsN false) (evVar 2) (evC .non))) (evFld ["Grammar"] "rules" (evVar 1)) (evCall 1 F_f_law_word_of (acons (evVar 2) (anil))))
def b_f_law_made : SM :=
  sSeq (x1_f_law_made)
  (sSeq (x2_f_law_made)
  (sSeq (x3_f_law_made)
  (x7_f_law_made)))
def F_f_law_made : FnSem := runP 4 b_f_law_made
def x1_f_law_many_right : SM :=
  sSet 1 (evCall 1 F_f_law_many (acons (evVar 0) (anil)))
def x2_f_law_many_right : SM :=
  sSet 2 (evC (.str "TooMany"))
def x4_f_law_many_right : SM :=
  sSet 2 (evA fTupleD (acons (evVar 1) (anil)))
def x3_f_law_many_right : SM :=
  sIf (tvB (ev2 (fEq false) (evA fLenD (acons (evVar 1) (anil))) (evC (.int 300)))) (x4_f_law_many_right) (sNext)
def x6_f_law_many_right : SM :=
  sSet 2 (evC (.str "NoGrammar"))
def x5_f_law_many_right : SM :=
  sIf (tvB (ev2 fGt (ev2 fMod (ev2 fDivW (evVar 0) (evC (.int 3))) (evC (.int 3))) (evC (.int 0)))) (x6_f_law_many_right) (sNext)
def x7_f_law_many_right : SM :=
  sRet (ev2 (fEq false) (evCall 1 F_f_law_made (acons (evVar 1) (anil))) (evVar 2))
def b_f_law_many_right : SM :=
  sSeq (x1_f_law_many_right)
  (sSeq (x2_f_law_many_right)
  (sSeq (x3_f_law_many_right)
  (sSeq (x5_f_law_many_right)
  (x7_f_law_many_right))))
def F_f_law_many_right : FnSem := runP 3 b_f_law_many_right
def x1_f_law_right : SM :=
  sSet 1 (evCall 1 F_f_law_rules (acons (evVar 0) (anil)))
def x2_f_law_right : SM :=
  sUn [gdName 2, gdName 3, gdName 4] (evCall 2 F_f_law_draws (acons (evCall 2 F_f_law_mix (acons (evVar 0) (acons (evC (.int 3)) (anil)))) (acons (evLst (acons (evC (.int 5)) (acons (evC (.int 20)) (acons (ev2 fPow (evC (.int 10)) (evC (.int 6))) (anil))))) (anil))))
def x3_f_law_right : SM :=
  sSet 3 (ev2 fMod (evVar 3) (ev2 fAdd (evA fLenD (acons (evVar 1) (anil))) (evC (.int 1))))
def x5_f_law_right : SM :=
  sRet (evC (.bl false))
def x4_f_law_right : SM :=
  sIf (tvB (ev2 (fEq true) (evCall 1 F_f_law_made (acons (evVar 1) (anil))) (evA fTupleD (acons (evVar 1) (anil))))) (x5_f_law_right) (sNext)
def x6_f_law_right : SM :=
  sSet 5 (ev2 fAdd (ev2 fAdd (evSl (evVar 1) (bNone) (bSome (evVar 3))) (evLst (acons (evCall 1 F_f_law_odd_rule (acons (evVar 4) (anil))) (anil)))) (evSl (evVar 1) (bSome (evVar 3)) (bNone)))
def x8_f_law_right : SM :=
  sSet 6 (ev2 fIxD (evVar 1) (ev2 fMod (evVar 4) (evA fLenD (acons (evVar 1) (anil)))))
def x9_f_law_right : SM :=
  sSet 5 (ev2 fAdd (ev2 fAdd (evSl (evVar 1) (bNone) (bSome (evVar 3))) (evLst (acons (evVar 6) (anil)))) (evSl (evVar 1) (bSome (evVar 3)) (bNone)))
def x7_f_law_right : SM :=
  sIf (tvB (ev2 (fEq false) (evVar 2) (evC (.int 3)))) (sSeq (x8_f_law_right)
  (x9_f_law_right)) (sNext)
def x11_f_law_right : SM :=
  sSet 5 (evCall 1 F_f_law_no_list (acons (evVar 4) (anil)))
def x10_f_law_right : SM :=
  sIf (tvB (ev2 (fEq false) (evVar 2) (evC (.int 4)))) (x11_f_law_right) (sNext)
def x12_f_law_right : SM :=
  sSet 7 (evA fReprX (acons (evVar 5) (anil)))
def x14_f_law_right : SM :=
  sRet (evC (.bl false))
def x13_f_law_right : SM :=
  sIf (tvOr (tvB (ev2 (fEq true) (evCall 1 F_f_law_made (acons (evVar 5) (anil))) (evC (.str "NoGrammar")))) (tvB (ev2 (fEq true) (evA fReprX (acons (evVar 5) (anil))) (evVar 7)))) (x14_f_law_right) (sNext)
def x15_f_law_right : SM :=
  sRet (evOr (ev2 fGt (evVar 2) (evC (.int 0))) (evCall 1 F_f_law_many_right (acons (evVar 4) (anil))))
def b_f_law_right : SM :=
  sSeq (x1_f_law_right)
  (sSeq (x2_f_law_right)
  (sSeq (x3_f_law_right)
  (sSeq (x4_f_law_right)
  (sSeq (x6_f_law_right)
  (sSeq (x7_f_law_right)
  (sSeq (x10_f_law_right)
  (sSeq (x12_f_law_right)
  (sSeq (x13_f_law_right)
  (x15_f_law_right)))))))))
def F_f_law_right : FnSem := runP 8 b_f_law_right
def lc_law_1 : EM := evLc [1] (itSeq (ev2 fAdd (evVar 0) (evLst (acons (evC (.int 0)) (acons (evC (.int 1)) (acons (evC (.int 2)) (acons (evC (.int 3)) (acons (evC (.int 4)) (acons (evC (.int 5)) (anil)))))))))) (gdName 1) (tvYes) (evCall 1 F_f_law_right (acons (evVar 1) (anil)))
def x1_law : SM :=
  sRet (evA fAll (acons (lc_law_1) (anil)))
def b_law : SM :=
  x1_law
def F_law : FnSem := runP 2 b_law
/-- the classes' places -/
structure Ca where
  ReadError : Addr
  NoGrammar : Addr
  NoText : Addr
  NoRow : Addr
  NoPart : Addr
  NoTree : Addr
  NoChart : Addr
  NoTable : Addr
  NoMachine : Addr
  NoDeed : Addr
  TooMany : Addr
  Grammar : Addr
abbrev gx (K : PySem.W.Frag) (w : World) (ca : Ca) : Gx := ⟨K, fun c => if c = "ReadError" then some ca.ReadError else if c = "NoGrammar" then some ca.NoGrammar else if c = "NoText" then some ca.NoText else if c = "NoRow" then some ca.NoRow else if c = "NoPart" then some ca.NoPart else if c = "NoTree" then some ca.NoTree else if c = "NoChart" then some ca.NoChart else if c = "NoTable" then some ca.NoTable else if c = "NoMachine" then some ca.NoMachine else if c = "NoDeed" then some ca.NoDeed else if c = "TooMany" then some ca.TooMany else if c = "Grammar" then some ca.Grammar else none, w⟩
theorem cm_ReadError {K : PySem.W.Frag} {w : World} {ca : Ca} : (gx K w ca).cm "ReadError" = some ca.ReadError := by simp [gx]
theorem cm_NoGrammar {K : PySem.W.Frag} {w : World} {ca : Ca} : (gx K w ca).cm "NoGrammar" = some ca.NoGrammar := by simp [gx]
theorem cm_NoText {K : PySem.W.Frag} {w : World} {ca : Ca} : (gx K w ca).cm "NoText" = some ca.NoText := by simp [gx]
theorem cm_NoRow {K : PySem.W.Frag} {w : World} {ca : Ca} : (gx K w ca).cm "NoRow" = some ca.NoRow := by simp [gx]
theorem cm_NoPart {K : PySem.W.Frag} {w : World} {ca : Ca} : (gx K w ca).cm "NoPart" = some ca.NoPart := by simp [gx]
theorem cm_NoTree {K : PySem.W.Frag} {w : World} {ca : Ca} : (gx K w ca).cm "NoTree" = some ca.NoTree := by simp [gx]
theorem cm_NoChart {K : PySem.W.Frag} {w : World} {ca : Ca} : (gx K w ca).cm "NoChart" = some ca.NoChart := by simp [gx]
theorem cm_NoTable {K : PySem.W.Frag} {w : World} {ca : Ca} : (gx K w ca).cm "NoTable" = some ca.NoTable := by simp [gx]
theorem cm_NoMachine {K : PySem.W.Frag} {w : World} {ca : Ca} : (gx K w ca).cm "NoMachine" = some ca.NoMachine := by simp [gx]
theorem cm_NoDeed {K : PySem.W.Frag} {w : World} {ca : Ca} : (gx K w ca).cm "NoDeed" = some ca.NoDeed := by simp [gx]
theorem cm_TooMany {K : PySem.W.Frag} {w : World} {ca : Ca} : (gx K w ca).cm "TooMany" = some ca.TooMany := by simp [gx]
theorem cm_Grammar {K : PySem.W.Frag} {w : World} {ca : Ca} : (gx K w ca).cm "Grammar" = some ca.Grammar := by simp [gx]
structure ErrF (K : PySem.W.Frag) (C : Addr) : Prop where
  x : PySem.W.excIn K C [.type "ValueError", .type "Exception", .type "BaseException", .type "object"] "ValueError.__new__" = true
  k : PySem.W.keepIn K (.ref C) = true
  b : PySem.W.subIn K (.ref C) (.type "BaseException") = some true
  t : PySem.W.typeIn K (.ref C) = some (.type "type")
/-- what the top has: no other names for the built-ins, the constants, the classes -/
structure Tx (K : PySem.W.Frag) (w : World) (mg : Str → Option Value) (ca : Ca) : Prop where
  n_ValueError : mg "ValueError" = none
  n_abs : mg "abs" = none
  n_all : mg "all" = none
  n_dict : mg "dict" = none
  n_enumerate : mg "enumerate" = none
  n_isinstance : mg "isinstance" = none
  n_len : mg "len" = none
  n_list : mg "list" = none
  n_range : mg "range" = none
  n_repr : mg "repr" = none
  n_set : mg "set" = none
  n_sorted : mg "sorted" = none
  n_str : mg "str" = none
  n_tuple : mg "tuple" = none
  c_LETTERS : ∃ t, mg "LETTERS" = some (.str "abcdefghijklmnopqrstuvwxyz" t)
  c_MOST_LETTERS : ∃ t, mg "MOST_LETTERS" = some (.int 8 t)
  c_MOST_NAMES : ∃ t, mg "MOST_NAMES" = some (.int 8 t)
  c_MOST_RULES : ∃ t, mg "MOST_RULES" = some (.int 300 t)
  g_ReadError : mg "ReadError" = some (.ref ca.ReadError)
  g_NoGrammar : mg "NoGrammar" = some (.ref ca.NoGrammar)
  g_NoText : mg "NoText" = some (.ref ca.NoText)
  g_NoRow : mg "NoRow" = some (.ref ca.NoRow)
  g_NoPart : mg "NoPart" = some (.ref ca.NoPart)
  g_NoTree : mg "NoTree" = some (.ref ca.NoTree)
  g_NoChart : mg "NoChart" = some (.ref ca.NoChart)
  g_NoTable : mg "NoTable" = some (.ref ca.NoTable)
  g_NoMachine : mg "NoMachine" = some (.ref ca.NoMachine)
  g_NoDeed : mg "NoDeed" = some (.ref ca.NoDeed)
  g_TooMany : mg "TooMany" = some (.ref ca.TooMany)
  g_Grammar : mg "Grammar" = some (.ref ca.Grammar)
  e_NoGrammar : ErrF K ca.NoGrammar
  e_TooMany : ErrF K ca.TooMany
  cl_Grammar : Cls K ca.Grammar
  fl_numbers : ∀ c, (["Grammar"] : List String).contains c = true → ∀ C, (gx K w ca).cm c = some C → Cls K C ∧ NoAttr K C "numbers"
  fl_parts : ∀ c, (["Grammar"] : List String).contains c = true → ∀ C, (gx K w ca).cm c = some C → Cls K C ∧ NoAttr K C "parts"
  fl_rules : ∀ c, (["Grammar"] : List String).contains c = true → ∀ C, (gx K w ca).cm c = some C → Cls K C ∧ NoAttr K C "rules"
  fl_start : ∀ c, (["Grammar"] : List String).contains c = true → ∀ C, (gx K w ca).cm c = some C → Cls K C ∧ NoAttr K C "start"
  fl_words : ∀ c, (["Grammar"] : List String).contains c = true → ∀ C, (gx K w ca).cm c = some C → Cls K C ∧ NoAttr K C "words"
  errC : ∀ t ∈ errC, ∀ C C', (gx K w ca).cm t.1 = some C → (gx K w ca).cm t.2.1 = some C' → ExcC K C ∧ PySem.W.kitOne K (.ref C) (.ref C') = some t.2.2
  errT : ∀ t ∈ errT, ∀ C, (gx K w ca).cm t.1 = some C → ExcC K C ∧ PySem.W.kitOne K (.ref C) (.type t.2.1) = some t.2.2
  hits_ReadError : ∀ t ∈ hits_ReadError, ∀ C, (gx K w ca).cm t.1 = some C → PySem.W.exmOne K (.ref C) (.ref ca.ReadError) = some t.2
section
variable {P : Program} {w : World} {K : PySem.W.Frag} {mg : Str → Option Value} {base : Heap} {ca : Ca}
theorem ok_is_name (T : Tx K w mg ca) (D_ : At K mg "is_name" "is_name" s_is_name ["thing"])  : Ok P w K mg base (gx K w ca) 1 "is_name" 1 F_is_name :=
  ok_ofQ runsP D_ sc_is_name rfl rfl fun f cdv A outer s H Ex hr =>
   pSs_cons (pS_if ((pW_or (pT_not (pT_val (pI_callB call_isi2 callS_isi (by rfl) T.n_isinstance (by first | rfl | decide +kernel) (pI_cons (pI_var (i := 0) rfl (by first | exact Or.inl rfl | exact Or.inr (Or.inl rfl) | exact Or.inr (Or.inr rfl))) (pI_cons (pI_ty (n := "str") (by rfl) T.n_str (by first | rfl | decide +kernel)) (pI_nil)))))) (pW_or1 (pT_not (pT_chain op_le opS_cmp op_le opS_cmp (pI_int) (pI_callB (CallR.or call_lenD2 call_len) callS_lenD (by rfl) T.n_len (by first | rfl | decide +kernel) (pI_cons (pI_var (i := 0) rfl (by first | exact Or.inl rfl | exact Or.inr (Or.inl rfl) | exact Or.inr (Or.inr rfl))) (pI_nil))) (pI_gint (by rfl) T.c_MOST_LETTERS))))).pt) (pSs_one (pS_ret (pI_bl))) (pSs_nil))
    (pSs_one (pS_ret (pI_callB (cr_all rfl) callS_all (by rfl) T.n_all (by first | rfl | decide +kernel) (pI_cons (pI_lc (own := [("letter", 1)]) rfl sc_is_name.nd (pIt_seq rfl (pI_var (i := 0) rfl (by first | exact Or.inl rfl | exact Or.inr (Or.inl rfl) | exact Or.inr (Or.inr rfl)))) (blkOk_by (N := N_is_name) (sc := (defScope s_is_name)) (by decide +kernel)) (fun _ _ _ _ _ => pG_name (i := 1) sc_is_name.nd rfl (by first | exact Or.inl rfl | exact Or.inr rfl)) (fun _ _ _ _ _ => pTs_nil) (fun _ _ _ _ _ => pI_cmp (opInD (lt9 (room65 hr)) (op_inA hr.units)) opS_inD (pI_var (i := 1) rfl (by first | exact Or.inl rfl | exact Or.inr (Or.inl rfl) | exact Or.inr (Or.inr rfl))) (pI_gstr (by rfl) T.c_LETTERS) rfl) (by decide)) (pI_nil)))))
theorem ok_each_once (T : Tx K w mg ca) (D_ : At K mg "each_once" "each_once" s_each_once ["things"])  : Ok P w K mg base (gx K w ca) 1 "each_once" 1 F_each_once :=
  ok_ofQ runsP D_ sc_each_once rfl rfl fun f cdv A outer s H Ex hr =>
   pSs_cons (pS_reg (i := 1) sc_each_once.nd rfl (by first | exact Or.inl rfl | exact Or.inr rfl) (pI_dic0))
    (pSs_cons (pS_for PassesOwn.never rfl (pIt_seq rfl (pI_var (i := 0) rfl (by first | exact Or.inl rfl | exact Or.inr (Or.inl rfl) | exact Or.inr (Or.inr rfl)))) (pG_name (i := 2) sc_each_once.nd rfl (by first | exact Or.inl rfl | exact Or.inr rfl)) (pSs_one (pS_setIx (set_setA (lt9 (room65 hr))) setS_setA (pI_bl) (pI_var (i := 1) rfl (by first | exact Or.inl rfl | exact Or.inr (Or.inl rfl) | exact Or.inr (Or.inr rfl))) (pI_var (i := 2) rfl (by first | exact Or.inl rfl | exact Or.inr (Or.inl rfl) | exact Or.inr (Or.inr rfl))))))
    (pSs_one (pS_ret (pI_callTy (CallR.or (call_tupD2 rfl) call_tuple_of) callS_tupleD (by rfl) T.n_tuple (by first | rfl | decide +kernel) (pI_cons (pI_var (i := 1) rfl (by first | exact Or.inl rfl | exact Or.inr (Or.inl rfl) | exact Or.inr (Or.inr rfl))) (pI_nil))))))
theorem ok_f_law_draws (T : Tx K w mg ca) (D_ : At K mg "_law_draws" "_law_draws" s_f_law_draws ["_law_number", "_law_sizes"])  : Ok P w K mg base (gx K w ca) 1 "_law_draws" 2 F_f_law_draws :=
  ok_ofQ runsP D_ sc_f_law_draws rfl rfl fun f cdv A outer s H Ex hr =>
   pSs_cons (pS_reg (i := 2) sc_f_law_draws.nd rfl (by first | exact Or.inl rfl | exact Or.inr rfl) (pI_lst (pI_nil)))
    (pSs_cons (pS_for PassesOwn.never rfl (pIt_seq rfl (pI_var (i := 1) rfl (by first | exact Or.inl rfl | exact Or.inr (Or.inl rfl) | exact Or.inr (Or.inr rfl)))) (pG_name (i := 3) sc_f_law_draws.nd rfl (by first | exact Or.inl rfl | exact Or.inr rfl)) (pSs_cons (pS_expr (pI_bm rfl PySem.F.plainAttrs_list PySem.F.slot_list_append PySem.F.type_list_append mt_append mtS_append (pI_var (i := 2) rfl (by first | exact Or.inl rfl | exact Or.inr (Or.inl rfl) | exact Or.inr (Or.inr rfl))) (pI_cons (pI_op op_mod opS_mod (pI_var (i := 0) rfl (by first | exact Or.inl rfl | exact Or.inr (Or.inl rfl) | exact Or.inr (Or.inr rfl))) (pI_var (i := 3) rfl (by first | exact Or.inl rfl | exact Or.inr (Or.inl rfl) | exact Or.inr (Or.inr rfl)))) (pI_nil))))
    (pSs_one (pS_set (i := 0) sc_f_law_draws.nd rfl (by first | exact Or.inl rfl | exact Or.inr rfl) (pI_op op_fdivW opS_divW (pI_var (i := 0) rfl (by first | exact Or.inl rfl | exact Or.inr (Or.inl rfl) | exact Or.inr (Or.inr rfl))) (pI_var (i := 3) rfl (by first | exact Or.inl rfl | exact Or.inr (Or.inl rfl) | exact Or.inr (Or.inr rfl))))))))
    (pSs_one (pS_ret (pI_var (i := 2) rfl (by first | exact Or.inl rfl | exact Or.inr (Or.inl rfl) | exact Or.inr (Or.inr rfl))))))
theorem ok_f_law_mix (T : Tx K w mg ca) (D_ : At K mg "_law_mix" "_law_mix" s_f_law_mix ["_law_number", "_law_k"])  : Ok P w K mg base (gx K w ca) 1 "_law_mix" 2 F_f_law_mix :=
  ok_ofQ runsP D_ sc_f_law_mix rfl rfl fun f cdv A outer s H Ex hr =>
   pSs_cons (pS_set (i := 2) sc_f_law_mix.nd rfl (by first | exact Or.inl rfl | exact Or.inr rfl) (pI_op op_mod opS_mod (pI_op op_addA opS_add (pI_op op_addA opS_add (pI_op (OpR.or op_repL (OpR.or op_mulS (OpR.or op_mul op_repT))) opS_mulB (pI_var (i := 0) rfl (by first | exact Or.inl rfl | exact Or.inr (Or.inl rfl) | exact Or.inr (Or.inr rfl))) (pI_int)) (pI_op (OpR.or op_repL (OpR.or op_mulS (OpR.or op_mul op_repT))) opS_mulB (pI_var (i := 1) rfl (by first | exact Or.inl rfl | exact Or.inr (Or.inl rfl) | exact Or.inr (Or.inr rfl))) (pI_int))) (pI_int)) (pI_int)))
    (pSs_one (pS_ret (pI_op op_mod opS_mod (pI_op op_addA opS_add (pI_op op_addA opS_add (pI_op (OpR.or op_repL (OpR.or op_mulS (OpR.or op_mul op_repT))) opS_mulB (pI_var (i := 2) rfl (by first | exact Or.inl rfl | exact Or.inr (Or.inl rfl) | exact Or.inr (Or.inr rfl))) (pI_var (i := 2) rfl (by first | exact Or.inl rfl | exact Or.inr (Or.inl rfl) | exact Or.inr (Or.inr rfl)))) (pI_op (OpR.or op_repL (OpR.or op_mulS (OpR.or op_mul op_repT))) opS_mulB (pI_int) (pI_var (i := 2) rfl (by first | exact Or.inl rfl | exact Or.inr (Or.inl rfl) | exact Or.inr (Or.inr rfl))))) (pI_var (i := 1) rfl (by first | exact Or.inl rfl | exact Or.inr (Or.inl rfl) | exact Or.inr (Or.inr rfl)))) (pI_int))))
theorem ok_f_law_word_of (T : Tx K w mg ca) (D_ : At K mg "_law_word_of" "_law_word_of" s_f_law_word_of ["_law_e"])  : Ok P w K mg base (gx K w ca) 1 "_law_word_of" 1 F_f_law_word_of :=
  ok_ofQ runsP D_ sc_f_law_word_of rfl rfl fun f cdv A outer s H Ex hr =>
   pSs_cons (pS_set (i := 1) sc_f_law_word_of.nd rfl (by first | exact Or.inl rfl | exact Or.inr rfl) (pI_lst (pI_cons (pI_callB call_isErr (callS_isE T.errC T.errT) (by rfl) T.n_isinstance (by decide +kernel) (pI_cons (pI_var (i := 0) rfl (by first | exact Or.inl rfl | exact Or.inr (Or.inl rfl) | exact Or.inr (Or.inr rfl))) (pI_cons (pI_cls (by rfl) T.g_NoGrammar (cm_NoGrammar (ca := ca))) (pI_nil)))) (pI_cons (pI_callB call_isErr (callS_isE T.errC T.errT) (by rfl) T.n_isinstance (by decide +kernel) (pI_cons (pI_var (i := 0) rfl (by first | exact Or.inl rfl | exact Or.inr (Or.inl rfl) | exact Or.inr (Or.inr rfl))) (pI_cons (pI_cls (by rfl) T.g_NoText (cm_NoText (ca := ca))) (pI_nil)))) (pI_cons (pI_callB call_isErr (callS_isE T.errC T.errT) (by rfl) T.n_isinstance (by decide +kernel) (pI_cons (pI_var (i := 0) rfl (by first | exact Or.inl rfl | exact Or.inr (Or.inl rfl) | exact Or.inr (Or.inr rfl))) (pI_cons (pI_cls (by rfl) T.g_NoRow (cm_NoRow (ca := ca))) (pI_nil)))) (pI_cons (pI_callB call_isErr (callS_isE T.errC T.errT) (by rfl) T.n_isinstance (by decide +kernel) (pI_cons (pI_var (i := 0) rfl (by first | exact Or.inl rfl | exact Or.inr (Or.inl rfl) | exact Or.inr (Or.inr rfl))) (pI_cons (pI_cls (by rfl) T.g_NoPart (cm_NoPart (ca := ca))) (pI_nil)))) (pI_nil)))))))
    (pSs_cons (pS_set (i := 1) sc_f_law_word_of.nd rfl (by first | exact Or.inl rfl | exact Or.inr rfl) (pI_op op_addA opS_add (pI_var (i := 1) rfl (by first | exact Or.inl rfl | exact Or.inr (Or.inl rfl) | exact Or.inr (Or.inr rfl))) (pI_lst (pI_cons (pI_callB call_isErr (callS_isE T.errC T.errT) (by rfl) T.n_isinstance (by decide +kernel) (pI_cons (pI_var (i := 0) rfl (by first | exact Or.inl rfl | exact Or.inr (Or.inl rfl) | exact Or.inr (Or.inr rfl))) (pI_cons (pI_cls (by rfl) T.g_NoTree (cm_NoTree (ca := ca))) (pI_nil)))) (pI_cons (pI_callB call_isErr (callS_isE T.errC T.errT) (by rfl) T.n_isinstance (by decide +kernel) (pI_cons (pI_var (i := 0) rfl (by first | exact Or.inl rfl | exact Or.inr (Or.inl rfl) | exact Or.inr (Or.inr rfl))) (pI_cons (pI_cls (by rfl) T.g_NoChart (cm_NoChart (ca := ca))) (pI_nil)))) (pI_cons (pI_callB call_isErr (callS_isE T.errC T.errT) (by rfl) T.n_isinstance (by decide +kernel) (pI_cons (pI_var (i := 0) rfl (by first | exact Or.inl rfl | exact Or.inr (Or.inl rfl) | exact Or.inr (Or.inr rfl))) (pI_cons (pI_cls (by rfl) T.g_NoTable (cm_NoTable (ca := ca))) (pI_nil)))) (pI_cons (pI_callB call_isErr (callS_isE T.errC T.errT) (by rfl) T.n_isinstance (by decide +kernel) (pI_cons (pI_var (i := 0) rfl (by first | exact Or.inl rfl | exact Or.inr (Or.inl rfl) | exact Or.inr (Or.inr rfl))) (pI_cons (pI_cls (by rfl) T.g_NoMachine (cm_NoMachine (ca := ca))) (pI_nil)))) (pI_nil))))))))
    (pSs_cons (pS_set (i := 1) sc_f_law_word_of.nd rfl (by first | exact Or.inl rfl | exact Or.inr rfl) (pI_op op_addA opS_add (pI_var (i := 1) rfl (by first | exact Or.inl rfl | exact Or.inr (Or.inl rfl) | exact Or.inr (Or.inr rfl))) (pI_lst (pI_cons (pI_callB call_isErr (callS_isE T.errC T.errT) (by rfl) T.n_isinstance (by decide +kernel) (pI_cons (pI_var (i := 0) rfl (by first | exact Or.inl rfl | exact Or.inr (Or.inl rfl) | exact Or.inr (Or.inr rfl))) (pI_cons (pI_cls (by rfl) T.g_NoDeed (cm_NoDeed (ca := ca))) (pI_nil)))) (pI_cons (pI_callB call_isErr (callS_isE T.errC T.errT) (by rfl) T.n_isinstance (by decide +kernel) (pI_cons (pI_var (i := 0) rfl (by first | exact Or.inl rfl | exact Or.inr (Or.inl rfl) | exact Or.inr (Or.inr rfl))) (pI_cons (pI_cls (by rfl) T.g_TooMany (cm_TooMany (ca := ca))) (pI_nil)))) (pI_nil))))))
    (pSs_cons (pS_if ((pW_or (pT_cmp (op_neP hr.units) opS_eq (pI_bm rfl PySem.F.plainAttrs_list PySem.F.slot_list_count PySem.F.type_list_count (mt_countD hr.units) mtS_count (pI_var (i := 1) rfl (by first | exact Or.inl rfl | exact Or.inr (Or.inl rfl) | exact Or.inr (Or.inr rfl))) (pI_cons (pI_bl) (pI_nil))) (pI_int) (nomark _)) (pW_or1 (pT_not (pT_val (pI_callB call_isErr (callS_isE T.errC T.errT) (by rfl) T.n_isinstance (by decide +kernel) (pI_cons (pI_var (i := 0) rfl (by first | exact Or.inl rfl | exact Or.inr (Or.inl rfl) | exact Or.inr (Or.inr rfl))) (pI_cons (pI_ty (n := "ValueError") (by rfl) T.n_ValueError (by first | rfl | decide +kernel)) (pI_nil)))))))).pt) (pSs_one (pS_ret (pI_str))) (pSs_nil))
    (pSs_cons (pS_set (i := 2) sc_f_law_word_of.nd rfl (by first | exact Or.inl rfl | exact Or.inr rfl) (pI_lst (pI_cons (pI_str) (pI_cons (pI_str) (pI_cons (pI_str) (pI_cons (pI_str) (pI_cons (pI_str) (pI_cons (pI_str) (pI_cons (pI_str) (pI_cons (pI_str) (pI_cons (pI_str) (pI_nil))))))))))))
    (pSs_one (pS_ret (pI_ix (ix_all (lt9 (room65 hr))) opS_ixD (pI_op op_addA opS_add (pI_var (i := 2) rfl (by first | exact Or.inl rfl | exact Or.inr (Or.inl rfl) | exact Or.inr (Or.inr rfl))) (pI_lst (pI_cons (pI_str) (pI_nil)))) (pI_bm rfl PySem.F.plainAttrs_list PySem.F.slot_list_index PySem.F.type_list_index (mt_indexD (room65 hr)) mtS_index (pI_var (i := 1) rfl (by first | exact Or.inl rfl | exact Or.inr (Or.inl rfl) | exact Or.inr (Or.inr rfl))) (pI_cons (pI_bl) (pI_nil))) (fun _ _ => rfl))))))))
theorem ok_f_law_odd_rule (T : Tx K w mg ca) (D_ : At K mg "_law_odd_rule" "_law_odd_rule" s_f_law_odd_rule ["_law_cell"])  : Ok P w K mg base (gx K w ca) 1 "_law_odd_rule" 1 F_f_law_odd_rule :=
  ok_ofQ runsP D_ sc_f_law_odd_rule rfl rfl fun f cdv A outer s H Ex hr =>
   pSs_cons (pS_set (i := 1) sc_f_law_odd_rule.nd rfl (by first | exact Or.inl rfl | exact Or.inr rfl) (pI_lst (pI_cons (pI_non) (pI_cons (pI_tup (pI_nil)) (pI_cons (pI_tup (pI_cons (pI_str) (pI_nil))) (pI_cons (pI_tup (pI_cons (pI_str) (pI_cons (pI_tup (pI_cons (pI_str) (pI_nil))) (pI_cons (pI_int) (pI_nil))))) (pI_cons (pI_tup (pI_cons (pI_str) (pI_cons (pI_lst (pI_cons (pI_str) (pI_nil))) (pI_nil)))) (pI_cons (pI_lst (pI_cons (pI_str) (pI_cons (pI_tup (pI_cons (pI_str) (pI_nil))) (pI_nil)))) (pI_cons (pI_tup (pI_cons (pI_str) (pI_cons (pI_tup (pI_nil)) (pI_nil)))) (pI_cons (pI_tup (pI_cons (pI_str) (pI_cons (pI_tup (pI_nil)) (pI_nil)))) (pI_nil)))))))))))
    (pSs_cons (pS_set (i := 1) sc_f_law_odd_rule.nd rfl (by first | exact Or.inl rfl | exact Or.inr rfl) (pI_op op_addA opS_add (pI_var (i := 1) rfl (by first | exact Or.inl rfl | exact Or.inr (Or.inl rfl) | exact Or.inr (Or.inr rfl))) (pI_lst (pI_cons (pI_tup (pI_cons (pI_str) (pI_cons (pI_tup (pI_cons (pI_str) (pI_nil))) (pI_nil)))) (pI_cons (pI_tup (pI_cons (pI_str) (pI_cons (pI_str) (pI_nil)))) (pI_cons (pI_tup (pI_cons (pI_str) (pI_cons (pI_non) (pI_nil)))) (pI_cons (pI_tup (pI_cons (pI_int) (pI_cons (pI_tup (pI_nil)) (pI_nil)))) (pI_cons (pI_tup (pI_cons (pI_str) (pI_cons (pI_tup (pI_cons (pI_int) (pI_nil))) (pI_nil)))) (pI_cons (pI_tup (pI_cons (pI_str) (pI_cons (pI_tup (pI_nil)) (pI_nil)))) (pI_nil))))))))))
    (pSs_cons (pS_set (i := 1) sc_f_law_odd_rule.nd rfl (by first | exact Or.inl rfl | exact Or.inr rfl) (pI_op op_addA opS_add (pI_var (i := 1) rfl (by first | exact Or.inl rfl | exact Or.inr (Or.inl rfl) | exact Or.inr (Or.inr rfl))) (pI_lst (pI_cons (pI_tup (pI_cons (pI_str) (pI_cons (pI_tup (pI_cons (pI_str) (pI_nil))) (pI_nil)))) (pI_nil)))))
    (pSs_cons (pS_set (i := 1) sc_f_law_odd_rule.nd rfl (by first | exact Or.inl rfl | exact Or.inr rfl) (pI_op op_addA opS_add (pI_var (i := 1) rfl (by first | exact Or.inl rfl | exact Or.inr (Or.inl rfl) | exact Or.inr (Or.inr rfl))) (pI_lst (pI_cons (pI_tup (pI_cons (pI_str) (pI_cons (pI_op (OpR.or op_repL (OpR.or op_mulS (OpR.or op_mul op_repT))) opS_mulB (pI_tup (pI_cons (pI_str) (pI_nil))) (pI_int)) (pI_nil)))) (pI_cons (pI_str) (pI_cons (pI_int) (pI_cons (pI_tup (pI_cons (pI_str) (pI_cons (pI_tup (pI_cons (pI_str) (pI_cons (pI_str) (pI_nil)))) (pI_nil)))) (pI_cons (pI_tup (pI_cons (pI_str) (pI_cons (pI_tup (pI_cons (pI_tup (pI_cons (pI_str) (pI_nil))) (pI_nil))) (pI_nil)))) (pI_cons (pI_tup (pI_cons (pI_str) (pI_cons (pI_tup (pI_nil)) (pI_nil)))) (pI_nil))))))))))
    (pSs_cons (pS_set (i := 1) sc_f_law_odd_rule.nd rfl (by first | exact Or.inl rfl | exact Or.inr rfl) (pI_op op_addA opS_add (pI_var (i := 1) rfl (by first | exact Or.inl rfl | exact Or.inr (Or.inl rfl) | exact Or.inr (Or.inr rfl))) (pI_lst (pI_cons (pI_tup (pI_cons (pI_str) (pI_cons (pI_tup (pI_cons (pI_str) (pI_nil))) (pI_nil)))) (pI_cons (pI_tup (pI_cons (pI_non) (pI_cons (pI_tup (pI_nil)) (pI_nil)))) (pI_cons (pI_tup (pI_cons (pI_str) (pI_cons (pI_dic0) (pI_nil)))) (pI_cons (pI_disp1 (pI_str) (pI_tup (pI_nil))) (pI_cons (pI_bl) (pI_cons (pI_tup (pI_cons (pI_str) (pI_cons (pI_tup (pI_cons (pI_str) (pI_nil))) (pI_nil)))) (pI_cons (pI_tup (pI_cons (pI_str) (pI_cons (pI_tup (pI_nil)) (pI_nil)))) (pI_nil)))))))))))
    (pSs_cons (pS_set (i := 1) sc_f_law_odd_rule.nd rfl (by first | exact Or.inl rfl | exact Or.inr rfl) (pI_op op_addA opS_add (pI_var (i := 1) rfl (by first | exact Or.inl rfl | exact Or.inr (Or.inl rfl) | exact Or.inr (Or.inr rfl))) (pI_lst (pI_cons (pI_tup (pI_cons (pI_str) (pI_cons (pI_tup (pI_nil)) (pI_nil)))) (pI_cons (pI_tup (pI_cons (pI_str) (pI_cons (pI_tup (pI_cons (pI_str) (pI_nil))) (pI_nil)))) (pI_nil))))))
    (pSs_one (pS_ret (pI_ix (ix_all (lt9 (room65 hr))) opS_ixD (pI_var (i := 1) rfl (by first | exact Or.inl rfl | exact Or.inr (Or.inl rfl) | exact Or.inr (Or.inr rfl))) (pI_op op_mod opS_mod (pI_var (i := 0) rfl (by first | exact Or.inl rfl | exact Or.inr (Or.inl rfl) | exact Or.inr (Or.inr rfl))) (pI_int)) (fun _ _ => rfl)))))))))
theorem ok_f_law_no_list (T : Tx K w mg ca) (D_ : At K mg "_law_no_list" "_law_no_list" s_f_law_no_list ["_law_cell"])  : Ok P w K mg base (gx K w ca) 1 "_law_no_list" 1 F_f_law_no_list :=
  ok_ofQ runsP D_ sc_f_law_no_list rfl rfl fun f cdv A outer s H Ex hr =>
   pSs_cons (pS_set (i := 1) sc_f_law_no_list.nd rfl (by first | exact Or.inl rfl | exact Or.inr rfl) (pI_lst (pI_cons (pI_non) (pI_cons (pI_int) (pI_cons (pI_str) (pI_cons (pI_str) (pI_cons (pI_dic0) (pI_cons (pI_disp1 (pI_str) (pI_int)) (pI_cons (pI_bl) (pI_cons (pI_lst (pI_nil)) (pI_cons (pI_tup (pI_nil)) (pI_cons (pI_lst (pI_cons (pI_tup (pI_nil)) (pI_nil))) (pI_cons (pI_lst (pI_cons (pI_lst (pI_nil)) (pI_nil))) (pI_nil))))))))))))))
    (pSs_one (pS_ret (pI_ix (ix_all (lt9 (room65 hr))) opS_ixD (pI_op op_addA opS_add (pI_var (i := 1) rfl (by first | exact Or.inl rfl | exact Or.inr (Or.inl rfl) | exact Or.inr (Or.inr rfl))) (pI_lst (pI_cons (pI_lst (pI_cons (pI_tup (pI_cons (pI_str) (pI_cons (pI_tup (pI_nil)) (pI_nil)))) (pI_cons (pI_non) (pI_nil)))) (pI_nil)))) (pI_op op_mod opS_mod (pI_var (i := 0) rfl (by first | exact Or.inl rfl | exact Or.inr (Or.inl rfl) | exact Or.inr (Or.inr rfl))) (pI_int)) (fun _ _ => rfl))))
theorem ok_is_rule (T : Tx K w mg ca) (D_ : At K mg "is_rule" "is_rule" s_is_rule ["thing"]) (O_is_name : Ok P w K mg base (gx K w ca) 1 "is_name" 1 F_is_name) : Ok P w K mg base (gx K w ca) 2 "is_rule" 1 F_is_rule :=
  ok_ofQ runsP D_ sc_is_rule rfl rfl fun f cdv A outer s H Ex hr =>
   pSs_cons (pS_if ((pW_or (pT_not (pT_val (pI_callB call_isi2 callS_isi (by rfl) T.n_isinstance (by first | rfl | decide +kernel) (pI_cons (pI_var (i := 0) rfl (by first | exact Or.inl rfl | exact Or.inr (Or.inl rfl) | exact Or.inr (Or.inr rfl))) (pI_cons (pI_ty (n := "tuple") (by rfl) T.n_tuple (by first | rfl | decide +kernel)) (pI_nil)))))) (pW_or (pT_cmp (op_neP hr.units) opS_eq (pI_callB (CallR.or call_lenD2 call_len) callS_lenD (by rfl) T.n_len (by first | rfl | decide +kernel) (pI_cons (pI_var (i := 0) rfl (by first | exact Or.inl rfl | exact Or.inr (Or.inl rfl) | exact Or.inr (Or.inr rfl))) (pI_nil))) (pI_int) (nomark _)) (pW_or1 (pT_not (pT_val (pI_callO O_is_name (hr.mono (by decide)) (by rfl) (pI_cons (pI_ix (ix_all (lt9 (room65 hr))) opS_ixD (pI_var (i := 0) rfl (by first | exact Or.inl rfl | exact Or.inr (Or.inl rfl) | exact Or.inr (Or.inr rfl))) (pI_int) (fun _ _ => rfl)) (pI_nil)))))))).pt) (pSs_one (pS_ret (pI_bl))) (pSs_nil))
    (pSs_cons (pS_set (i := 1) sc_is_rule.nd rfl (by first | exact Or.inl rfl | exact Or.inr rfl) (pI_ix (ix_all (lt9 (room65 hr))) opS_ixD (pI_var (i := 0) rfl (by first | exact Or.inl rfl | exact Or.inr (Or.inl rfl) | exact Or.inr (Or.inr rfl))) (pI_int) (fun _ _ => rfl)))
    (pSs_one (pS_ret (pI_and (pI_callB call_isi2 callS_isi (by rfl) T.n_isinstance (by first | rfl | decide +kernel) (pI_cons (pI_var (i := 1) rfl (by first | exact Or.inl rfl | exact Or.inr (Or.inl rfl) | exact Or.inr (Or.inr rfl))) (pI_cons (pI_ty (n := "tuple") (by rfl) T.n_tuple (by first | rfl | decide +kernel)) (pI_nil)))) (pI_and (pI_cmp op_le opS_cmp (pI_callB (CallR.or call_lenD2 call_len) callS_lenD (by rfl) T.n_len (by first | rfl | decide +kernel) (pI_cons (pI_var (i := 1) rfl (by first | exact Or.inl rfl | exact Or.inr (Or.inl rfl) | exact Or.inr (Or.inr rfl))) (pI_nil))) (pI_gint (by rfl) T.c_MOST_NAMES) (nomark _)) (pI_one (pI_callB (cr_all rfl) callS_all (by rfl) T.n_all (by first | rfl | decide +kernel) (pI_cons (pI_lc (own := [("name", 2)]) rfl sc_is_rule.nd (pIt_seq rfl (pI_var (i := 1) rfl (by first | exact Or.inl rfl | exact Or.inr (Or.inl rfl) | exact Or.inr (Or.inr rfl)))) (blkOk_by (N := N_is_rule) (sc := (defScope s_is_rule)) (by decide +kernel)) (fun _ _ _ _ _ => pG_name (i := 2) sc_is_rule.nd rfl (by first | exact Or.inl rfl | exact Or.inr rfl)) (fun _ _ _ _ _ => pTs_nil) (fun _ _ _ _ _ => pI_callO O_is_name (hr.mono (by decide)) (by rfl) (pI_cons (pI_var (i := 2) rfl (by first | exact Or.inl rfl | exact Or.inr (Or.inl rfl) | exact Or.inr (Or.inr rfl))) (pI_nil))) (by decide)) (pI_nil)))))))))
theorem ok_f_law_names (T : Tx K w mg ca) (D_ : At K mg "_law_names" "_law_names" s_f_law_names ["_law_number"]) (O_f_law_draws : Ok P w K mg base (gx K w ca) 1 "_law_draws" 2 F_f_law_draws) (O_f_law_mix : Ok P w K mg base (gx K w ca) 1 "_law_mix" 2 F_f_law_mix) : Ok P w K mg base (gx K w ca) 2 "_law_names" 1 F_f_law_names :=
  ok_ofQ runsP D_ sc_f_law_names rfl rfl fun f cdv A outer s H Ex hr =>
   pSs_cons (pS_un rfl rfl (pI_callO O_f_law_draws (hr.mono (by decide)) (by rfl) (pI_cons (pI_var (i := 0) rfl (by first | exact Or.inl rfl | exact Or.inr (Or.inl rfl) | exact Or.inr (Or.inr rfl))) (pI_cons (pI_lst (pI_cons (pI_int) (pI_cons (pI_int) (pI_cons (pI_int) (pI_nil))))) (pI_nil)))) (pGs_cons (pG_name (i := 1) sc_f_law_names.nd rfl (by first | exact Or.inl rfl | exact Or.inr rfl)) (pGs_cons (pG_name (i := 2) sc_f_law_names.nd rfl (by first | exact Or.inl rfl | exact Or.inr rfl)) (pGs_cons (pG_name (i := 3) sc_f_law_names.nd rfl (by first | exact Or.inl rfl | exact Or.inr rfl)) (pGs_nil)))) rfl)
    (pSs_cons (pS_set (i := 4) sc_f_law_names.nd rfl (by first | exact Or.inl rfl | exact Or.inr rfl) (pI_bm rfl PySem.F.plainAttrs_str PySem.F.slot_str_join PySem.F.type_str_join mt_join mtS_join (pI_str) (pI_cons (pI_lc (own := [("_law_k", 6)]) rfl sc_f_law_names.nd (pIt_r1 (by rfl) T.n_range (pI_cons (pI_var (i := 1) rfl (by first | exact Or.inl rfl | exact Or.inr (Or.inl rfl) | exact Or.inr (Or.inr rfl))) (pI_nil))) (blkOk_by (N := N_f_law_names) (sc := (defScope s_f_law_names)) (by decide +kernel)) (fun _ _ _ _ _ => pG_name (i := 6) sc_f_law_names.nd rfl (by first | exact Or.inl rfl | exact Or.inr rfl)) (fun _ _ _ _ _ => pTs_nil) (fun _ _ _ _ _ => pI_ix (ix_all (lt9 (room65 hr))) opS_ixD (pI_str) (pI_op op_mod opS_mod (pI_callO O_f_law_mix (hr.mono (by decide)) (by rfl) (pI_cons (pI_var (i := 0) rfl (by first | exact Or.inl rfl | exact Or.inr (Or.inl rfl) | exact Or.inr (Or.inr rfl))) (pI_cons (pI_op op_addA opS_add (pI_int) (pI_var (i := 6) rfl (by first | exact Or.inl rfl | exact Or.inr (Or.inl rfl) | exact Or.inr (Or.inr rfl)))) (pI_nil)))) (pI_int)) (fun _ _ => rfl)) (by decide)) (pI_nil))))
    (pSs_cons (pS_set (i := 2) sc_f_law_names.nd rfl (by first | exact Or.inl rfl | exact Or.inr rfl) (pI_op op_mod opS_mod (pI_var (i := 2) rfl (by first | exact Or.inl rfl | exact Or.inr (Or.inl rfl) | exact Or.inr (Or.inr rfl))) (pI_op op_addA opS_add (pI_var (i := 1) rfl (by first | exact Or.inl rfl | exact Or.inr (Or.inl rfl) | exact Or.inr (Or.inr rfl))) (pI_int))))
    (pSs_cons (pS_set (i := 5) sc_f_law_names.nd rfl (by first | exact Or.inl rfl | exact Or.inr rfl) (pI_op (OpR.or op_repL (OpR.or op_mulS (OpR.or op_mul op_repT))) opS_mulB (pI_str) (pI_int)))
    (pSs_one (pS_ret (pI_lc (own := [("_law_k", 6)]) rfl sc_f_law_names.nd (pIt_r1 (by rfl) T.n_range (pI_cons (pI_int) (pI_nil))) (blkOk_by (N := N_f_law_names) (sc := (defScope s_f_law_names)) (by decide +kernel)) (fun _ _ _ _ _ => pG_name (i := 6) sc_f_law_names.nd rfl (by first | exact Or.inl rfl | exact Or.inr rfl)) (fun _ _ _ _ _ => pTs_nil) (fun _ _ _ _ _ => pI_op op_addA opS_add (pI_op op_addA opS_add (pI_slice (pI_var (i := 4) rfl (by first | exact Or.inl rfl | exact Or.inr (Or.inl rfl) | exact Or.inr (Or.inr rfl))) (pO_none) (pO_some (pI_var (i := 2) rfl (by first | exact Or.inl rfl | exact Or.inr (Or.inl rfl) | exact Or.inr (Or.inr rfl)))) rfl) (pI_ix (ix_all (lt9 (room65 hr))) opS_ixD (pI_var (i := 5) rfl (by first | exact Or.inl rfl | exact Or.inr (Or.inl rfl) | exact Or.inr (Or.inr rfl))) (pI_op op_addA opS_add (pI_var (i := 3) rfl (by first | exact Or.inl rfl | exact Or.inr (Or.inl rfl) | exact Or.inr (Or.inr rfl))) (pI_op (OpR.or op_repL (OpR.or op_mulS (OpR.or op_mul op_repT))) opS_mulB (pI_int) (pI_var (i := 6) rfl (by first | exact Or.inl rfl | exact Or.inr (Or.inl rfl) | exact Or.inr (Or.inr rfl))))) (fun _ _ => rfl))) (pI_slice (pI_var (i := 4) rfl (by first | exact Or.inl rfl | exact Or.inr (Or.inl rfl) | exact Or.inr (Or.inr rfl))) (pO_some (pI_var (i := 2) rfl (by first | exact Or.inl rfl | exact Or.inr (Or.inl rfl) | exact Or.inr (Or.inr rfl)))) (pO_none) rfl)) (by decide)))))))
theorem ok_f_law_by_digits (T : Tx K w mg ca) (D_ : At K mg "_law_by_digits" "_law_by_digits" s_f_law_by_digits ["_law_cell"]) (O_f_law_draws : Ok P w K mg base (gx K w ca) 1 "_law_draws" 2 F_f_law_draws) : Ok P w K mg base (gx K w ca) 2 "_law_by_digits" 1 F_f_law_by_digits :=
  ok_ofQ runsP D_ sc_f_law_by_digits rfl rfl fun f cdv A outer s H Ex hr =>
   pSs_cons (pS_set (i := 1) sc_f_law_by_digits.nd rfl (by first | exact Or.inl rfl | exact Or.inr rfl) (pI_callB call_abs callS_abs (by rfl) T.n_abs (by first | rfl | decide +kernel) (pI_cons (pI_var (i := 0) rfl (by first | exact Or.inl rfl | exact Or.inr (Or.inl rfl) | exact Or.inr (Or.inr rfl))) (pI_nil))))
    (pSs_cons (pS_par (i := 2) (j := 1) rfl sc_f_law_by_digits.nd rfl rfl (by decide) rfl rfl (pI_cons (pI_op op_mod opS_mod (pI_var (i := 1) rfl (by first | exact Or.inl rfl | exact Or.inr (Or.inl rfl) | exact Or.inr (Or.inr rfl))) (pI_int)) (pI_cons (pI_op op_fdivW opS_divW (pI_var (i := 1) rfl (by first | exact Or.inl rfl | exact Or.inr (Or.inl rfl) | exact Or.inr (Or.inr rfl))) (pI_int)) (pI_nil))) (by rfl))
    (pSs_cons (pS_reg (i := 3) sc_f_law_by_digits.nd rfl (by first | exact Or.inl rfl | exact Or.inr rfl) (pI_lst (pI_nil)))
    (pSs_cons (pS_for PassesOwn.never rfl (pIt_r1 (by rfl) T.n_range (pI_cons (pI_op op_addA opS_add (pI_int) (pI_var (i := 2) rfl (by first | exact Or.inl rfl | exact Or.inr (Or.inl rfl) | exact Or.inr (Or.inr rfl)))) (pI_nil))) (pG_name (i := 4) sc_f_law_by_digits.nd rfl (by first | exact Or.inl rfl | exact Or.inr rfl)) (pSs_cons (pS_un rfl rfl (pI_callO O_f_law_draws (hr.mono (by decide)) (by rfl) (pI_cons (pI_var (i := 1) rfl (by first | exact Or.inl rfl | exact Or.inr (Or.inl rfl) | exact Or.inr (Or.inr rfl))) (pI_cons (pI_lst (pI_cons (pI_int) (pI_cons (pI_int) (pI_cons (pI_int) (pI_cons (pI_int) (pI_nil)))))) (pI_nil)))) (pGs_cons (pG_name (i := 5) sc_f_law_by_digits.nd rfl (by first | exact Or.inl rfl | exact Or.inr rfl)) (pGs_cons (pG_name (i := 6) sc_f_law_by_digits.nd rfl (by first | exact Or.inl rfl | exact Or.inr rfl)) (pGs_cons (pG_name (i := 7) sc_f_law_by_digits.nd rfl (by first | exact Or.inl rfl | exact Or.inr rfl)) (pGs_cons (pG_name (i := 8) sc_f_law_by_digits.nd rfl (by first | exact Or.inl rfl | exact Or.inr rfl)) (pGs_nil))))) rfl)
    (pSs_cons (pS_set (i := 1) sc_f_law_by_digits.nd rfl (by first | exact Or.inl rfl | exact Or.inr rfl) (pI_op op_fdivW opS_divW (pI_var (i := 1) rfl (by first | exact Or.inl rfl | exact Or.inr (Or.inl rfl) | exact Or.inr (Or.inr rfl))) (pI_int)))
    (pSs_one (pS_expr (pI_bm rfl PySem.F.plainAttrs_list PySem.F.slot_list_append PySem.F.type_list_append mt_append mtS_append (pI_var (i := 3) rfl (by first | exact Or.inl rfl | exact Or.inr (Or.inl rfl) | exact Or.inr (Or.inr rfl))) (pI_cons (pI_tup (pI_cons (pI_ix (ix_all (lt9 (room65 hr))) opS_ixD (pI_lst (pI_cons (pI_str) (pI_cons (pI_str) (pI_nil)))) (pI_var (i := 5) rfl (by first | exact Or.inl rfl | exact Or.inr (Or.inl rfl) | exact Or.inr (Or.inr rfl))) (fun _ _ => rfl)) (pI_cons (pI_slice (pI_tup (pI_cons (pI_ix (ix_all (lt9 (room65 hr))) opS_ixD (pI_tup (pI_cons (pI_str) (pI_cons (pI_str) (pI_cons (pI_str) (pI_cons (pI_str) (pI_nil)))))) (pI_var (i := 7) rfl (by first | exact Or.inl rfl | exact Or.inr (Or.inl rfl) | exact Or.inr (Or.inr rfl))) (fun _ _ => rfl)) (pI_cons (pI_ix (ix_all (lt9 (room65 hr))) opS_ixD (pI_tup (pI_cons (pI_str) (pI_cons (pI_str) (pI_cons (pI_str) (pI_cons (pI_str) (pI_nil)))))) (pI_var (i := 8) rfl (by first | exact Or.inl rfl | exact Or.inr (Or.inl rfl) | exact Or.inr (Or.inr rfl))) (fun _ _ => rfl)) (pI_nil)))) (pO_none) (pO_some (pI_var (i := 6) rfl (by first | exact Or.inl rfl | exact Or.inr (Or.inl rfl) | exact Or.inr (Or.inr rfl)))) rfl) (pI_nil)))) (pI_nil))))))))
    (pSs_one (pS_ret (pI_var (i := 3) rfl (by first | exact Or.inl rfl | exact Or.inr (Or.inl rfl) | exact Or.inr (Or.inr rfl))))))))
theorem ok_f_law_many (T : Tx K w mg ca) (D_ : At K mg "_law_many" "_law_many" s_f_law_many ["_law_cell"]) (O_f_law_odd_rule : Ok P w K mg base (gx K w ca) 1 "_law_odd_rule" 1 F_f_law_odd_rule) : Ok P w K mg base (gx K w ca) 2 "_law_many" 1 F_f_law_many :=
  ok_ofQ runsP D_ sc_f_law_many rfl rfl fun f cdv A outer s H Ex hr =>
   pSs_cons (pS_set (i := 1) sc_f_law_many.nd rfl (by first | exact Or.inl rfl | exact Or.inr rfl) (pI_str))
    (pSs_cons (pS_reg (i := 2) sc_f_law_many.nd rfl (by first | exact Or.inl rfl | exact Or.inr rfl) (pI_lst (pI_nil)))
    (pSs_cons (pS_for PassesOwn.never rfl (pIt_r1 (by rfl) T.n_range (pI_cons (pI_op op_addA opS_add (pI_int) (pI_op op_mod opS_mod (pI_var (i := 0) rfl (by first | exact Or.inl rfl | exact Or.inr (Or.inl rfl) | exact Or.inr (Or.inr rfl))) (pI_int))) (pI_nil))) (pG_name (i := 3) sc_f_law_many.nd rfl (by first | exact Or.inl rfl | exact Or.inr rfl)) (pSs_one (pS_expr (pI_bm rfl PySem.F.plainAttrs_list PySem.F.slot_list_append PySem.F.type_list_append mt_append mtS_append (pI_var (i := 2) rfl (by first | exact Or.inl rfl | exact Or.inr (Or.inl rfl) | exact Or.inr (Or.inr rfl))) (pI_cons (pI_tup (pI_cons (pI_op op_addA opS_add (pI_str) (pI_ix (ix_all (lt9 (room65 hr))) opS_ixD (pI_var (i := 1) rfl (by first | exact Or.inl rfl | exact Or.inr (Or.inl rfl) | exact Or.inr (Or.inr rfl))) (pI_op op_fdivW opS_divW (pI_var (i := 3) rfl (by first | exact Or.inl rfl | exact Or.inr (Or.inl rfl) | exact Or.inr (Or.inr rfl))) (pI_int)) (fun _ _ => rfl))) (pI_cons (pI_tup (pI_cons (pI_ix (ix_all (lt9 (room65 hr))) opS_ixD (pI_var (i := 1) rfl (by first | exact Or.inl rfl | exact Or.inr (Or.inl rfl) | exact Or.inr (Or.inr rfl))) (pI_op op_mod opS_mod (pI_var (i := 3) rfl (by first | exact Or.inl rfl | exact Or.inr (Or.inl rfl) | exact Or.inr (Or.inr rfl))) (pI_int)) (fun _ _ => rfl)) (pI_nil))) (pI_nil)))) (pI_nil))))))
    (pSs_cons (pS_if (pT_cmp (op_eqP hr.units) opS_eq (pI_op op_mod opS_mod (pI_op op_fdivW opS_divW (pI_var (i := 0) rfl (by first | exact Or.inl rfl | exact Or.inr (Or.inl rfl) | exact Or.inr (Or.inr rfl))) (pI_int)) (pI_int)) (pI_int) (nomark _)) (pSs_one (pS_setIx (set_setA (lt9 (room65 hr))) setS_setA (pI_callO O_f_law_odd_rule (hr.mono (by decide)) (by rfl) (pI_cons (pI_op op_fdivW opS_divW (pI_var (i := 0) rfl (by first | exact Or.inl rfl | exact Or.inr (Or.inl rfl) | exact Or.inr (Or.inr rfl))) (pI_int)) (pI_nil))) (pI_var (i := 2) rfl (by first | exact Or.inl rfl | exact Or.inr (Or.inl rfl) | exact Or.inr (Or.inr rfl))) (pI_op op_mod opS_mod (pI_op op_fdivW opS_divW (pI_var (i := 0) rfl (by first | exact Or.inl rfl | exact Or.inr (Or.inl rfl) | exact Or.inr (Or.inr rfl))) (pI_int)) (pI_int)))) (pSs_nil))
    (pSs_cons (pS_if (pT_cmp (op_eqP hr.units) opS_eq (pI_op op_mod opS_mod (pI_op op_fdivW opS_divW (pI_var (i := 0) rfl (by first | exact Or.inl rfl | exact Or.inr (Or.inl rfl) | exact Or.inr (Or.inr rfl))) (pI_int)) (pI_int)) (pI_int) (nomark _)) (pSs_one (pS_setIx (set_setA (lt9 (room65 hr))) setS_setA (pI_ix (ix_all (lt9 (room65 hr))) opS_ixD (pI_var (i := 2) rfl (by first | exact Or.inl rfl | exact Or.inr (Or.inl rfl) | exact Or.inr (Or.inr rfl))) (pI_op op_mod opS_mod (pI_op op_addA opS_add (pI_op op_addA opS_add (pI_op op_fdivW opS_divW (pI_var (i := 0) rfl (by first | exact Or.inl rfl | exact Or.inr (Or.inl rfl) | exact Or.inr (Or.inr rfl))) (pI_int)) (pI_int)) (pI_op op_mod opS_mod (pI_op op_fdivW opS_divW (pI_var (i := 0) rfl (by first | exact Or.inl rfl | exact Or.inr (Or.inl rfl) | exact Or.inr (Or.inr rfl))) (pI_int)) (pI_int))) (pI_int)) (fun _ _ => rfl)) (pI_var (i := 2) rfl (by first | exact Or.inl rfl | exact Or.inr (Or.inl rfl) | exact Or.inr (Or.inr rfl))) (pI_op op_mod opS_mod (pI_op op_fdivW opS_divW (pI_var (i := 0) rfl (by first | exact Or.inl rfl | exact Or.inr (Or.inl rfl) | exact Or.inr (Or.inr rfl))) (pI_int)) (pI_int)))) (pSs_nil))
    (pSs_one (pS_ret (pI_var (i := 2) rfl (by first | exact Or.inl rfl | exact Or.inr (Or.inl rfl) | exact Or.inr (Or.inr rfl)))))))))
theorem ok_need_rules (T : Tx K w mg ca) (D_ : At K mg "need_rules" "need_rules" s_need_rules ["things"]) (O_is_rule : Ok P w K mg base (gx K w ca) 2 "is_rule" 1 F_is_rule) : OkX P w K mg base (gx K w ca) 3 "need_rules" 1 F_need_rules :=
  okX_ofQ runsP D_ sc_need_rules rfl rfl fun f cdv A outer s H Ex hr =>
   pSs_cons (pS_if ((pW_or (pT_not (pT_val (pI_callB call_isi2 callS_isi (by rfl) T.n_isinstance (by first | rfl | decide +kernel) (pI_cons (pI_var (i := 0) rfl (by first | exact Or.inl rfl | exact Or.inr (Or.inl rfl) | exact Or.inr (Or.inr rfl))) (pI_cons (pI_tup (pI_cons (pI_ty (n := "list") (by rfl) T.n_list (by first | rfl | decide +kernel)) (pI_cons (pI_ty (n := "tuple") (by rfl) T.n_tuple (by first | rfl | decide +kernel)) (pI_nil)))) (pI_nil)))))) (pW_or (pT_cmp (op_eqP hr.units) opS_eq (pI_callB (CallR.or call_lenD2 call_len) callS_lenD (by rfl) T.n_len (by first | rfl | decide +kernel) (pI_cons (pI_var (i := 0) rfl (by first | exact Or.inl rfl | exact Or.inr (Or.inl rfl) | exact Or.inr (Or.inr rfl))) (pI_nil))) (pI_int) (nomark _)) (pW_or1 (pT_not (pT_val (pI_callB (cr_all rfl) callS_all (by rfl) T.n_all (by first | rfl | decide +kernel) (pI_cons (pI_lc (own := [("thing", 1)]) rfl sc_need_rules.nd (pIt_seq rfl (pI_var (i := 0) rfl (by first | exact Or.inl rfl | exact Or.inr (Or.inl rfl) | exact Or.inr (Or.inr rfl)))) (blkOk_by (N := N_need_rules) (sc := (defScope s_need_rules)) (by decide +kernel)) (fun _ _ _ _ _ => pG_name (i := 1) sc_need_rules.nd rfl (by first | exact Or.inl rfl | exact Or.inr rfl)) (fun _ _ _ _ _ => pTs_nil) (fun _ _ _ _ _ => pI_callO O_is_rule (hr.mono (by decide)) (by rfl) (pI_cons (pI_var (i := 1) rfl (by first | exact Or.inl rfl | exact Or.inr (Or.inl rfl) | exact Or.inr (Or.inr rfl))) (pI_nil))) (by decide)) (pI_nil)))))))).pt) (pSs_one (pS_raise rfl (takes_of rfl rfl rfl rfl) (cm_NoGrammar (ca := ca)) PySem.F.excBase_ValueError T.e_NoGrammar.x T.g_NoGrammar T.e_NoGrammar.k (raises_own T.e_NoGrammar.b T.e_NoGrammar.t) (by rfl))) (pSs_nil))
    (pSs_cons (pS_if (pT_cmp op_lt opS_cmp (pI_lenSet rfl hr.units rfl (by rfl) T.n_len (by rfl) T.n_set (pI_cons (pI_var (i := 0) rfl (by first | exact Or.inl rfl | exact Or.inr (Or.inl rfl) | exact Or.inr (Or.inr rfl))) (pI_nil))) (pI_callB (CallR.or call_lenD2 call_len) callS_lenD (by rfl) T.n_len (by first | rfl | decide +kernel) (pI_cons (pI_var (i := 0) rfl (by first | exact Or.inl rfl | exact Or.inr (Or.inl rfl) | exact Or.inr (Or.inr rfl))) (pI_nil))) (nomark _)) (pSs_one (pS_raise rfl (takes_of rfl rfl rfl rfl) (cm_NoGrammar (ca := ca)) PySem.F.excBase_ValueError T.e_NoGrammar.x T.g_NoGrammar T.e_NoGrammar.k (raises_own T.e_NoGrammar.b T.e_NoGrammar.t) (by rfl))) (pSs_nil))
    (pSs_one (pS_if (pT_cmp op_gt opS_cmp (pI_callB (CallR.or call_lenD2 call_len) callS_lenD (by rfl) T.n_len (by first | rfl | decide +kernel) (pI_cons (pI_var (i := 0) rfl (by first | exact Or.inl rfl | exact Or.inr (Or.inl rfl) | exact Or.inr (Or.inr rfl))) (pI_nil))) (pI_gint (by rfl) T.c_MOST_RULES) (nomark _)) (pSs_one (pS_raise rfl (takes_of rfl rfl rfl rfl) (cm_TooMany (ca := ca)) PySem.F.excBase_ValueError T.e_TooMany.x T.g_TooMany T.e_TooMany.k (raises_own T.e_TooMany.b T.e_TooMany.t) (by rfl))) (pSs_nil))))
theorem ok_f_law_by_mixes (T : Tx K w mg ca) (D_ : At K mg "_law_by_mixes" "_law_by_mixes" s_f_law_by_mixes ["_law_cell"]) (O_f_law_names : Ok P w K mg base (gx K w ca) 2 "_law_names" 1 F_f_law_names) (O_f_law_mix : Ok P w K mg base (gx K w ca) 1 "_law_mix" 2 F_f_law_mix) (O_f_law_draws : Ok P w K mg base (gx K w ca) 1 "_law_draws" 2 F_f_law_draws) : Ok P w K mg base (gx K w ca) 3 "_law_by_mixes" 1 F_f_law_by_mixes :=
  ok_ofQ runsP D_ sc_f_law_by_mixes rfl rfl fun f cdv A outer s H Ex hr =>
   pSs_cons (pS_set (i := 1) sc_f_law_by_mixes.nd rfl (by first | exact Or.inl rfl | exact Or.inr rfl) (pI_callO O_f_law_names (hr.mono (by decide)) (by rfl) (pI_cons (pI_callO O_f_law_mix (hr.mono (by decide)) (by rfl) (pI_cons (pI_var (i := 0) rfl (by first | exact Or.inl rfl | exact Or.inr (Or.inl rfl) | exact Or.inr (Or.inr rfl))) (pI_cons (pI_int) (pI_nil)))) (pI_nil))))
    (pSs_cons (pS_un rfl rfl (pI_callO O_f_law_draws (hr.mono (by decide)) (by rfl) (pI_cons (pI_callO O_f_law_mix (hr.mono (by decide)) (by rfl) (pI_cons (pI_var (i := 0) rfl (by first | exact Or.inl rfl | exact Or.inr (Or.inl rfl) | exact Or.inr (Or.inr rfl))) (pI_cons (pI_int) (pI_nil)))) (pI_cons (pI_lst (pI_cons (pI_int) (pI_cons (pI_int) (pI_nil)))) (pI_nil)))) (pGs_cons (pG_name (i := 2) sc_f_law_by_mixes.nd rfl (by first | exact Or.inl rfl | exact Or.inr rfl)) (pGs_cons (pG_name (i := 3) sc_f_law_by_mixes.nd rfl (by first | exact Or.inl rfl | exact Or.inr rfl)) (pGs_nil))) rfl)
    (pSs_cons (pS_reg (i := 4) sc_f_law_by_mixes.nd rfl (by first | exact Or.inl rfl | exact Or.inr rfl) (pI_lst (pI_nil)))
    (pSs_cons (pS_for PassesOwn.never rfl (pIt_r1 (by rfl) T.n_range (pI_cons (pI_op op_addA opS_add (pI_int) (pI_var (i := 2) rfl (by first | exact Or.inl rfl | exact Or.inr (Or.inl rfl) | exact Or.inr (Or.inr rfl)))) (pI_nil))) (pG_name (i := 5) sc_f_law_by_mixes.nd rfl (by first | exact Or.inl rfl | exact Or.inr rfl)) (pSs_cons (pS_un rfl rfl (pI_callO O_f_law_draws (hr.mono (by decide)) (by rfl) (pI_cons (pI_callO O_f_law_mix (hr.mono (by decide)) (by rfl) (pI_cons (pI_var (i := 0) rfl (by first | exact Or.inl rfl | exact Or.inr (Or.inl rfl) | exact Or.inr (Or.inr rfl))) (pI_cons (pI_op op_addA opS_add (pI_int) (pI_var (i := 5) rfl (by first | exact Or.inl rfl | exact Or.inr (Or.inl rfl) | exact Or.inr (Or.inr rfl)))) (pI_nil)))) (pI_cons (pI_lst (pI_cons (pI_op op_addA opS_add (pI_int) (pI_var (i := 3) rfl (by first | exact Or.inl rfl | exact Or.inr (Or.inl rfl) | exact Or.inr (Or.inr rfl)))) (pI_cons (pI_int) (pI_nil)))) (pI_nil)))) (pGs_cons (pG_name (i := 6) sc_f_law_by_mixes.nd rfl (by first | exact Or.inl rfl | exact Or.inr rfl)) (pGs_cons (pG_name (i := 7) sc_f_law_by_mixes.nd rfl (by first | exact Or.inl rfl | exact Or.inr rfl)) (pGs_nil))) rfl)
    (pSs_one (pS_expr (pI_bm rfl PySem.F.plainAttrs_list PySem.F.slot_list_append PySem.F.type_list_append mt_append mtS_append (pI_var (i := 4) rfl (by first | exact Or.inl rfl | exact Or.inr (Or.inl rfl) | exact Or.inr (Or.inr rfl))) (pI_cons (pI_tup (pI_cons (pI_ix (ix_all (lt9 (room65 hr))) opS_ixD (pI_var (i := 1) rfl (by first | exact Or.inl rfl | exact Or.inr (Or.inl rfl) | exact Or.inr (Or.inr rfl))) (pI_var (i := 6) rfl (by first | exact Or.inl rfl | exact Or.inr (Or.inl rfl) | exact Or.inr (Or.inr rfl))) (fun _ _ => rfl)) (pI_cons (pI_callTy (CallR.or (call_tupD2 rfl) call_tuple_of) callS_tupleD (by rfl) T.n_tuple (by first | rfl | decide +kernel) (pI_cons (pI_lc (own := [("_law_j", 8)]) rfl sc_f_law_by_mixes.nd (pIt_r1 (by rfl) T.n_range (pI_cons (pI_var (i := 7) rfl (by first | exact Or.inl rfl | exact Or.inr (Or.inl rfl) | exact Or.inr (Or.inr rfl))) (pI_nil))) (blkOk_by (N := N_f_law_by_mixes) (sc := (defScope s_f_law_by_mixes)) (by decide +kernel)) (fun _ _ _ _ _ => pG_name (i := 8) sc_f_law_by_mixes.nd rfl (by first | exact Or.inl rfl | exact Or.inr rfl)) (fun _ _ _ _ _ => pTs_nil) (fun _ _ _ _ _ => pI_ix (ix_all (lt9 (room65 hr))) opS_ixD (pI_var (i := 1) rfl (by first | exact Or.inl rfl | exact Or.inr (Or.inl rfl) | exact Or.inr (Or.inr rfl))) (pI_op op_mod opS_mod (pI_callO O_f_law_mix (hr.mono (by decide)) (by rfl) (pI_cons (pI_var (i := 0) rfl (by first | exact Or.inl rfl | exact Or.inr (Or.inl rfl) | exact Or.inr (Or.inr rfl))) (pI_cons (pI_op op_addA opS_add (pI_op op_addA opS_add (pI_int) (pI_op (OpR.or op_repL (OpR.or op_mulS (OpR.or op_mul op_repT))) opS_mulB (pI_int) (pI_var (i := 5) rfl (by first | exact Or.inl rfl | exact Or.inr (Or.inl rfl) | exact Or.inr (Or.inr rfl))))) (pI_var (i := 8) rfl (by first | exact Or.inl rfl | exact Or.inr (Or.inl rfl) | exact Or.inr (Or.inr rfl)))) (pI_nil)))) (pI_int)) (fun _ _ => rfl)) (by decide)) (pI_nil))) (pI_nil)))) (pI_nil)))))))
    (pSs_one (pS_ret (pI_var (i := 4) rfl (by first | exact Or.inl rfl | exact Or.inr (Or.inl rfl) | exact Or.inr (Or.inr rfl))))))))
theorem ok_Grammar_init (T : Tx K w mg ca) {f : Addr} {fd : FuncData} (F_ : Fun K "__init__" "Grammar.__init__" s_Grammar_init f fd) (b_ : Binds K fd ["self", "rules"] []) (M_ : Mk K ca.Grammar f) (O_need_rules : OkX P w K mg base (gx K w ca) 3 "need_rules" 1 F_need_rules) (O_each_once : Ok P w K mg base (gx K w ca) 1 "each_once" 1 F_each_once) : OkMk P w K mg base (gx K w ca) 4 "Grammar" "Grammar" 1 F_Grammar_init :=
  ⟨ca.Grammar, f, fd, _, M_, fnX_okQ runsK F_ sc_Grammar_init rfl fun cdv A outer s H Ex hr =>
   pSs_cons (pS_expr (pI_callX O_need_rules (hr.mono (by decide)) (takes_of rfl rfl rfl rfl) (by rfl) (pI_cons (pI_var (i := 1) rfl (by first | exact Or.inl rfl | exact Or.inr (Or.inl rfl) | exact Or.inr (Or.inr rfl))) (pI_nil))))
    (pSs_cons (pS_fldSet (pI_var (i := 0) rfl (by first | exact Or.inl rfl | exact Or.inr (Or.inl rfl) | exact Or.inr (Or.inr rfl))) (pI_callTy (CallR.or (call_tupD2 rfl) call_tuple_of) callS_tupleD (by rfl) T.n_tuple (by first | rfl | decide +kernel) (pI_cons (pI_var (i := 1) rfl (by first | exact Or.inl rfl | exact Or.inr (Or.inl rfl) | exact Or.inr (Or.inr rfl))) (pI_nil))) rfl T.fl_rules)
    (pSs_cons (pS_fldSet (pI_var (i := 0) rfl (by first | exact Or.inl rfl | exact Or.inr (Or.inl rfl) | exact Or.inr (Or.inr rfl))) (pI_callO O_each_once (hr.mono (by decide)) (by rfl) (pI_cons (pI_lc (own := [("part", 5), ("names", 6)]) rfl sc_Grammar_init.nd (pIt_seq rfl (pI_fld (pI_var (i := 0) rfl (by first | exact Or.inl rfl | exact Or.inr (Or.inl rfl) | exact Or.inr (Or.inr rfl))) rfl T.fl_rules)) (blkOk_by (N := N_Grammar_init) (sc := (defScope s_Grammar_init)) (by decide +kernel)) (fun _ _ _ _ _ => pG_un rfl rfl (pGs_cons (pG_name (i := 5) sc_Grammar_init.nd rfl (by first | exact Or.inl rfl | exact Or.inr rfl)) (pGs_cons (pG_name (i := 6) sc_Grammar_init.nd rfl (by first | exact Or.inl rfl | exact Or.inr rfl)) (pGs_nil))) rfl) (fun _ _ _ _ _ => pTs_nil) (fun _ _ _ _ _ => pI_var (i := 5) rfl (by first | exact Or.inl rfl | exact Or.inr (Or.inl rfl) | exact Or.inr (Or.inr rfl))) (by decide)) (pI_nil))) rfl T.fl_parts)
    (pSs_cons (pS_fldSet (pI_var (i := 0) rfl (by first | exact Or.inl rfl | exact Or.inr (Or.inl rfl) | exact Or.inr (Or.inr rfl))) (pI_ix (ix_all (lt9 (room65 hr))) opS_ixD (pI_fld (pI_var (i := 0) rfl (by first | exact Or.inl rfl | exact Or.inr (Or.inl rfl) | exact Or.inr (Or.inr rfl))) rfl T.fl_parts) (pI_int) (fun _ _ => rfl)) rfl T.fl_start)
    (pSs_cons (pS_fldSet (pI_var (i := 0) rfl (by first | exact Or.inl rfl | exact Or.inr (Or.inl rfl) | exact Or.inr (Or.inr rfl))) (pI_reg (pI_dic0)) rfl T.fl_numbers)
    (pSs_cons (pS_reg (i := 2) sc_Grammar_init.nd rfl (by first | exact Or.inl rfl | exact Or.inr rfl) (pI_lst (pI_nil)))
    (pSs_cons (pS_for (passes_of rfl) rfl (pIt_enumA rfl (by rfl) T.n_enumerate (pI_cons (pI_fld (pI_var (i := 0) rfl (by first | exact Or.inl rfl | exact Or.inr (Or.inl rfl) | exact Or.inr (Or.inr rfl))) rfl T.fl_rules) (pI_nil))) (pG_un rfl rfl (pGs_cons (pG_name (i := 3) sc_Grammar_init.nd rfl (by first | exact Or.inl rfl | exact Or.inr rfl)) (pGs_cons (pG_name (i := 4) sc_Grammar_init.nd rfl (by first | exact Or.inl rfl | exact Or.inr rfl)) (pGs_nil))) rfl) (pSs_cons (pS_expr (pI_bm rfl PySem.F.plainAttrs_list PySem.F.slot_list_append PySem.F.type_list_append mt_append mtS_append (pI_dm rfl PySem.F.slot_dict_setdefault PySem.F.type_dict_setdefault (mt_dsetd (lt9 (room65 hr))) mtS_setd (pI_fld (pI_var (i := 0) rfl (by first | exact Or.inl rfl | exact Or.inr (Or.inl rfl) | exact Or.inr (Or.inr rfl))) rfl T.fl_numbers) (pI_cons (pI_ix (ix_all (lt9 (room65 hr))) opS_ixD (pI_var (i := 4) rfl (by first | exact Or.inl rfl | exact Or.inr (Or.inl rfl) | exact Or.inr (Or.inr rfl))) (pI_int) (fun _ _ => rfl)) (pI_cons (pI_reg (pI_lst (pI_nil))) (pI_nil)))) (pI_cons (pI_var (i := 3) rfl (by first | exact Or.inl rfl | exact Or.inr (Or.inl rfl) | exact Or.inr (Or.inr rfl))) (pI_nil))))
    (pSs_one (pS_expr (pI_bm rfl PySem.F.plainAttrs_list PySem.F.slot_list_extend PySem.F.type_list_extend mt_extendA mtS_extend (pI_var (i := 2) rfl (by first | exact Or.inl rfl | exact Or.inr (Or.inl rfl) | exact Or.inr (Or.inr rfl))) (pI_cons (pI_ix (ix_all (lt9 (room65 hr))) opS_ixD (pI_var (i := 4) rfl (by first | exact Or.inl rfl | exact Or.inr (Or.inl rfl) | exact Or.inr (Or.inr rfl))) (pI_int) (fun _ _ => rfl)) (pI_nil)))))))
    (pSs_one (pS_fldSet (pI_var (i := 0) rfl (by first | exact Or.inl rfl | exact Or.inr (Or.inl rfl) | exact Or.inr (Or.inr rfl))) (pI_callTy (CallR.or (call_tupD2 rfl) call_tuple_of) callS_tupleD (by rfl) T.n_tuple (by first | rfl | decide +kernel) (pI_cons (pI_callB (cr_sortedD hr.units) callS_sorted (by rfl) T.n_sorted (by decide +kernel) (pI_cons (pI_lc (own := [("word", 7)]) rfl sc_Grammar_init.nd (pIt_seq rfl (pI_callO O_each_once (hr.mono (by decide)) (by rfl) (pI_cons (pI_var (i := 2) rfl (by first | exact Or.inl rfl | exact Or.inr (Or.inl rfl) | exact Or.inr (Or.inr rfl))) (pI_nil)))) (blkOk_by (N := N_Grammar_init) (sc := (defScope s_Grammar_init)) (by decide +kernel)) (fun _ _ _ _ _ => pG_name (i := 7) sc_Grammar_init.nd rfl (by first | exact Or.inl rfl | exact Or.inr rfl)) (fun _ _ _ _ _ => pTs_one (pT_cmp (opNinD (lt9 (room65 hr)) (op_ninA hr.units)) opS_inD (pI_var (i := 7) rfl (by first | exact Or.inl rfl | exact Or.inr (Or.inl rfl) | exact Or.inr (Or.inr rfl))) (pI_fld (pI_var (i := 0) rfl (by first | exact Or.inl rfl | exact Or.inr (Or.inl rfl) | exact Or.inr (Or.inr rfl))) rfl T.fl_parts) rfl)) (fun _ _ _ _ _ => pI_var (i := 7) rfl (by first | exact Or.inl rfl | exact Or.inr (Or.inl rfl) | exact Or.inr (Or.inr rfl))) (by decide)) (pI_nil))) (pI_nil))) rfl T.fl_words)))))))), b_, T.g_Grammar, cm_Grammar⟩
theorem ok_f_law_rules (T : Tx K w mg ca) (D_ : At K mg "_law_rules" "_law_rules" s_f_law_rules ["_law_cell"]) (O_f_law_by_digits : Ok P w K mg base (gx K w ca) 2 "_law_by_digits" 1 F_f_law_by_digits) (O_f_law_by_mixes : Ok P w K mg base (gx K w ca) 3 "_law_by_mixes" 1 F_f_law_by_mixes) : Ok P w K mg base (gx K w ca) 4 "_law_rules" 1 F_f_law_rules :=
  ok_ofQ runsP D_ sc_f_law_rules rfl rfl fun f cdv A outer s H Ex hr =>
   pSs_cons (pS_set (i := 1) sc_f_law_rules.nd rfl (by first | exact Or.inl rfl | exact Or.inr rfl) (pI_if (pT_cmp (OpR.or op_ge (op_geD hr.units)) opS_geA (pI_callB call_abs callS_abs (by rfl) T.n_abs (by first | rfl | decide +kernel) (pI_cons (pI_var (i := 0) rfl (by first | exact Or.inl rfl | exact Or.inr (Or.inl rfl) | exact Or.inr (Or.inr rfl))) (pI_nil))) (pI_op op_pow opS_pow (pI_int) (pI_int)) (nomark _)) (pI_callO O_f_law_by_digits (hr.mono (by decide)) (by rfl) (pI_cons (pI_op op_sub opS_sub (pI_callB call_abs callS_abs (by rfl) T.n_abs (by first | rfl | decide +kernel) (pI_cons (pI_var (i := 0) rfl (by first | exact Or.inl rfl | exact Or.inr (Or.inl rfl) | exact Or.inr (Or.inr rfl))) (pI_nil))) (pI_op op_pow opS_pow (pI_int) (pI_int))) (pI_nil))) (pI_callO O_f_law_by_mixes (hr.mono (by decide)) (by rfl) (pI_cons (pI_var (i := 0) rfl (by first | exact Or.inl rfl | exact Or.inr (Or.inl rfl) | exact Or.inr (Or.inr rfl))) (pI_nil)))))
    (pSs_one (pS_ret (pI_callTy (CallR.or (call_listD2 rfl) call_list_of) callS_listD (by rfl) T.n_list (by first | rfl | decide +kernel) (pI_cons (pI_callTy (call_dictA rfl (lt10 (room65 hr))) callS_dictP (by rfl) T.n_dict (by first | rfl | decide +kernel) (pI_cons (pI_lc (own := [("_law_rule", 2)]) rfl sc_f_law_rules.nd (pIt_seq rfl (pI_var (i := 1) rfl (by first | exact Or.inl rfl | exact Or.inr (Or.inl rfl) | exact Or.inr (Or.inr rfl)))) (blkOk_by (N := N_f_law_rules) (sc := (defScope s_f_law_rules)) (by decide +kernel)) (fun _ _ _ _ _ => pG_name (i := 2) sc_f_law_rules.nd rfl (by first | exact Or.inl rfl | exact Or.inr rfl)) (fun _ _ _ _ _ => pTs_nil) (fun _ _ _ _ _ => pI_tup (pI_cons (pI_var (i := 2) rfl (by first | exact Or.inl rfl | exact Or.inr (Or.inl rfl) | exact Or.inr (Or.inr rfl))) (pI_cons (pI_bl) (pI_nil)))) (by decide)) (pI_nil))) (pI_nil)))))
theorem ok_f_law_made (T : Tx K w mg ca) (D_ : At K mg "_law_made" "_law_made" s_f_law_made ["_law_rules_here"]) (O_Grammar_init : OkMk P w K mg base (gx K w ca) 4 "Grammar" "Grammar" 1 F_Grammar_init) (O_f_law_word_of : Ok P w K mg base (gx K w ca) 1 "_law_word_of" 1 F_f_law_word_of) : Ok P w K mg base (gx K w ca) 6 "_law_made" 1 F_f_law_made :=
  ok_ofQ runsP D_ sc_f_law_made rfl rfl fun f cdv A outer s H Ex hr =>
   pSs_cons (pS_set (i := 1) sc_f_law_made.nd rfl (by first | exact Or.inl rfl | exact Or.inr rfl) (pI_non))
    (pSs_cons (pS_set (i := 2) sc_f_law_made.nd rfl (by first | exact Or.inl rfl | exact Or.inr rfl) (pI_non))
    (pSs_cons (pS_try (i := 3) rfl rfl sc_f_law_made.nd rfl rfl ⟨by rfl, by decide, .inl T.g_ReadError⟩ takes0 rfl T.hits_ReadError (fun W pn xe tk hp => pSs_one (pS_set (i := 1) sc_f_law_made.nd rfl (by first | exact Or.inl rfl | exact Or.inr rfl) (pI_makeR O_Grammar_init (hr.mono (by decide)) tk (by rfl) (pI_cons (pI_var (i := 0) rfl (by first | exact Or.inl rfl | exact Or.inr (Or.inl rfl) | exact Or.inr (Or.inr rfl))) (pI_nil))))) (fun a pn => pSs_one (pS_set (i := 2) sc_f_law_made.nd rfl (by first | exact Or.inl rfl | exact Or.inr rfl) (pI_var (i := 3) rfl (by first | exact Or.inl rfl | exact Or.inr (Or.inl rfl) | exact Or.inr (Or.inr rfl))))))
    (pSs_one (pS_ret (pI_if (pT_cmp op_isN opS_isN (pI_var (i := 2) rfl (by first | exact Or.inl rfl | exact Or.inr (Or.inl rfl) | exact Or.inr (Or.inr rfl))) (pI_non) (nomark _)) (pI_fld (pI_var (i := 1) rfl (by first | exact Or.inl rfl | exact Or.inr (Or.inl rfl) | exact Or.inr (Or.inr rfl))) rfl T.fl_rules) (pI_callO O_f_law_word_of (hr.mono (by decide)) (by rfl) (pI_cons (pI_var (i := 2) rfl (by first | exact Or.inl rfl | exact Or.inr (Or.inl rfl) | exact Or.inr (Or.inr rfl))) (pI_nil))))))))
theorem ok_f_law_many_right (T : Tx K w mg ca) (D_ : At K mg "_law_many_right" "_law_many_right" s_f_law_many_right ["_law_more"]) (O_f_law_many : Ok P w K mg base (gx K w ca) 2 "_law_many" 1 F_f_law_many) (O_f_law_made : Ok P w K mg base (gx K w ca) 6 "_law_made" 1 F_f_law_made) : Ok P w K mg base (gx K w ca) 7 "_law_many_right" 1 F_f_law_many_right :=
  ok_ofQ runsP D_ sc_f_law_many_right rfl rfl fun f cdv A outer s H Ex hr =>
   pSs_cons (pS_set (i := 1) sc_f_law_many_right.nd rfl (by first | exact Or.inl rfl | exact Or.inr rfl) (pI_callO O_f_law_many (hr.mono (by decide)) (by rfl) (pI_cons (pI_var (i := 0) rfl (by first | exact Or.inl rfl | exact Or.inr (Or.inl rfl) | exact Or.inr (Or.inr rfl))) (pI_nil))))
    (pSs_cons (pS_set (i := 2) sc_f_law_many_right.nd rfl (by first | exact Or.inl rfl | exact Or.inr rfl) (pI_str))
    (pSs_cons (pS_if (pT_cmp (op_eqP hr.units) opS_eq (pI_callB (CallR.or call_lenD2 call_len) callS_lenD (by rfl) T.n_len (by first | rfl | decide +kernel) (pI_cons (pI_var (i := 1) rfl (by first | exact Or.inl rfl | exact Or.inr (Or.inl rfl) | exact Or.inr (Or.inr rfl))) (pI_nil))) (pI_int) (nomark _)) (pSs_one (pS_set (i := 2) sc_f_law_many_right.nd rfl (by first | exact Or.inl rfl | exact Or.inr rfl) (pI_callTy (CallR.or (call_tupD2 rfl) call_tuple_of) callS_tupleD (by rfl) T.n_tuple (by first | rfl | decide +kernel) (pI_cons (pI_var (i := 1) rfl (by first | exact Or.inl rfl | exact Or.inr (Or.inl rfl) | exact Or.inr (Or.inr rfl))) (pI_nil))))) (pSs_nil))
    (pSs_cons (pS_if (pT_cmp op_gt opS_cmp (pI_op op_mod opS_mod (pI_op op_fdivW opS_divW (pI_var (i := 0) rfl (by first | exact Or.inl rfl | exact Or.inr (Or.inl rfl) | exact Or.inr (Or.inr rfl))) (pI_int)) (pI_int)) (pI_int) (nomark _)) (pSs_one (pS_set (i := 2) sc_f_law_many_right.nd rfl (by first | exact Or.inl rfl | exact Or.inr rfl) (pI_str))) (pSs_nil))
    (pSs_one (pS_ret (pI_cmp (op_eqP hr.units) opS_eq (pI_callO O_f_law_made (hr.mono (by decide)) (by rfl) (pI_cons (pI_var (i := 1) rfl (by first | exact Or.inl rfl | exact Or.inr (Or.inl rfl) | exact Or.inr (Or.inr rfl))) (pI_nil))) (pI_var (i := 2) rfl (by first | exact Or.inl rfl | exact Or.inr (Or.inl rfl) | exact Or.inr (Or.inr rfl))) (nomark _)))))))
theorem ok_f_law_right (T : Tx K w mg ca) (D_ : At K mg "_law_right" "_law_right" s_f_law_right ["_law_cell"]) (O_f_law_rules : Ok P w K mg base (gx K w ca) 4 "_law_rules" 1 F_f_law_rules) (O_f_law_draws : Ok P w K mg base (gx K w ca) 1 "_law_draws" 2 F_f_law_draws) (O_f_law_mix : Ok P w K mg base (gx K w ca) 1 "_law_mix" 2 F_f_law_mix) (O_f_law_made : Ok P w K mg base (gx K w ca) 6 "_law_made" 1 F_f_law_made) (O_f_law_odd_rule : Ok P w K mg base (gx K w ca) 1 "_law_odd_rule" 1 F_f_law_odd_rule) (O_f_law_no_list : Ok P w K mg base (gx K w ca) 1 "_law_no_list" 1 F_f_law_no_list) (O_f_law_many_right : Ok P w K mg base (gx K w ca) 7 "_law_many_right" 1 F_f_law_many_right) : OkG P w K mg base (gx K w ca) 8 "_law_right" 1 F_f_law_right :=
  okG_ofQ runsP D_ sc_f_law_right rfl rfl fun f cdv A outer s H Ex hr hgd =>
   pSs_cons (pS_set (i := 1) sc_f_law_right.nd rfl (by first | exact Or.inl rfl | exact Or.inr rfl) (pI_callO O_f_law_rules (hr.mono (by decide)) (by rfl) (pI_cons (pI_var (i := 0) rfl (by first | exact Or.inl rfl | exact Or.inr (Or.inl rfl) | exact Or.inr (Or.inr rfl))) (pI_nil))))
    (pSs_cons (pS_un rfl rfl (pI_callO O_f_law_draws (hr.mono (by decide)) (by rfl) (pI_cons (pI_callO O_f_law_mix (hr.mono (by decide)) (by rfl) (pI_cons (pI_var (i := 0) rfl (by first | exact Or.inl rfl | exact Or.inr (Or.inl rfl) | exact Or.inr (Or.inr rfl))) (pI_cons (pI_int) (pI_nil)))) (pI_cons (pI_lst (pI_cons (pI_int) (pI_cons (pI_int) (pI_cons (pI_op op_pow opS_pow (pI_int) (pI_int)) (pI_nil))))) (pI_nil)))) (pGs_cons (pG_name (i := 2) sc_f_law_right.nd rfl (by first | exact Or.inl rfl | exact Or.inr rfl)) (pGs_cons (pG_name (i := 3) sc_f_law_right.nd rfl (by first | exact Or.inl rfl | exact Or.inr rfl)) (pGs_cons (pG_name (i := 4) sc_f_law_right.nd rfl (by first | exact Or.inl rfl | exact Or.inr rfl)) (pGs_nil)))) rfl)
    (pSs_cons (pS_set (i := 3) sc_f_law_right.nd rfl (by first | exact Or.inl rfl | exact Or.inr rfl) (pI_op op_mod opS_mod (pI_var (i := 3) rfl (by first | exact Or.inl rfl | exact Or.inr (Or.inl rfl) | exact Or.inr (Or.inr rfl))) (pI_op op_addA opS_add (pI_callB (CallR.or call_lenD2 call_len) callS_lenD (by rfl) T.n_len (by first | rfl | decide +kernel) (pI_cons (pI_var (i := 1) rfl (by first | exact Or.inl rfl | exact Or.inr (Or.inl rfl) | exact Or.inr (Or.inr rfl))) (pI_nil))) (pI_int))))
    (pSs_cons (pS_if (pT_cmp (op_neP hr.units) opS_eq (pI_callO O_f_law_made (hr.mono (by decide)) (by rfl) (pI_cons (pI_var (i := 1) rfl (by first | exact Or.inl rfl | exact Or.inr (Or.inl rfl) | exact Or.inr (Or.inr rfl))) (pI_nil))) (pI_callTy (CallR.or (call_tupD2 rfl) call_tuple_of) callS_tupleD (by rfl) T.n_tuple (by first | rfl | decide +kernel) (pI_cons (pI_var (i := 1) rfl (by first | exact Or.inl rfl | exact Or.inr (Or.inl rfl) | exact Or.inr (Or.inr rfl))) (pI_nil))) (nomark _)) (pSs_one (pS_ret (pI_bl))) (pSs_nil))
    (pSs_cons (pS_set (i := 5) sc_f_law_right.nd rfl (by first | exact Or.inl rfl | exact Or.inr rfl) (pI_op op_addA opS_add (pI_op op_addA opS_add (pI_slice (pI_var (i := 1) rfl (by first | exact Or.inl rfl | exact Or.inr (Or.inl rfl) | exact Or.inr (Or.inr rfl))) (pO_none) (pO_some (pI_var (i := 3) rfl (by first | exact Or.inl rfl | exact Or.inr (Or.inl rfl) | exact Or.inr (Or.inr rfl)))) rfl) (pI_lst (pI_cons (pI_callO O_f_law_odd_rule (hr.mono (by decide)) (by rfl) (pI_cons (pI_var (i := 4) rfl (by first | exact Or.inl rfl | exact Or.inr (Or.inl rfl) | exact Or.inr (Or.inr rfl))) (pI_nil))) (pI_nil)))) (pI_slice (pI_var (i := 1) rfl (by first | exact Or.inl rfl | exact Or.inr (Or.inl rfl) | exact Or.inr (Or.inr rfl))) (pO_some (pI_var (i := 3) rfl (by first | exact Or.inl rfl | exact Or.inr (Or.inl rfl) | exact Or.inr (Or.inr rfl)))) (pO_none) rfl)))
    (pSs_cons (pS_if (pT_cmp (op_eqP hr.units) opS_eq (pI_var (i := 2) rfl (by first | exact Or.inl rfl | exact Or.inr (Or.inl rfl) | exact Or.inr (Or.inr rfl))) (pI_int) (nomark _)) (pSs_cons (pS_set (i := 6) sc_f_law_right.nd rfl (by first | exact Or.inl rfl | exact Or.inr rfl) (pI_ix (ix_all (lt9 (room65 hr))) opS_ixD (pI_var (i := 1) rfl (by first | exact Or.inl rfl | exact Or.inr (Or.inl rfl) | exact Or.inr (Or.inr rfl))) (pI_op op_mod opS_mod (pI_var (i := 4) rfl (by first | exact Or.inl rfl | exact Or.inr (Or.inl rfl) | exact Or.inr (Or.inr rfl))) (pI_callB (CallR.or call_lenD2 call_len) callS_lenD (by rfl) T.n_len (by first | rfl | decide +kernel) (pI_cons (pI_var (i := 1) rfl (by first | exact Or.inl rfl | exact Or.inr (Or.inl rfl) | exact Or.inr (Or.inr rfl))) (pI_nil)))) (fun _ _ => rfl)))
    (pSs_one (pS_set (i := 5) sc_f_law_right.nd rfl (by first | exact Or.inl rfl | exact Or.inr rfl) (pI_op op_addA opS_add (pI_op op_addA opS_add (pI_slice (pI_var (i := 1) rfl (by first | exact Or.inl rfl | exact Or.inr (Or.inl rfl) | exact Or.inr (Or.inr rfl))) (pO_none) (pO_some (pI_var (i := 3) rfl (by first | exact Or.inl rfl | exact Or.inr (Or.inl rfl) | exact Or.inr (Or.inr rfl)))) rfl) (pI_lst (pI_cons (pI_var (i := 6) rfl (by first | exact Or.inl rfl | exact Or.inr (Or.inl rfl) | exact Or.inr (Or.inr rfl))) (pI_nil)))) (pI_slice (pI_var (i := 1) rfl (by first | exact Or.inl rfl | exact Or.inr (Or.inl rfl) | exact Or.inr (Or.inr rfl))) (pO_some (pI_var (i := 3) rfl (by first | exact Or.inl rfl | exact Or.inr (Or.inl rfl) | exact Or.inr (Or.inr rfl)))) (pO_none) rfl))))) (pSs_nil))
    (pSs_cons (pS_if (pT_cmp (op_eqP hr.units) opS_eq (pI_var (i := 2) rfl (by first | exact Or.inl rfl | exact Or.inr (Or.inl rfl) | exact Or.inr (Or.inr rfl))) (pI_int) (nomark _)) (pSs_one (pS_set (i := 5) sc_f_law_right.nd rfl (by first | exact Or.inl rfl | exact Or.inr rfl) (pI_callO O_f_law_no_list (hr.mono (by decide)) (by rfl) (pI_cons (pI_var (i := 4) rfl (by first | exact Or.inl rfl | exact Or.inr (Or.inl rfl) | exact Or.inr (Or.inr rfl))) (pI_nil))))) (pSs_nil))
    (pSs_cons (pS_set (i := 7) sc_f_law_right.nd rfl (by first | exact Or.inl rfl | exact Or.inr rfl) (pI_callB (call_reprX (room65 hr) hgd) callS_reprX (by rfl) T.n_repr (by decide +kernel) (pI_cons (pI_var (i := 5) rfl (by first | exact Or.inl rfl | exact Or.inr (Or.inl rfl) | exact Or.inr (Or.inr rfl))) (pI_nil))))
    (pSs_cons (pS_if ((pW_or (pT_cmp (op_neP hr.units) opS_eq (pI_callO O_f_law_made (hr.mono (by decide)) (by rfl) (pI_cons (pI_var (i := 5) rfl (by first | exact Or.inl rfl | exact Or.inr (Or.inl rfl) | exact Or.inr (Or.inr rfl))) (pI_nil))) (pI_str) (nomark _)) (pW_or1 (pT_cmp (op_neP hr.units) opS_eq (pI_callB (call_reprX (room65 hr) hgd) callS_reprX (by rfl) T.n_repr (by decide +kernel) (pI_cons (pI_var (i := 5) rfl (by first | exact Or.inl rfl | exact Or.inr (Or.inl rfl) | exact Or.inr (Or.inr rfl))) (pI_nil))) (pI_var (i := 7) rfl (by first | exact Or.inl rfl | exact Or.inr (Or.inl rfl) | exact Or.inr (Or.inr rfl))) (nomark _)))).pt) (pSs_one (pS_ret (pI_bl))) (pSs_nil))
    (pSs_one (pS_ret (pI_or (pI_cmp op_gt opS_cmp (pI_var (i := 2) rfl (by first | exact Or.inl rfl | exact Or.inr (Or.inl rfl) | exact Or.inr (Or.inr rfl))) (pI_int) (nomark _)) (pI_one (pI_callO O_f_law_many_right (hr.mono (by decide)) (by rfl) (pI_cons (pI_var (i := 4) rfl (by first | exact Or.inl rfl | exact Or.inr (Or.inl rfl) | exact Or.inr (Or.inr rfl))) (pI_nil)))))))))))))))
theorem fn_law (T : Tx K w mg ca) {f : Addr} {fd : FuncData} (F : Fun K "law" "law" s_law f fd) (O_f_law_right : OkG P w K mg base (gx K w ca) 8 "_law_right" 1 F_f_law_right) : FnG P w K mg base CX0 9 f fd ["_law_script"] (spN (gx K w ca) 1 F_law) :=
  fnG_ok F sc_law rfl fun cdv A outer s H Ex hr hgd =>
   pSs_one (pS_ret (pI_callB (cr_all rfl) callS_all (by rfl) T.n_all (by first | rfl | decide +kernel) (pI_cons (pI_lc (own := [("_law_cell", 1)]) rfl sc_law.nd (pIt_seq rfl (pI_op op_addA opS_add (pI_var (i := 0) rfl (by first | exact Or.inl rfl | exact Or.inr (Or.inl rfl) | exact Or.inr (Or.inr rfl))) (pI_lst (pI_cons (pI_int) (pI_cons (pI_int) (pI_cons (pI_int) (pI_cons (pI_int) (pI_cons (pI_int) (pI_cons (pI_int) (pI_nil)))))))))) (blkOk_by (N := N_law) (sc := (defScope s_law)) (by decide +kernel)) (fun _ _ _ _ _ => pG_name (i := 1) sc_law.nd rfl (by first | exact Or.inl rfl | exact Or.inr rfl)) (fun _ _ _ _ _ => pTs_nil) (fun _ _ _ _ _ => pI_callG O_f_law_right (hr.mono (by decide)) hgd (by rfl) (pI_cons (pI_var (i := 1) rfl (by first | exact Or.inl rfl | exact Or.inr (Or.inl rfl) | exact Or.inr (Or.inr rfl))) (pI_nil))) (by decide)) (pI_nil))))
end
end Lw
namespace Lw
open PySem PySem.Spec PyProof.Rows L2 VI
mutual
/-- what may be handed in -/
def thing : D → Bool
  | .non => true
  | .bl _ => true
  | .int _ => true
  | .str z => decide (z.length ≤ 20000)
  | .tup ds => decide (ds.length ≤ 20000) && things ds
  | .lst ds => decide (ds.length ≤ 20000) && things ds
  | .dic kvs => dicOk kvs
  | _ => false
def things : List D → Bool
  | [] => true
  | d :: ds => thing d && things ds
/-- a dict of nothing, or of a text alone -/
def dicOk : List (D × D) → Bool
  | [] => true
  | [(.str _, .int _)] => true
  | [(.str _, .tup [])] => true
  | _ => false
end
theorem dicOk_form {kvs : List (D × D)} (h : dicOk kvs = true) : kvs = [] ∨ ∃ z v, kvs = [(.str z, v)] ∧ refsLt 0 v = true := by
  unfold dicOk at h
  split at h
  · exact .inl rfl
  · exact .inr ⟨_, _, rfl, by simp [refsLt]⟩
  · exact .inr ⟨_, _, rfl, by simp [refsLt, refsLts]⟩
  · cases h
theorem things_mem {ds : List D} : things ds = true ↔ ∀ d ∈ ds, thing d = true := by
  induction ds with
  | nil => simp [things]
  | cons d ds ih => simp [things, ih]
mutual
theorem thing_refs : ∀ d : D, thing d = true → refsLt 0 d = true
  | .non, _ => by simp [refsLt]
  | .bl _, _ => by simp [refsLt]
  | .int _, _ => by simp [refsLt]
  | .str _, _ => by simp [refsLt]
  | .tup ds, h => by
    simp only [thing, Bool.and_eq_true] at h
    simp only [refsLt]; exact things_refs ds h.2
  | .lst ds, h => by
    simp only [thing, Bool.and_eq_true] at h
    simp only [refsLt]; exact things_refs ds h.2
  | .dic kvs, h => by
    simp only [thing] at h
    rcases dicOk_form h with rfl | ⟨z, v, rfl, hv⟩ <;> simp [refsLt, refsLtK, *]
  | .ref _, h => by simp [thing] at h
  | .ty _, h => by simp [thing] at h
  | .cl _, h => by simp [thing] at h
  | .obj _ _, h => by simp [thing] at h
theorem things_refs : ∀ ds : List D, things ds = true → refsLts 0 ds = true
  | [], _ => by simp [refsLts]
  | d :: ds, h => by
    simp only [things, Bool.and_eq_true] at h
    simp only [refsLts, Bool.and_eq_true]; exact ⟨thing_refs d h.1, things_refs ds h.2⟩
end
theorem thing_noref {d : D} (h : thing d = true) : ∀ n, d ≠ .ref n := fun n e => by subst e; simp [thing] at h
theorem isi_d1 {z : Str} {v : D} {st : Store} : fIsi [.dic [(.str z, v)], .ty "str"] st = .ok (.val (.bl false)) st := by
  have kk : kKeys [(.str z, v)] = true := by rfl
  simp [fIsi, tysOf, isiTab, tyD, kk]
theorem isi_d2 {z : Str} {v : D} {st : Store} : fIsi [.dic [(.str z, v)], .ty "tuple"] st = .ok (.val (.bl false)) st := by
  have kk : kKeys [(.str z, v)] = true := by rfl
  simp [fIsi, tysOf, isiTab, tyD, kk]
abbrev letters : Str := "abcdefghijklmnopqrstuvwxyz"
def nameB : D → Bool
  | .str z => (decide ((1 : Int) ≤ (z.length : Int)) && decide ((z.length : Int) ≤ 8)) && z.cps.toList.all fun c => strIn ⟨#[c]⟩ letters
  | _ => false
theorem is_name_eq (d : D) (st : Store) (h : thing d = true) : F_is_name [d] st = .ok (.val (.bl (nameB d))) st := by
  unfold F_is_name runP b_is_name x1_is_name x2_is_name x3_is_name
  cases d with
  | str z =>
    simp only [thing, decide_eq_true_eq] at h
    have hz : z.length ≤ 100000 := by omega
    have hlc : lc_is_name_1 [some (D.str z), none] st = _ := evLc_map1 (own := [1]) (m := itSeq (evVar 0)) (g := gdName 1) (e := ev2 (fInD false) (evVar 1) (evC (.str letters))) (env := [some (D.str z), none]) (st := st) (items := z.cps.toList) (fun c => D.str ⟨#[c]⟩)
      (fun c => D.bl (strIn ⟨#[c]⟩ letters)) (fun c => [some (D.str z), some (D.str ⟨#[c]⟩)]) (by simp) (by simpa [Str.length] using hz) (fun c _ => ⟨by simp [wipeD], fun more => ⟨_, by simp; rfl, rfl⟩⟩) (fun c _ => by simp [refsLt])
    by_cases h1 : (1 : Int) ≤ (z.length : Int) <;> by_cases h2 : (z.length : Int) ≤ 8 <;> simp [isi_d1, isi_d2, isiTab, hz, hlc, h1, h2, nameB]
  | dic kvs =>
    simp only [thing] at h
    rcases dicOk_form h with rfl | ⟨z, v, rfl, hv⟩ <;> simp [isi_d1, isi_d2, isiTab, nameB]
  | _ => simp [isiTab, nameB, thing] at h ⊢
theorem all_blB {α : Type} (f : α → Bool) (xs : List α) (st : Store) : fAll [.lst (xs.map fun x => D.bl (f x))] st = .ok (.val (.bl (xs.all f))) st := by
  simp [List.all_map, Function.comp_def]
/-- whether all of some are names -/
def namesB (ds : List D) : Bool := ds.all nameB
def ruleB : D → Bool
  | .tup [a, .tup ns] => nameB a && (decide ((ns.length : Int) ≤ 8) && namesB ns)
  | _ => false
theorem is_rule_eq (d : D) (st : Store) (h : thing d = true) : F_is_rule [d] st = .ok (.val (.bl (ruleB d))) st := by
  unfold F_is_rule runP b_is_rule x1_is_rule x2_is_rule x3_is_rule x4_is_rule
  cases d with
  | tup ds =>
    simp only [thing, Bool.and_eq_true, decide_eq_true_eq] at h
    obtain ⟨h0, hm⟩ := h
    match ds, h0, hm with
    | [], _, _ => simp [isiTab, ruleB]
    | [a], _, _ => simp [isiTab, ruleB]
    | [a, b], _, hm =>
      have ha := things_mem.mp hm a (by simp)
      have hb := things_mem.mp hm b (by simp)
      have n1 := is_name_eq a st ha
      cases q1 : nameB a with
      | false => cases b <;> simp [isi_d1, isi_d2, isiTab, ruleB, atI, ixN, n1, q1]
      | true =>
        cases b with
        | tup ns =>
          simp only [thing, Bool.and_eq_true, decide_eq_true_eq] at hb
          have hlc : lc_is_rule_1 [some (D.tup [a, .tup ns]), some (.tup ns), none] st = _ := evLc_map1 (own := [2]) (m := itSeq (evVar 1)) (g := gdName 2) (e := evCall 1 F_is_name (acons (evVar 2) (anil))) (env := [some (D.tup [a, .tup ns]), some (.tup ns), none]) (st := st) (items := ns) id
            (fun d => D.bl (nameB d)) (fun d => [some (D.tup [a, .tup ns]), some (.tup ns), some d]) (by simp) (by omega) (fun d hd => ⟨by simp [wipeD], fun more => ⟨.val (.bl (nameB d)), by
              have := is_name_eq d (st ++ more) (things_mem.mp hb.2 d hd)
              simp [this], rfl⟩⟩) (fun d _ => by simp [refsLt])
          by_cases q2 : (ns.length : Int) ≤ 8
          · simp [isiTab, ruleB, atI, ixN, n1, q1, hlc, q2, List.all_map, Function.comp_def, namesB]
          · simp [isiTab, ruleB, atI, ixN, n1, q1, q2, namesB]
        | dic kvs =>
          simp only [thing] at hb
          rcases dicOk_form hb with rfl | ⟨z, v, rfl, hv⟩ <;> simp [isi_d1, isi_d2, isiTab, ruleB, atI, ixN, n1, q1]
        | _ => simp [isiTab, ruleB, atI, ixN, n1, q1, thing] at hb ⊢
    | a :: b :: c :: r, h0, _ =>
      have q : ¬ ((r.length : Int) + 1 + 1 + 1 = 2) := by omega
      simp [isiTab, ruleB, q]
  | dic kvs =>
    simp only [thing] at h
    rcases dicOk_form h with rfl | ⟨z, v, rfl, hv⟩ <;> simp [isi_d1, isi_d2, isiTab, ruleB]
  | _ => simp [isiTab, ruleB, thing] at h ⊢
end Lw
namespace Lw
open PySem PySem.Spec PyProof.Rows L2 VI
theorem finX_none {st : Store} {c : String} : finX st ⟨c, none⟩ st = .exc ⟨c, none⟩ st := by
  unfold finX
  rw [if_pos ⟨cutOk_refl st, rfl⟩, List.take_length]
theorem nub_len' : ∀ l : List D, (nub l).length ≤ l.length
  | [] => Nat.le_refl _
  | a :: l => by
    have := nub_len' l
    unfold nub
    split <;> simp <;> omega
theorem nub_lt : ∀ l : List D, (nub l).length < l.length ↔ ¬ l.Nodup
  | [] => by simp [nub]
  | a :: l => by
    have ih := nub_lt l
    have h0 := nub_len' l
    unfold nub
    rw [List.nodup_cons]
    by_cases h : a ∈ l
    · simp [h]; omega
    · simp only [h, if_false, not_false_eq_true, true_and, List.length_cons]
      rw [← ih]; omega
/-- a list, a tuple or a cell that holds one, as an argument -/
def SeqArg (d : D) (st : Store) (ds : List D) : Prop := d = .lst ds ∨ d = .tup ds ∨ ∃ k, d = .ref k ∧ st[k]? = some (some (.lst ds))
theorem SeqArg.isi {d : D} {st : Store} {ds : List D} (h : SeqArg d st ds) : fIsi [d, .tup [.ty "list", .ty "tuple"]] st = .ok (.val (.bl true)) st := by
  rcases h with rfl | rfl | ⟨k, rfl, h⟩
  · simp [fIsi, tysOf, isiTab, tyD]
  · simp [fIsi, tysOf, isiTab, tyD]
  · simp [fIsi, tysOf, isiTab, tyD, h]
theorem SeqArg.len {d : D} {st : Store} {ds : List D} (h : SeqArg d st ds) : fLenD [d] st = .ok (.val (.int ds.length)) st := by
  rcases h with rfl | rfl | ⟨k, rfl, h⟩
  · rfl
  · rfl
  · exact fLenD_ref h
theorem SeqArg.more {d : D} {st more : Store} {ds : List D} (h : SeqArg d st ds) : SeqArg d (st ++ more) ds := by
  rcases h with rfl | rfl | ⟨k, rfl, h⟩
  · exact .inl rfl
  · exact .inr (.inl rfl)
  · refine .inr (.inr ⟨k, rfl, ?_⟩)
    rw [List.getElem?_append_left (List.getElem?_eq_some_iff.mp h).1]; exact h
theorem SeqArg.tuple {d : D} {st : Store} {ds : List D} (h : SeqArg d st ds) : fTupleD [d] st = .ok (.val (.tup ds)) st := by
  rcases h with rfl | rfl | ⟨k, rfl, h⟩
  · rfl
  · rfl
  · exact fTupleD_ref h
theorem SeqArg.col {d : D} {st : Store} {ds : List D} (h : SeqArg d st ds) : colOf d st = some ds := by
  rcases h with rfl | rfl | ⟨k, rfl, h⟩
  · rfl
  · rfl
  · simp [colOf, h]
theorem SeqArg.seq {d : D} {st : Store} {ds : List D} (h : SeqArg d st ds) : ∃ src, seqOf d st = some (ds, src) ∧ ∀ k, src = some k → st[k]? = some (some (.lst ds)) := by
  rcases h with rfl | rfl | ⟨k, rfl, h⟩
  · exact ⟨none, rfl, fun _ z => nomatch z⟩
  · exact ⟨none, rfl, fun _ z => nomatch z⟩
  · exact ⟨some k, by simp [seqOf, lstOf, h], fun j e => by cases e; exact h⟩
/-- the items of a list or a tuple -/
def seqD : D → Option (List D)
  | .lst ds => some ds
  | .tup ds => some ds
  | _ => none
theorem seq_arg {d : D} {ds : List D} (h : seqD d = some ds) (st : Store) : SeqArg d st ds := by
  cases d <;> simp [seqD] at h
  · subst h; exact .inr (.inl rfl)
  · subst h; exact .inl rfl
theorem rule_form {d : D} (h : ruleB d = true) : ∃ (a : Str) (ns : List Str), d = .tup [.str a, .tup (ns.map D.str)] ∧ nameB (.str a) = true ∧ ns.length ≤ 8 ∧ ∀ x ∈ ns, nameB (.str x) = true := by
  unfold ruleB at h
  split at h
  · rename_i a ns
    simp only [Bool.and_eq_true, decide_eq_true_eq, namesB, List.all_eq_true] at h
    obtain ⟨h1, h2, h3⟩ := h
    have str : ∀ d, nameB d = true → ∃ x : Str, d = .str x := fun d h => by cases d <;> simp [nameB] at h; exact ⟨_, rfl⟩
    obtain ⟨x, rfl⟩ := str a h1
    have all : ∀ ns : List D, (∀ d ∈ ns, nameB d = true) → ∃ ss : List Str, ns = ss.map D.str := fun ns => by
      induction ns with
      | nil => intro _; exact ⟨[], rfl⟩
      | cons d ns ih =>
        intro h
        obtain ⟨ss, e⟩ := ih fun y hy => h y (List.mem_cons_of_mem _ hy)
        obtain ⟨y, e2⟩ := str d (h d (by simp))
        exact ⟨y :: ss, by rw [e, e2]; rfl⟩
    obtain ⟨ss, rfl⟩ := all ns h3
    refine ⟨x, ss, rfl, h1, by simp at h2; omega, fun y hy => h3 _ (List.mem_map.mpr ⟨y, hy, rfl⟩)⟩
  · cases h
theorem strs_keys (ns : List Str) : isKeys (ns.map D.str) = true := by
  induction ns with
  | nil => rfl
  | cons x ns ih => simp only [List.map_cons, isKeys, isKey, ih, Bool.and_self]
theorem strs_nkdepth (ns : List Str) : NestedKey.depthAll (nkDs (ns.map D.str)) = 0 := by
  induction ns with
  | nil => rfl
  | cons x ns ih => simp only [List.map_cons, nkDs, nkD, NestedKey.depthAll, NestedKey.depth, ih]; rfl
theorem strs_pydepth (ns : List Str) : PyData.depthAll (toPys (ns.map D.str)) = 0 := by
  induction ns with
  | nil => rfl
  | cons x ns ih => simp only [List.map_cons, toPys, toPy, PyData.depthAll, PyData.depth, ih]; rfl
theorem rule_key {d : D} (h : ruleB d = true) : keyTup d = true ∧ keyNd d = true := by
  obtain ⟨a, ns, rfl, _⟩ := rule_form h
  have k1 : isKeys [D.str a, .tup (ns.map D.str)] = true := by simp [isKeys, isKey, strs_keys]
  have k2 : (nkD (.tup [D.str a, .tup (ns.map D.str)])).depth ≤ 8 := by
    simp only [nkD, nkDs, NestedKey.depth, NestedKey.depthAll, strs_nkdepth]; omega
  have k3 : (toPy (.tup [D.str a, .tup (ns.map D.str)])).depth ≤ 30 := by
    simp only [toPy, toPys, PyData.depth, PyData.depthAll, strs_pydepth]; omega
  constructor
  · simp only [keyTup, k1, k2, k3, decide_true, Bool.and_self]
  · simp only [keyNd, k1, k2, decide_true, Bool.and_self]
def rulesB (ds : List D) : Bool := decide (ds.length ≠ 0) && ds.all ruleB
theorem lenSet_eq {d : D} {st : Store} {ds : List D} (h : SeqArg d st ds) (hr : ds.all ruleB = true) (hl : ds.length ≤ 306) : fLenSet [d] st = .ok (.val (.int (nub ds).length)) st := by
  have c : (decide (ds.length < 307) && ds.all keyTup) = true := by
    rw [Bool.and_eq_true, List.all_eq_true]
    exact ⟨decide_eq_true (by omega), fun x hx => (rule_key (List.all_eq_true.mp hr x hx)).1⟩
  simp only [fLenSet, h.col, c, if_true]
theorem need_lc {d : D} {st : Store} {ds : List D} {a1 : Option D} (h : SeqArg d st ds) (th : ∀ x ∈ ds, thing x = true) (hl : ds.length ≤ 1000) : lc_need_rules_1 [some d, a1] st = .ok (.new (.lst (ds.map fun x => D.bl (ruleB x)))) st := by
  obtain ⟨src, e, hs⟩ := h.seq
  have q := evLc_mapS (own := [1]) (m := itSeq (evVar 0)) (g := gdName 1) (t := tvYes) (e := evCall 1 F_is_rule (acons (evVar 1) (anil))) (env := [some d, a1]) (st := st) (items := ds) (src := src) (fun _ => true) (fun x => D.bl (ruleB x)) (fun x => [some d, some x])
    (by simp [e]) hs (by omega) (fun x hx => ⟨by simp [wipeD], fun more => ⟨rfl, fun _ => ⟨.val (.bl (ruleB x)), by
      have := is_rule_eq x (st ++ more) (th x hx)
      simp [this], rfl⟩⟩⟩) (fun x _ _ => by simp [refsLt])
  rw [List.filter_eq_self.mpr (fun _ _ => rfl)] at q
  exact q
theorem need_eq {d : D} {st : Store} {ds : List D} (h : SeqArg d st ds) (th : ∀ x ∈ ds, thing x = true) (hl : ds.length ≤ 306) :
    F_need_rules [d] st = if rulesB ds = true ∧ ds.Nodup then (if ds.length ≤ 300 then .ok (.val .non) st else .exc ⟨"TooMany", none⟩ st) else .exc ⟨"NoGrammar", none⟩ st := by
  have lc := need_lc (a1 := none) h th (by omega)
  have i := h.isi
  have l := h.len
  have al := all_blB ruleB ds st
  have n0 := nub_lt ds
  have n1 := nub_len' ds
  unfold F_need_rules runP b_need_rules x1_need_rules x2_need_rules x3_need_rules x4_need_rules x5_need_rules x6_need_rules
  by_cases h0 : ds.length = 0
  · have e : ¬ (rulesB ds = true ∧ ds.Nodup) := fun z => by simp [rulesB, h0] at z
    rw [if_neg e]
    have c0 : ((ds.length : Nat) : Int) = 0 := by omega
    simp [i, l, c0, sRaise, finX_none]
  · have c0 : ¬ ((ds.length : Nat) : Int) = 0 := by omega
    cases q : ds.all ruleB with
    | false =>
      have e : ¬ (rulesB ds = true ∧ ds.Nodup) := fun z => by simp [rulesB, q] at z
      rw [if_neg e]
      rw [q] at al
      generalize (ds.length : Int) = n at *
      simp [i, l, c0, lc, al, sRaise, finX_none]
    | true =>
      have ls := lenSet_eq h q hl
      rw [q] at al
      have e0 : rulesB ds = true := by simp [rulesB, q, h0]
      rw [e0]
      by_cases hn : ds.Nodup
      · rw [if_pos ⟨rfl, hn⟩]
        have hlt : ¬ ((nub ds).length : Int) < (ds.length : Int) := by
          intro z
          exact n0.mp (by omega) hn
        by_cases h3 : ds.length ≤ 300
        · rw [if_pos h3]
          have h3' : ¬ (300 : Int) < (ds.length : Int) := by omega
          generalize (ds.length : Int) = n at *
          generalize ((nub ds).length : Int) = k at *
          simp [i, l, c0, lc, al, ls, hlt, h3']
        · rw [if_neg h3]
          have h3' : (300 : Int) < (ds.length : Int) := by omega
          generalize (ds.length : Int) = n at *
          generalize ((nub ds).length : Int) = k at *
          simp [i, l, c0, lc, al, ls, hlt, h3', sRaise, finX_none]
      · rw [if_neg fun z => hn z.2]
        have hlt : ((nub ds).length : Int) < (ds.length : Int) := by
          have := n0.mpr hn
          omega
        generalize (ds.length : Int) = n at *
        generalize ((nub ds).length : Int) = k at *
        simp [i, l, c0, lc, al, ls, hlt, sRaise, finX_none]
theorem need_other {d : D} {st : Store} (h : thing d = true) (hs : seqD d = none) : F_need_rules [d] st = .exc ⟨"NoGrammar", none⟩ st := by
  have i : fIsi [d, .tup [.ty "list", .ty "tuple"]] st = .ok (.val (.bl false)) st := by
    cases d with
    | lst ds => simp [seqD] at hs
    | tup ds => simp [seqD] at hs
    | dic kvs =>
      simp only [thing] at h
      rcases dicOk_form h with rfl | ⟨z, v, rfl, hv⟩
      · have kk : kKeys [] = true := by rfl
        simp [fIsi, tysOf, isiTab, tyD, kk]
      · have kk : kKeys [(.str z, v)] = true := by rfl
        simp [fIsi, tysOf, isiTab, tyD, kk]
    | _ => first | (simp [thing] at h; done) | (simp [fIsi, tysOf, isiTab, tyD])
  unfold F_need_rules runP b_need_rules x1_need_rules x2_need_rules
  simp [i, sRaise, finX_none]
end Lw
namespace Lw
open PySem PySem.Spec PyProof.Rows L2 VI
/-- each turn goes on, the source being what it was -/
theorem forGo_invS {iv : IterV} {g : GD} {body : SM} (I : Nat → DEnv → Store → Prop) (hs : ∀ i env st, I i env st → srcOk iv st = true) : ∀ (items : List D) (k : Nat) (env : DEnv) (st : Store), I k env st →
    (∀ i d env st, items[i]? = some d → I (k + i) env st → ∃ env1 env2 st2, g d env = some env1 ∧ (body env1 st = .nx env2 st2 ∨ body env1 st = .cnt env2 st2) ∧ I (k + i + 1) env2 st2) →
    ∃ env2 st2, forGo iv g body items env st = .nx env2 st2 ∧ I (k + items.length) env2 st2
  | [], k, env, st, h0, _ => by
    refine ⟨env, st, ?_, by simpa using h0⟩
    unfold forGo
    rw [if_pos (hs k env st h0)]
  | d :: items, k, env, st, h0, h => by
    obtain ⟨env1, env2, st2, h1, h2, h3⟩ := h 0 d env st rfl (by simpa using h0)
    obtain ⟨env3, st3, h4, h5⟩ := forGo_invS I hs items (k + 1) env2 st2 (by simpa using h3) fun i d' env st hi hI => by
      have e : k + 1 + i = k + (i + 1) := by omega
      rw [e] at hI ⊢
      exact h (i + 1) d' env st (by simpa using hi) hI
    refine ⟨env3, st3, ?_, by simp only [List.length_cons]; rw [show k + (items.length + 1) = k + 1 + items.length by omega]; exact h5⟩
    unfold forGo
    rw [if_pos (hs k env st h0)]
    simp only [h1]
    rcases h2 with h2 | h2 <;> simp only [h2] <;> exact h4
mutual
theorem key_refs : ∀ d : D, isKey d = true → refsLt 0 d = true
  | .non, _ => by simp [refsLt]
  | .int _, _ => by simp [refsLt]
  | .str _, _ => by simp [refsLt]
  | .tup ds, h => by
    simp only [isKey] at h
    simp only [refsLt]; exact keys_refs ds h
  | .bl _, h => by simp [isKey] at h
  | .lst _, h => by simp [isKey] at h
  | .dic _, h => by simp [isKey] at h
  | .ref _, h => by simp [isKey] at h
  | .ty _, h => by simp [isKey] at h
  | .cl _, h => by simp [isKey] at h
  | .obj _ _, h => by simp [isKey] at h
theorem keys_refs : ∀ ds : List D, isKeys ds = true → refsLts 0 ds = true
  | [], _ => by simp [refsLts]
  | d :: ds, h => by
    simp only [isKeys, Bool.and_eq_true] at h
    simp only [refsLts, Bool.and_eq_true]; exact ⟨key_refs d h.1, keys_refs ds h.2⟩
end
theorem keyAll_refs {xs : List D} (h : keyAll xs = true) : ∀ x ∈ xs, refsLt 0 x = true := fun x hx => by
  unfold keyAll at h
  rw [Bool.or_eq_true, List.all_eq_true, List.all_eq_true] at h
  rcases h with h | h
  · have := h x hx
    cases x <;> simp [keyOfD] at this <;> simp [refsLt]
  · exact key_refs x (keyNd_key (h x hx)).1
theorem take_snoc' {α : Type} {l : List α} {i : Nat} {y : α} (h : l[i]? = some y) : l.take (i + 1) = l.take i ++ [y] := by
  rw [List.take_succ, h]; rfl
theorem each_eq {d : D} {st : Store} {xs : List D} (h : SeqArg d st xs) (hk : keyAll xs = true) (hl : xs.length ≤ 99999) : F_each_once [d] st = .ok (.val (.tup (once [] xs))) st := by
  obtain ⟨src, e, hsrc⟩ := h.seq
  have S1 : x1_each_once [some d, none, none] st = .nx [some d, some (.ref st.length), none] (st ++ [some (.dic [])]) := by
    unfold x1_each_once; simp
  obtain ⟨env2, st2, el, kvs, a2, hkv, hm, rfl, rfl⟩ := forGo_invS (iv := ⟨xs, src⟩) (g := gdName 2) (body := lp_each_once_1)
    (fun i env s => ∃ (kvs : List (D × D)) (a2 : Option D), kvs.map (·.1) = once [] (xs.take i) ∧ (∀ p ∈ kvs, p.1 ∈ xs) ∧ env = [some d, some (.ref st.length), a2] ∧ s = st ++ [some (.dic kvs)])
    (fun i env s hI => by
      obtain ⟨kvs, a2, _, _, rfl, rfl⟩ := hI
      cases src with
      | none => rfl
      | some k =>
        have q := hsrc k rfl
        unfold srcOk
        have : (st ++ [some (D.dic kvs)])[k]? = some (some (.lst xs)) := by rw [List.getElem?_append_left (List.getElem?_eq_some_iff.mp q).1]; exact q
        simp [this])
    xs 0 [some d, some (.ref st.length), none] (st ++ [some (.dic [])]) ⟨[], none, by simp [once], by simp, rfl, rfl⟩ (fun i x env s hi hI => by
      obtain ⟨kvs, a2, h1, h2, rfl, rfl⟩ := hI
      simp only [Nat.zero_add] at h1 ⊢
      have mx := List.mem_of_getElem? hi
      have ok := okKey_of hk mx h2
      have len : kvs.length < 100000 := by
        have a := congrArg List.length h1
        have b := once_len (xs.take i) []
        simp at a b
        omega
      have g : (st ++ [some (D.dic kvs)])[st.length]? = some (some (.dic kvs)) := by simp
      have w := fSetA_dic (v := .bl true) g ok len
      have w2 : (st ++ [some (D.dic kvs)]).set st.length (some (.dic (putA kvs x (.bl true)))) = st ++ [some (.dic (putA kvs x (.bl true)))] := by simp
      rw [w2] at w
      refine ⟨_, _, _, by simp; rfl, .inl ?_, putA kvs x (.bl true), some x, ?_, ?_, rfl, rfl⟩
      · unfold lp_each_once_1 x3_each_once
        simp [w]
      · rw [putA_keys, h1, take_snoc' hi, once_snoc]
      · intro p hp
        have : p.1 ∈ (putA kvs x (.bl true)).map (·.1) := List.mem_map.mpr ⟨p, hp, rfl⟩
        rw [putA_keys] at this
        split at this
        · obtain ⟨q, hq, e⟩ := List.mem_map.mp this
          rw [← e]; exact h2 q hq
        · rcases List.mem_append.mp this with this | this
          · obtain ⟨q, hq, e⟩ := List.mem_map.mp this
            rw [← e]; exact h2 q hq
          · rw [List.mem_singleton.mp this]; exact mx)
  have hkv' : kvs.map (·.1) = once [] xs := by
    rw [hkv, show xs.take (0 + xs.length) = xs by simp]
  have S2 : x2_each_once [some d, some (.ref st.length), none] (st ++ [some (.dic [])]) = .nx [some d, some (.ref st.length), a2] (st ++ [some (.dic kvs)]) := by
    have it : itSeq (evVar 0) [some d, some (.ref st.length), none] (st ++ [some (.dic [])]) = .ok ⟨xs, src⟩ (st ++ [some (.dic [])]) := by
      obtain ⟨src2, e2, _⟩ := (h.more (more := [some (D.dic [])])).seq
      have : src2 = src := by
        rcases h with rfl | rfl | ⟨k, rfl, h⟩
        · cases e; cases e2; rfl
        · cases e; cases e2; rfl
        · have h' : (st ++ [some (D.dic [])])[k]? = some (some (.lst xs)) := by rw [List.getElem?_append_left (List.getElem?_eq_some_iff.mp h).1]; exact h
          simp [seqOf, lstOf, h] at e
          simp [seqOf, lstOf, h'] at e2
          rw [← e, ← e2]
      subst this
      simp [e2]
    unfold x2_each_once
    rw [sFor_s, it]
    simp only [sof_ok]
    exact el
  have S4 : x4_each_once [some d, some (.ref st.length), a2] (st ++ [some (.dic kvs)]) = .ret (.val (.tup (once [] xs))) (st ++ [some (.dic kvs)]) := by
    have g : (st ++ [some (D.dic kvs)])[st.length]? = some (some (.dic kvs)) := by simp
    have := fTupleD_dref g
    rw [hkv'] at this
    unfold x4_each_once
    simp [this]
  unfold F_each_once
  have run : b_each_once ([d].map some ++ List.replicate (3 - [d].length) none) st = .ret (.val (.tup (once [] xs))) (st ++ [some (.dic kvs)]) := by
    unfold b_each_once
    show (sSeq x1_each_once _) [some d, none, none] st = _
    rw [run_step S1, run_step S2]
    exact S4
  rw [run_ret run]
  refine fin_val ?_ (fun _ => nofun)
  simp only [refsLt]
  rw [refsLts_all]
  intro x hx
  exact refsLt_mono (Nat.zero_le _) _ (keyAll_refs hk x (by simpa using (once_mem xs [] x).mp hx))
end Lw
namespace Lw
open PySem PySem.Spec PyProof.Rows L2 VI
/-! ### what Grammar(..) makes -/
abbrev RS := List (Str × List Str)
def ruleD (r : Str × List Str) : D := .tup [.str r.1, .tup (r.2.map D.str)]
def heads (rs : RS) : List Str := rs.map (·.1)
def partsOf (rs : RS) : List Str := once [] (heads rs)
/-- the numbers of the rules of a part among the first i -/
def numsTo (rs : RS) (i : Nat) (p : Str) : List Nat := (List.range i).filter fun k => decide ((heads rs)[k]? = some p)
def namesTo (rs : RS) (i : Nat) : List Str := (rs.take i).flatMap (·.2)
def wordsOf (rs : RS) : List Str := isort leT ((once [] (namesTo rs rs.length)).filter fun w => !decide (w ∈ partsOf rs))
/-- the first place of a text -/
def fst1 : List Str → Str → Nat
  | [], _ => 0
  | x :: xs, p => if x = p then 0 else fst1 xs p + 1
theorem fst1_get : ∀ {xs : List Str} {p : Str}, p ∈ xs → xs[fst1 xs p]? = some p
  | x :: xs, p, h => by
    unfold fst1
    by_cases e : x = p
    · subst e; simp
    · rw [if_neg e]
      have : p ∈ xs := (List.mem_cons.mp h).resolve_left fun z => e z.symm
      simpa using fst1_get this
theorem fst1_le : ∀ {xs : List Str} {p : Str} {j : Nat}, xs[j]? = some p → fst1 xs p ≤ j
  | x :: xs, p, 0, h => by
    simp at h; subst h; simp [fst1]
  | x :: xs, p, j + 1, h => by
    unfold fst1
    split
    · omega
    · have := fst1_le (xs := xs) (p := p) (j := j) (by simpa using h)
      omega
theorem fst1_lt {xs : List Str} {p : Str} {i : Nat} (h : p ∈ xs.take i) : fst1 xs p < i := by
  obtain ⟨j, hj⟩ := List.getElem?_of_mem h
  rw [List.getElem?_take] at hj
  split at hj
  · rename_i q
    have := fst1_le hj
    omega
  · cases hj
theorem fst1_ge {xs : List Str} {p : Str} {i : Nat} (h : p ∉ xs.take i) (hm : p ∈ xs) : i ≤ fst1 xs p := by
  refine Nat.le_of_not_lt fun q => h ?_
  have g := fst1_get hm
  exact List.mem_of_getElem? (i := fst1 xs p) (by rw [List.getElem?_take, if_pos q]; exact g)
theorem nums_succ (rs : RS) (i : Nat) (q : Str) : numsTo rs (i + 1) q = numsTo rs i q ++ (if (heads rs)[i]? = some q then [i] else []) := by
  unfold numsTo
  rw [List.range_succ, List.filter_append]
  congr 1
  by_cases h : (heads rs)[i]? = some q <;> simp [List.filter_cons, h]
theorem nums_none {rs : RS} {i : Nat} {q : Str} (h : q ∉ (heads rs).take i) : numsTo rs i q = [] := by
  unfold numsTo
  rw [List.filter_eq_nil_iff]
  intro k hk
  have hk := List.mem_range.mp hk
  simp only [decide_eq_true_eq]
  intro e
  exact h (List.mem_of_getElem? (i := k) (by rw [List.getElem?_take, if_pos hk]; exact e))
def intsOf (ks : List Nat) : D := .lst (ks.map fun k : Nat => D.int (k : Int))
def cellAt (rs : RS) (i j : Nat) : D := match (heads rs)[j]? with
  | some p => if fst1 (heads rs) p = j then intsOf (numsTo rs i p) else .lst []
  | none => .lst []
def cellsTo (rs : RS) (i : Nat) : Store := (List.range i).map fun j => some (cellAt rs i j)
def kvsTo (L : Nat) (rs : RS) (i : Nat) : List (D × D) := (once [] ((heads rs).take i)).map fun p => (.str p, .ref (L + 3 + fst1 (heads rs) p))
theorem cells_get (rs : RS) (i j : Nat) : (cellsTo rs i)[j]? = if j < i then some (some (cellAt rs i j)) else none := by
  unfold cellsTo
  rw [List.getElem?_map]
  by_cases h : j < i
  · rw [List.getElem?_range h]; simp [h]
  · rw [List.getElem?_eq_none (by simpa using h)]; simp [h]
theorem cell_lst (rs : RS) (i j : Nat) : ∃ xs, cellAt rs i j = .lst xs ∧ xs.length ≤ i := by
  unfold cellAt
  split
  · split
    · refine ⟨_, rfl, ?_⟩
      rw [List.length_map]
      unfold numsTo
      exact Nat.le_trans (List.length_filter_le _ _) (by simp)
    · exact ⟨[], rfl, by simp⟩
  · exact ⟨[], rfl, by simp⟩
section
variable {st0 : Store} {a b c x : Option D} {X : Store} {j : Nat}
theorem q0 : (st0 ++ a :: X)[st0.length]? = some a := by simp
theorem q1 : (st0 ++ a :: b :: X)[st0.length + 1]? = some b := by rw [List.getElem?_append_right (by omega)]; simp
theorem q2 : (st0 ++ a :: b :: c :: X)[st0.length + 2]? = some c := by rw [List.getElem?_append_right (by omega)]; simp
theorem qk : (st0 ++ a :: b :: c :: X)[st0.length + 3 + j]? = X[j]? := by
  rw [List.getElem?_append_right (by omega), show st0.length + 3 + j - st0.length = j + 3 by omega]
  simp
theorem p0 : (st0 ++ a :: X).set st0.length x = st0 ++ x :: X := by rw [List.set_append_right _ _ (Nat.le_refl _)]; simp
theorem p1 : (st0 ++ a :: b :: X).set (st0.length + 1) x = st0 ++ a :: x :: X := by rw [List.set_append_right _ _ (by omega)]; simp
theorem p2 : (st0 ++ a :: b :: c :: X).set (st0.length + 2) x = st0 ++ a :: b :: x :: X := by rw [List.set_append_right _ _ (by omega)]; simp
theorem pk : (st0 ++ a :: b :: c :: X).set (st0.length + 3 + j) x = st0 ++ a :: b :: c :: X.set j x := by
  rw [List.set_append_right _ _ (by omega), show st0.length + 3 + j - st0.length = j + 3 by omega]
  simp
end
/-- the cells behind a turn at a part that was there -/
theorem cells_old {rs : RS} {i : Nat} {p : Str} (hi : (heads rs)[i]? = some p) (h : p ∈ (heads rs).take i) : (cellsTo rs i ++ [some (D.lst [])]).set (fst1 (heads rs) p) (some (intsOf (numsTo rs i p ++ [i]))) = cellsTo rs (i + 1) := by
  have hlt := fst1_lt h
  have len : (cellsTo rs i).length = i := by simp [cellsTo]
  have pm : p ∈ heads rs := List.mem_of_getElem? hi
  refine List.ext_getElem? fun j => ?_
  rw [cells_get, List.getElem?_set]
  by_cases e : fst1 (heads rs) p = j
  · subst e
    rw [if_pos rfl, if_pos (by simp [len]; omega), if_pos (by omega)]
    unfold cellAt
    rw [fst1_get pm]
    simp only [if_true, nums_succ, hi]
  · rw [if_neg e]
    by_cases hj : j < i
    · rw [List.getElem?_append_left (by omega), cells_get, if_pos hj, if_pos (by omega)]
      unfold cellAt
      cases q : (heads rs)[j]? with
      | none => rfl
      | some r =>
        simp only
        by_cases e2 : fst1 (heads rs) r = j
        · rw [if_pos e2, if_pos e2, nums_succ]
          have : ¬ (heads rs)[i]? = some r := fun z => by
            rw [hi] at z
            cases z
            exact e e2
          rw [if_neg this, List.append_nil]
        · rw [if_neg e2, if_neg e2]
    · by_cases hj2 : j = i
      · subst hj2
        rw [List.getElem?_append_right (by omega), len, Nat.sub_self, if_pos (by omega)]
        unfold cellAt
        rw [hi]
        simp only [List.getElem?_cons_zero]
        rw [if_neg (by omega)]
      · rw [List.getElem?_eq_none (by simp [len]; omega), if_neg (by omega)]
theorem cells_new {rs : RS} {i : Nat} {p : Str} (hi : (heads rs)[i]? = some p) (h : p ∉ (heads rs).take i) : (cellsTo rs i ++ [some (D.lst [])]).set i (some (intsOf [i])) = cellsTo rs (i + 1) := by
  have len : (cellsTo rs i).length = i := by simp [cellsTo]
  have pm : p ∈ heads rs := List.mem_of_getElem? hi
  have ge := fst1_ge h pm
  have le := fst1_le hi
  refine List.ext_getElem? fun j => ?_
  rw [cells_get, List.getElem?_set]
  by_cases e : i = j
  · subst e
    rw [if_pos rfl, if_pos (by simp [len]), if_pos (by omega)]
    unfold cellAt
    rw [hi]
    simp only
    rw [if_pos (by omega), nums_succ, if_pos hi, nums_none h]
    rfl
  · rw [if_neg e]
    by_cases hj : j < i
    · rw [List.getElem?_append_left (by omega), cells_get, if_pos hj, if_pos (by omega)]
      unfold cellAt
      cases q : (heads rs)[j]? with
      | none => rfl
      | some r =>
        simp only
        rw [nums_succ]
        have : ¬ (heads rs)[i]? = some r := fun z => by
          rw [hi] at z
          cases z
          exact h (List.mem_of_getElem? (i := j) (by rw [List.getElem?_take, if_pos hj]; exact q))
        rw [if_neg this, List.append_nil]
    · rw [List.getElem?_eq_none (by simp [len]; omega), if_neg (by omega)]
theorem kvs_getA (L : Nat) (rs : RS) (i : Nat) (p : Str) : getA (kvsTo L rs i) (.str p) = if p ∈ (heads rs).take i then some (.ref (L + 3 + fst1 (heads rs) p)) else none := by
  have gen : ∀ l : List Str, getA (l.map fun p => (D.str p, D.ref (L + 3 + fst1 (heads rs) p))) (.str p) = if p ∈ l then some (.ref (L + 3 + fst1 (heads rs) p)) else none := fun l => by
    induction l with
    | nil => rfl
    | cons x l ih =>
      rw [List.map_cons, getA_cons]
      by_cases e : x = p
      · subst e; simp
      · have e2 : ¬ D.str x = D.str p := fun z => e (by injection z)
        have e3 : ¬ p = x := fun z => e z.symm
        rw [if_neg e2, ih]
        simp [e3]
  unfold kvsTo
  rw [gen]
  have : p ∈ once [] ((heads rs).take i) ↔ p ∈ (heads rs).take i := by rw [once_mem]; simp
  by_cases h : p ∈ (heads rs).take i
  · rw [if_pos (this.mpr h), if_pos h]
  · rw [if_neg fun z => h (this.mp z), if_neg h]
theorem kvs_put {L : Nat} {rs : RS} {i : Nat} {p : Str} (hi : (heads rs)[i]? = some p) (h : p ∉ (heads rs).take i) : putA (kvsTo L rs i) (.str p) (.ref (L + 3 + i)) = kvsTo L rs (i + 1) := by
  have pm : p ∈ heads rs := List.mem_of_getElem? hi
  have e : fst1 (heads rs) p = i := Nat.le_antisymm (fst1_le hi) (fst1_ge h pm)
  unfold putA
  rw [kvs_getA, if_neg h]
  unfold kvsTo
  have : ¬ p ∈ once [] ((heads rs).take i) := by rw [once_mem]; simpa using h
  rw [take_snoc' hi, once_snoc, if_neg this, List.map_append]
  simp [e]
theorem kvs_same {L : Nat} {rs : RS} {i : Nat} {p : Str} (hi : (heads rs)[i]? = some p) (h : p ∈ (heads rs).take i) : kvsTo L rs (i + 1) = kvsTo L rs i := by
  unfold kvsTo
  have : p ∈ once [] ((heads rs).take i) := by rw [once_mem]; exact .inr h
  rw [take_snoc' hi, once_snoc, if_pos this]
end Lw
namespace Lw
open PySem PySem.Spec PyProof.Rows L2 VI
/-- rules that Grammar takes -/
def okRS (rs : RS) : Prop := (∀ r ∈ rs, ruleB (ruleD r) = true) ∧ rs.Nodup ∧ 1 ≤ rs.length ∧ rs.length ≤ 300
theorem ruleD_inj {a b : Str × List Str} (h : ruleD a = ruleD b) : a = b := by
  have inj : ∀ xs ys : List Str, xs.map D.str = ys.map D.str → xs = ys := fun xs => by
    induction xs with
    | nil => intro ys h; cases ys with
      | nil => rfl
      | cons y ys => simp at h
    | cons x xs ih => intro ys h; cases ys with
      | nil => simp at h
      | cons y ys =>
        simp only [List.map_cons, List.cons.injEq, D.str.injEq] at h
        rw [h.1, ih ys h.2]
  obtain ⟨a1, a2⟩ := a
  obtain ⟨b1, b2⟩ := b
  simp only [ruleD, D.tup.injEq, List.cons.injEq, D.str.injEq, and_true] at h
  rw [h.1, inj _ _ h.2]
theorem rule_rs : ∀ {ds : List D}, ds.all ruleB = true → ∃ rs : RS, ds = rs.map ruleD
  | [], _ => ⟨[], rfl⟩
  | d :: ds, h => by
    simp only [List.all_cons, Bool.and_eq_true] at h
    obtain ⟨rs, e⟩ := rule_rs h.2
    obtain ⟨a, ns, rfl, _⟩ := rule_form h.1
    exact ⟨(a, ns) :: rs, by rw [e]; rfl⟩
theorem rule_parts {r : Str × List Str} (h : ruleB (ruleD r) = true) : nameB (.str r.1) = true ∧ r.2.length ≤ 8 ∧ ∀ x ∈ r.2, nameB (.str x) = true := by
  obtain ⟨a, ns, e, h1, h2, h3⟩ := rule_form h
  have : r = (a, ns) := ruleD_inj (by rw [e]; rfl)
  subst this
  exact ⟨h1, h2, h3⟩
theorem names_len {rs : RS} (h : ∀ r ∈ rs, r.2.length ≤ 8) : ∀ i, (namesTo rs i).length ≤ 8 * i := fun i => by
  have gen : ∀ l : RS, (∀ r ∈ l, r.2.length ≤ 8) → (l.flatMap (·.2)).length ≤ 8 * l.length := fun l => by
    induction l with
    | nil => intro _; simp
    | cons r l ih =>
      intro h
      have h1 := h r (by simp)
      have h2 := ih fun x hx => h x (List.mem_cons_of_mem _ hx)
      rw [List.flatMap_cons, List.length_append, List.length_cons]; omega
  have := gen (rs.take i) fun r hr => h r (List.mem_of_mem_take hr)
  unfold namesTo
  simp only [List.length_take] at this
  omega
abbrev objG (rs : RS) (p : Str) (L : Nat) : D := .obj "Grammar" [("rules", .tup (rs.map ruleD)), ("parts", .tup ((partsOf rs).map D.str)), ("start", .str p), ("numbers", .ref (L + 1))]
/-- the store behind i turns -/
abbrev SG (st0 : Store) (rs : RS) (p : Str) (i : Nat) : Store := st0 ++ some (objG rs p st0.length) :: some (.dic (kvsTo st0.length rs i)) :: some (.lst ((namesTo rs i).map D.str)) :: cellsTo rs i
abbrev EG (L : Nat) (d : D) (a3 a4 : Option D) : DEnv := [some (.ref L), some d, some (.ref (L + 2)), a3, a4, none, none, none]
theorem kvs_keys (L : Nat) (rs : RS) (i : Nat) : okKey (kvsTo L rs i) (.str x) = true := by
  unfold okKey
  rw [Bool.or_eq_true, Bool.and_eq_true, List.all_eq_true]
  refine .inl ⟨rfl, fun p hp => ?_⟩
  unfold kvsTo at hp
  obtain ⟨y, _, rfl⟩ := List.mem_map.mp hp
  rfl
theorem kvs_len (L : Nat) (rs : RS) (i : Nat) : (kvsTo L rs i).length ≤ i := by
  unfold kvsTo
  rw [List.length_map]
  refine Nat.le_trans (once_len _ _) ?_
  simp; omega
theorem init_turn {st0 : Store} {rs : RS} {p0 : Str} {d : D} {i : Nat} {r : Str × List Str} (hr : ∀ r ∈ rs, r.2.length ≤ 8) (hl : rs.length ≤ 300) (hi : rs[i]? = some r) :
    lp_Grammar_init_1 (EG st0.length d (some (.int i)) (some (ruleD r))) (SG st0 rs p0 i) = .nx (EG st0.length d (some (.int i)) (some (ruleD r))) (SG st0 rs p0 (i + 1)) := by
  have hil : i < rs.length := (List.getElem?_eq_some_iff.mp hi).1
  have hh : (heads rs)[i]? = some r.1 := by unfold heads; rw [List.getElem?_map, hi]; rfl
  have len : (cellsTo rs i).length = i := by simp [cellsTo]
  have nl := names_len hr i
  have hr8 := hr r (List.mem_of_getElem? hi)
  have nx : namesTo rs (i + 1) = namesTo rs i ++ r.2 := by
    unfold namesTo; rw [take_snoc' hi, List.flatMap_append]; simp
  have slen : (SG st0 rs p0 i).length = st0.length + 3 + i := by simp [len]; omega
  have sapp : SG st0 rs p0 i ++ [some (D.lst [])] = st0 ++ some (objG rs p0 st0.length) :: some (.dic (kvsTo st0.length rs i)) :: some (.lst ((namesTo rs i).map D.str)) :: (cellsTo rs i ++ [some (D.lst [])]) := by simp
  have kl := kvs_len st0.length rs i
  have kk := kvs_keys (x := r.1) st0.length rs i
  have ga := kvs_getA st0.length rs i r.1
  have fld : evFld ["Grammar"] "numbers" (evVar 0) (EG st0.length d (some (.int i)) (some (ruleD r))) (SG st0 rs p0 i) = .ok (.val (.ref (st0.length + 1))) (SG st0 rs p0 i) := by
    simp [evFld, objOf, q0, List.lookup]
  have dc : dicOf (.ref (st0.length + 1)) (SG st0 rs p0 i) = some (kvsTo st0.length rs i) := by simp [q1]
  have arg : acons (ev2 fIxD (evVar 4) (evC (.int 0))) (acons (evReg (evLst anil)) anil) (EG st0.length d (some (.int i)) (some (ruleD r))) (SG st0 rs p0 i) = .ok [.str r.1, .ref (st0.length + 3 + i)] (SG st0 rs p0 i ++ [some (D.lst [])]) := by
    simp [ruleD, atI, ixN, len]
    omega
  have S8 : x8_Grammar_init (EG st0.length d (some (.int i)) (some (ruleD r))) (SG st0 rs p0 i) = .nx (EG st0.length d (some (.int i)) (some (ruleD r))) (st0 ++ some (objG rs p0 st0.length) :: some (.dic (kvsTo st0.length rs (i + 1))) :: some (.lst ((namesTo rs i).map D.str)) :: cellsTo rs (i + 1)) := by
    unfold x8_Grammar_init
    rw [sDrop_s, evMt_s, evDm_s, fld]
    simp only [bind_ok, val_d, dc]
    rw [arg]
    simp only [bind_ok]
    rw [sapp]
    have dc2 : (st0 ++ some (objG rs p0 st0.length) :: some (D.dic (kvsTo st0.length rs i)) :: some (D.lst ((namesTo rs i).map D.str)) :: (cellsTo rs i ++ [some (D.lst [])]))[st0.length + 1]? = some (some (.dic (kvsTo st0.length rs i))) := q1
    have w1 : ∀ v, (st0 ++ some (objG rs p0 st0.length) :: some (D.dic (kvsTo st0.length rs i)) :: some (D.lst ((namesTo rs i).map D.str)) :: (cellsTo rs i ++ [some (D.lst [])])).set (st0.length + 1) v = st0 ++ some (objG rs p0 st0.length) :: v :: some (D.lst ((namesTo rs i).map D.str)) :: (cellsTo rs i ++ [some (D.lst [])]) := fun v => p1
    by_cases h : r.1 ∈ (heads rs).take i
    · rw [if_pos h] at ga
      have fs : fSetd (.ref (st0.length + 1)) [.str r.1, .ref (st0.length + 3 + i)] (st0 ++ some (objG rs p0 st0.length) :: some (D.dic (kvsTo st0.length rs i)) :: some (D.lst ((namesTo rs i).map D.str)) :: (cellsTo rs i ++ [some (D.lst [])])) =
          .ok (.val (.ref (st0.length + 3 + fst1 (heads rs) r.1))) (st0 ++ some (objG rs p0 st0.length) :: some (D.dic (kvsTo st0.length rs i)) :: some (D.lst ((namesTo rs i).map D.str)) :: (cellsTo rs i ++ [some (D.lst [])])) := by
        simp [fSetd, dc2, kk, ga, show List.length (kvsTo st0.length rs i) < 100000 by omega]
      have lt := fst1_lt h
      have cg : (cellsTo rs i ++ [some (D.lst [])])[fst1 (heads rs) r.1]? = some (some (intsOf (numsTo rs i r.1))) := by
        rw [List.getElem?_append_left (by omega), cells_get, if_pos lt]
        unfold cellAt
        rw [fst1_get (List.mem_of_getElem? hh)]
        simp
      have g : (st0 ++ some (objG rs p0 st0.length) :: some (D.dic (kvsTo st0.length rs i)) :: some (D.lst ((namesTo rs i).map D.str)) :: (cellsTo rs i ++ [some (D.lst [])]))[st0.length + 3 + fst1 (heads rs) r.1]? = some (some (intsOf (numsTo rs i r.1))) := by rw [qk]; exact cg
      have w2 : ∀ v, (st0 ++ some (objG rs p0 st0.length) :: some (D.dic (kvsTo st0.length rs i)) :: some (D.lst ((namesTo rs i).map D.str)) :: (cellsTo rs i ++ [some (D.lst [])])).set (st0.length + 3 + fst1 (heads rs) r.1) v = st0 ++ some (objG rs p0 st0.length) :: some (D.dic (kvsTo st0.length rs i)) :: some (D.lst ((namesTo rs i).map D.str)) :: (cellsTo rs i ++ [some (D.lst [])]).set (fst1 (heads rs) r.1) v := fun v => pk
      have nn : (numsTo rs i r.1).length < 100000 := by
        unfold numsTo
        have := List.length_filter_le (fun k => decide ((heads rs)[k]? = some r.1)) (List.range i)
        simp at this ⊢; omega
      rw [fs]
      generalize hbig : (st0 ++ some (objG rs p0 st0.length) :: some (D.dic (kvsTo st0.length rs i)) :: some (D.lst ((namesTo rs i).map D.str)) :: (cellsTo rs i ++ [some (D.lst [])])) = big at *
      simp only [bind_ok, val_d, tyD_ref, g, intsOf]
      simp only [true_and, or_true, if_true, acons_s, evVar_s, anil_s, bind_ok, List.getElem?_cons_succ, List.getElem?_cons_zero, val_d, fAppend_ref, g, intsOf, List.length_map, nn, sof_ok]
      rw [w2, kvs_same hh h, ← cells_old hh h]
      simp [intsOf]
    · rw [if_neg h] at ga
      have fs : fSetd (.ref (st0.length + 1)) [.str r.1, .ref (st0.length + 3 + i)] (st0 ++ some (objG rs p0 st0.length) :: some (D.dic (kvsTo st0.length rs i)) :: some (D.lst ((namesTo rs i).map D.str)) :: (cellsTo rs i ++ [some (D.lst [])])) =
          .ok (.val (.ref (st0.length + 3 + i))) (st0 ++ some (objG rs p0 st0.length) :: some (D.dic (kvsTo st0.length rs (i + 1))) :: some (D.lst ((namesTo rs i).map D.str)) :: (cellsTo rs i ++ [some (D.lst [])])) := by
        simp only [fSetd, dc2, kk, ga]
        rw [if_pos ⟨trivial, by omega⟩, w1, kvs_put hh h]
      have g : (st0 ++ some (objG rs p0 st0.length) :: some (D.dic (kvsTo st0.length rs (i + 1))) :: some (D.lst ((namesTo rs i).map D.str)) :: (cellsTo rs i ++ [some (D.lst [])]))[st0.length + 3 + i]? = some (some (.lst [])) := by
        rw [qk, List.getElem?_append_right (by omega), len]; simp
      have w2 : ∀ v, (st0 ++ some (objG rs p0 st0.length) :: some (D.dic (kvsTo st0.length rs (i + 1))) :: some (D.lst ((namesTo rs i).map D.str)) :: (cellsTo rs i ++ [some (D.lst [])])).set (st0.length + 3 + i) v = st0 ++ some (objG rs p0 st0.length) :: some (D.dic (kvsTo st0.length rs (i + 1))) :: some (D.lst ((namesTo rs i).map D.str)) :: (cellsTo rs i ++ [some (D.lst [])]).set i v := fun v => pk
      rw [fs]
      generalize hbig : (st0 ++ some (objG rs p0 st0.length) :: some (D.dic (kvsTo st0.length rs (i + 1))) :: some (D.lst ((namesTo rs i).map D.str)) :: (cellsTo rs i ++ [some (D.lst [])])) = big at *
      simp only [bind_ok, val_d, tyD_ref, g]
      simp only [true_and, or_true, if_true, acons_s, evVar_s, anil_s, bind_ok, List.getElem?_cons_succ, List.getElem?_cons_zero, val_d, fAppend_ref, g, sof_ok]
      rw [w2, ← cells_new hh h]
      simp [intsOf]
  have S9 : x9_Grammar_init (EG st0.length d (some (.int i)) (some (ruleD r))) (st0 ++ some (objG rs p0 st0.length) :: some (.dic (kvsTo st0.length rs (i + 1))) :: some (.lst ((namesTo rs i).map D.str)) :: cellsTo rs (i + 1)) = .nx (EG st0.length d (some (.int i)) (some (ruleD r))) (SG st0 rs p0 (i + 1)) := by
    have g : (st0 ++ some (objG rs p0 st0.length) :: some (D.dic (kvsTo st0.length rs (i + 1))) :: some (D.lst ((namesTo rs i).map D.str)) :: cellsTo rs (i + 1))[st0.length + 2]? = some (some (.lst ((namesTo rs i).map D.str))) := q2
    have w : ∀ v, (st0 ++ some (objG rs p0 st0.length) :: some (D.dic (kvsTo st0.length rs (i + 1))) :: some (D.lst ((namesTo rs i).map D.str)) :: cellsTo rs (i + 1)).set (st0.length + 2) v = st0 ++ some (objG rs p0 st0.length) :: some (D.dic (kvsTo st0.length rs (i + 1))) :: v :: cellsTo rs (i + 1) := fun v => p2
    unfold x9_Grammar_init
    have lim : (namesTo rs i).length + r.2.length ≤ 100000 := by omega
    simp only [SG, nx, List.map_append]
    generalize hbig : (st0 ++ some (objG rs p0 st0.length) :: some (D.dic (kvsTo st0.length rs (i + 1))) :: some (D.lst ((namesTo rs i).map D.str)) :: cellsTo rs (i + 1)) = big at *
    simp [g, ruleD, atI, ixN, fExtend, colOf, lim, w]
  unfold lp_Grammar_init_1
  rw [run_step S8]
  exact S9
end Lw
namespace Lw
open PySem PySem.Spec PyProof.Rows L2 VI
theorem heads_take (rs : RS) : (heads rs).take rs.length = heads rs := by rw [List.take_of_length_le (by simp [heads])]
theorem init_loop {st0 : Store} {rs : RS} {p0 : Str} {d : D} (hr : ∀ r ∈ rs, r.2.length ≤ 8) (hl : rs.length ≤ 300) :
    ∃ a3 a4, forGo ⟨numD 0 (rs.map ruleD), none⟩ (gdUn [gdName 3, gdName 4]) lp_Grammar_init_1 (numD 0 (rs.map ruleD)) (EG st0.length d none none) (SG st0 rs p0 0) = .nx (EG st0.length d a3 a4) (SG st0 rs p0 rs.length) := by
  obtain ⟨env2, st2, el, a3, a4, rfl, rfl⟩ := forGo_inv (iv := ⟨numD 0 (rs.map ruleD), none⟩) (g := gdUn [gdName 3, gdName 4]) (body := lp_Grammar_init_1) rfl
    (fun i env s => ∃ a3 a4, env = EG st0.length d a3 a4 ∧ s = SG st0 rs p0 i)
    (numD 0 (rs.map ruleD)) 0 (EG st0.length d none none) (SG st0 rs p0 0) ⟨none, none, rfl, rfl⟩ (fun i x env s hi hI => by
      obtain ⟨a3, a4, rfl, rfl⟩ := hI
      obtain ⟨y, hy, rfl⟩ := numD_get _ 0 i x hi
      rw [List.getElem?_map] at hy
      obtain ⟨r, hr2, rfl⟩ := Option.map_eq_some_iff.mp hy
      simp only [Nat.zero_add]
      refine ⟨EG st0.length d (some (.int i)) (some (ruleD r)), _, _, by simp, .inl (init_turn hr hl hr2), some (.int i), some (ruleD r), rfl, rfl⟩)
  refine ⟨a3, a4, ?_⟩
  rw [el]
  have : 0 + (numD 0 (rs.map ruleD)).length = rs.length := by rw [numD_len]; simp
  rw [this]
theorem strs_isPys (ss : List Str) : isPys (ss.map D.str) = true := by rw [isPys_all]; intro d hd; obtain ⟨x, _, rfl⟩ := List.mem_map.mp hd; rfl
theorem inDs_strs (x : Str) (ss : List Str) : inDs (.str x) (ss.map D.str) = decide (x ∈ ss) := by
  unfold inDs
  induction ss with
  | nil => rfl
  | cons y ss ih =>
    rw [List.map_cons, List.any_cons, ih]
    have : eqD (.str y) (.str x) = decide (y = x) := by by_cases h : y = x <;> simp [eqD, toPy, PyData.eqv, h]
    rw [this]
    by_cases h : y = x
    · subst h; simp
    · have h' : ¬ x = y := fun e => h e.symm
      simp [h, h']
theorem fIn_tstrs {neg : Bool} (x : Str) (ss : List Str) (st : Store) : fIn neg (.str x) (.tup (ss.map D.str)) st = .ok (.val (.bl (if neg then !decide (x ∈ ss) else decide (x ∈ ss)))) st := by
  have h1 : shallowIn (.str x) (ss.map D.str) = true := by simp [shallowIn, strs_pydepth]
  have u : unref (.tup (ss.map D.str)) st = .tup (ss.map D.str) := rfl
  simp [fIn, u, isPy, strs_isPys, h1, inDs_strs, lstOf]
theorem fIn_lstrs {neg : Bool} (x : Str) (ss : List Str) (st : Store) : fIn neg (.str x) (.lst (ss.map D.str)) st = .ok (.val (.bl (if neg then !decide (x ∈ ss) else decide (x ∈ ss)))) st := by
  have h1 : shallowIn (.str x) (ss.map D.str) = true := by simp [shallowIn, strs_pydepth]
  have u : unref (.lst (ss.map D.str)) st = .lst (ss.map D.str) := rfl
  simp [fIn, u, isPy, strs_isPys, h1, inDs_strs, lstOf]
theorem strs_keyAll (ss : List Str) : keyAll (ss.map D.str) = true := by
  unfold keyAll
  rw [Bool.or_eq_true, List.all_eq_true]
  exact .inl fun x hx => by obtain ⟨y, _, rfl⟩ := List.mem_map.mp hx; rfl
theorem once_strs (ss : List Str) : once [] (ss.map D.str) = (once [] ss).map D.str := once_map D.str (fun a b h => by injection h) ss []
theorem insO_str (x : Str) : ∀ l : List Str, insO leD (.str x) (l.map D.str) = (insO leT x l).map D.str
  | [] => rfl
  | y :: l => by
    have e : leD (.str x) (.str y) = leT x y := rfl
    simp only [List.map_cons, insO, e]
    split
    · rfl
    · simp only [List.map_cons]; rw [insO_str x l]
theorem isort_str : ∀ l : List Str, isort leD (l.map D.str) = (isort leT l).map D.str
  | [] => rfl
  | x :: l => by simp only [List.map_cons, isort]; rw [isort_str l, insO_str]
theorem sorted_strs (ss : List Str) (st : Store) : fSorted [.lst (ss.map D.str)] st = .ok (.new (.lst ((isort leT ss).map D.str))) st := by
  have ok : okSort (ss.map D.str) = true := by
    simp only [okSort, Bool.and_eq_true, Bool.or_eq_true, List.all_eq_true, alikes, antis]
    refine ⟨⟨.inl fun d hd => ?_, fun d hd e he => ?_⟩, fun d hd e he => ?_⟩
    · obtain ⟨x, _, rfl⟩ := List.mem_map.mp hd; rfl
    · obtain ⟨x, _, rfl⟩ := List.mem_map.mp hd
      obtain ⟨y, _, rfl⟩ := List.mem_map.mp he
      simp [toPy, W.alike]
    · obtain ⟨x, _, rfl⟩ := List.mem_map.mp hd
      obtain ⟨y, _, rfl⟩ := List.mem_map.mp he
      have e1 : leD (.str x) (.str y) = leT x y := rfl
      have e2 : leD (.str y) (.str x) = leT y x := rfl
      rw [e1, e2]
      cases q1 : leT x y with
      | false => simp
      | true =>
        cases q2 : leT y x with
        | false => simp
        | true => simp [leT_anti q1 q2]
  simp only [fSorted, lstOf_lst, ok, if_true, isort_str]
/-- the parts of __init__ behind the loop -/
theorem init_words {st0 : Store} {rs : RS} {p0 : Str} {d : D} {a3 a4 : Option D} (hr : ∀ r ∈ rs, r.2.length ≤ 8) (hl : rs.length ≤ 300) :
    x10_Grammar_init (EG st0.length d a3 a4) (SG st0 rs p0 rs.length) = .nx (EG st0.length d a3 a4) (st0 ++ some (.obj "Grammar" [("rules", .tup (rs.map ruleD)), ("parts", .tup ((partsOf rs).map D.str)), ("start", .str p0), ("numbers", .ref (st0.length + 1)), ("words", .tup ((wordsOf rs).map D.str))]) :: some (.dic (kvsTo st0.length rs rs.length)) :: some (.lst ((namesTo rs rs.length).map D.str)) :: cellsTo rs rs.length) := by
  have nl := names_len hr rs.length
  have g0 : (SG st0 rs p0 rs.length)[st0.length]? = some (some (objG rs p0 st0.length)) := q0
  have g2 : (SG st0 rs p0 rs.length)[st0.length + 2]? = some (some (.lst ((namesTo rs rs.length).map D.str))) := q2
  have w0 : ∀ v, (SG st0 rs p0 rs.length).set st0.length v = st0 ++ v :: some (.dic (kvsTo st0.length rs rs.length)) :: some (.lst ((namesTo rs rs.length).map D.str)) :: cellsTo rs rs.length := fun v => Lw.p0
  have eo := each_eq (d := .ref (st0.length + 2)) (st := SG st0 rs p0 rs.length) (xs := (namesTo rs rs.length).map D.str) (.inr (.inr ⟨_, rfl, g2⟩)) (strs_keyAll _) (by simp; omega)
  rw [once_strs] at eo
  have ol := once_len (namesTo rs rs.length) []
  obtain ⟨S, hS⟩ : ∃ S, S = SG st0 rs p0 rs.length := ⟨_, rfl⟩
  rw [← hS] at g0 g2 w0 eo ⊢
  have hlc : lc_Grammar_init_2 (EG st0.length d a3 a4) S = _ := evLc_map (own := [7]) (m := itSeq (evCall 1 F_each_once (acons (evVar 2) (anil)))) (g := gdName 7) (t := tvB (ev2 (fInD true) (evVar 7) (evFld ["Grammar"] "parts" (evVar 0)))) (e := evVar 7) (env := EG st0.length d a3 a4) (st := S) (items := once [] (namesTo rs rs.length)) D.str
    (fun w => !decide (w ∈ partsOf rs)) D.str (fun w => [some (.ref st0.length), some d, some (.ref (st0.length + 2)), a3, a4, none, none, some (.str w)]) (by simp [eo]) (by simp at ol; omega) (fun w hw => ⟨by simp [wipeD], fun more => by
      have g : (S ++ more)[st0.length]? = some (some (objG rs p0 st0.length)) := by rw [List.getElem?_append_left (List.getElem?_eq_some_iff.mp g0).1]; exact g0
      refine ⟨?_, fun _ => ⟨_, by simp; rfl, rfl⟩⟩
      simp [evFld, objOf, g, List.lookup, fIn_tstrs]⟩) (fun w _ _ => by simp [refsLt])
  have so := sorted_strs ((once [] (namesTo rs rs.length)).filter fun w => !decide (w ∈ partsOf rs)) S
  unfold x10_Grammar_init
  simp [sFldSet, hlc, so, g0, w0, putD]
  rfl
end Lw
namespace Lw
open PySem PySem.Spec PyProof.Rows L2 VI
theorem rules_nodup {rs : RS} (h : rs.Nodup) : (rs.map ruleD).Nodup := by
  induction rs with
  | nil => simp
  | cons r rs ih =>
    rw [List.nodup_cons] at h
    rw [List.map_cons, List.nodup_cons]
    refine ⟨fun z => ?_, ih h.2⟩
    obtain ⟨q, hq, e⟩ := List.mem_map.mp z
    rw [ruleD_inj e] at hq
    exact h.1 hq
theorem rulesB_of {rs : RS} (h : okRS rs) : rulesB (rs.map ruleD) = true := by
  unfold rulesB
  rw [Bool.and_eq_true, List.all_eq_true]
  refine ⟨by have := h.2.2.1; simp; intro e; simp [e] at this, fun x hx => ?_⟩
  obtain ⟨r, hr, rfl⟩ := List.mem_map.mp hx
  exact h.1 r hr
theorem name_thing {x : Str} (h : nameB (.str x) = true) : thing (.str x) = true := by
  simp only [nameB, Bool.and_eq_true, decide_eq_true_eq] at h
  simp only [thing, decide_eq_true_eq]; omega
theorem rule_thing {r : Str × List Str} (h : ruleB (ruleD r) = true) : thing (ruleD r) = true := by
  obtain ⟨h1, h2, h3⟩ := rule_parts h
  have a := name_thing h1
  have b : things (r.2.map D.str) = true := things_mem.mpr fun x hx => by
    obtain ⟨y, hy, rfl⟩ := List.mem_map.mp hx
    exact name_thing (h3 y hy)
  have c : thing (.tup (r.2.map D.str)) = true := by
    simp only [thing, b, Bool.and_eq_true, decide_eq_true_eq, List.length_map, and_true]; omega
  have e : thing (ruleD r) = (decide ((2 : Nat) ≤ 1000) && (thing (.str r.1) && (thing (.tup (r.2.map D.str)) && true))) := rfl
  rw [e, a, c]; rfl
theorem parts_head {rs : RS} (h : 1 ≤ rs.length) : ∃ p0 t, partsOf rs = p0 :: t := by
  cases e : partsOf rs with
  | nil =>
    exfalso
    cases rs with
    | nil => simp at h
    | cons r rs =>
      have : r.1 ∈ partsOf (r :: rs) := by
        unfold partsOf
        rw [once_mem]
        exact .inr (by simp [heads])
      rw [e] at this
      cases this
  | cons p0 t => exact ⟨p0, t, rfl⟩
theorem parts_len (rs : RS) : (partsOf rs).length ≤ rs.length := by
  have := once_len (heads rs) []
  simpa [partsOf, heads] using this
theorem init_heads {st : Store} {rs : RS} {L : Nat} {d : D} {fs : List (Str × D)} (hl : rs.length ≤ 300) (g : st[L]? = some (some (.obj "Grammar" fs))) (hf : fs.lookup ("rules" : Str) = some (D.tup (rs.map ruleD))) :
    lc_Grammar_init_1 [some (.ref L), some d, none, none, none, none, none, none] st = .ok (.new (.lst ((heads rs).map D.str))) st := by
  have q := evLc_map (own := [5, 6]) (m := itSeq (evFld ["Grammar"] "rules" (evVar 0))) (g := gdUn [gdName 5, gdName 6]) (t := tvYes) (e := evVar 5) (env := [some (.ref L), some d, none, none, none, none, none, none]) (st := st) (items := rs) ruleD (fun _ => true) (fun r => D.str r.1)
    (fun r => [some (.ref L), some d, none, none, none, some (.str r.1), some (.tup (r.2.map D.str)), none]) (by simp [evFld, objOf, g, hf]) (by omega) (fun r _ => ⟨by simp [wipeD, ruleD], fun more => ⟨rfl, fun _ => ⟨_, by simp; rfl, rfl⟩⟩⟩) (fun r _ _ => by simp [refsLt])
  rw [List.filter_eq_self.mpr (fun _ _ => rfl)] at q
  have e : rs.map (fun r => D.str r.1) = (heads rs).map D.str := by simp [heads]
  rw [e] at q
  exact q
def madeSt (st0 : Store) (rs : RS) (p0 : Str) : Store := st0 ++ some (.obj "Grammar" [("rules", .tup (rs.map ruleD)), ("parts", .tup ((partsOf rs).map D.str)), ("start", .str p0), ("numbers", .ref (st0.length + 1)), ("words", .tup ((wordsOf rs).map D.str))]) :: some (.dic (kvsTo st0.length rs rs.length)) :: some (.lst ((namesTo rs rs.length).map D.str)) :: cellsTo rs rs.length
theorem init_eq {st0 : Store} {rs : RS} {d : D} {p0 : Str} {t : List Str} (ok : okRS rs) (hp : partsOf rs = p0 :: t) (ha : SeqArg d st0 (rs.map ruleD)) : F_Grammar_init [.ref st0.length, d] (st0 ++ [some (.obj "Grammar" [])]) = .ok (.val .non) (madeSt st0 rs p0) := by
  have hr : ∀ r ∈ rs, r.2.length ≤ 8 := fun r h => (rule_parts (ok.1 r h)).2.1
  have hl := ok.2.2.2
  have n1 : F_need_rules [d] (st0 ++ [some (.obj "Grammar" [])]) = .ok (.val .non) (st0 ++ [some (.obj "Grammar" [])]) := by
    rw [need_eq (ds := rs.map ruleD) ha.more (fun x hx => by obtain ⟨r, hr, rfl⟩ := List.mem_map.mp hx; exact rule_thing (ok.1 r hr)) (by simpa using Nat.le_trans hl (by decide)), if_pos ⟨rulesB_of ok, rules_nodup ok.2.1⟩, if_pos (by simpa using hl)]
  have T1 := (ha.more (more := [some (D.obj "Grammar" [])])).tuple
  obtain ⟨E0, hE0⟩ : ∃ E0 : DEnv, E0 = [some (.ref st0.length), some d, none, none, none, none, none, none] := ⟨_, rfl⟩
  have S1 : x1_Grammar_init E0 (st0 ++ [some (.obj "Grammar" [])]) = .nx E0 (st0 ++ [some (.obj "Grammar" [])]) := by
    unfold x1_Grammar_init; simp [hE0, n1, evCallX]
  have S2 : x2_Grammar_init E0 (st0 ++ [some (.obj "Grammar" [])]) = .nx E0 (st0 ++ [some (.obj "Grammar" [("rules", .tup (rs.map ruleD))])]) := by
    unfold x2_Grammar_init; simp [hE0, sFldSet, T1, q0, Lw.p0, putD]
  have H := init_heads (d := d) (L := st0.length) (st := st0 ++ [some (.obj "Grammar" [("rules", .tup (rs.map ruleD))])]) (fs := [("rules", .tup (rs.map ruleD))]) hl q0 (by simp [List.lookup])
  have O := each_eq (d := .lst ((heads rs).map D.str)) (st := st0 ++ [some (.obj "Grammar" [("rules", .tup (rs.map ruleD))])]) (.inl rfl) (strs_keyAll (heads rs)) (by simp [heads]; omega)
  rw [once_strs] at O
  have S3 : x3_Grammar_init E0 (st0 ++ [some (.obj "Grammar" [("rules", .tup (rs.map ruleD))])]) = .nx E0 (st0 ++ [some (.obj "Grammar" [("rules", .tup (rs.map ruleD)), ("parts", .tup ((partsOf rs).map D.str))])]) := by
    unfold x3_Grammar_init; simp [hE0, sFldSet, H, O, q0, Lw.p0, putD, partsOf]
  have S4 : x4_Grammar_init E0 (st0 ++ [some (.obj "Grammar" [("rules", .tup (rs.map ruleD)), ("parts", .tup ((partsOf rs).map D.str))])]) = .nx E0 (st0 ++ [some (.obj "Grammar" [("rules", .tup (rs.map ruleD)), ("parts", .tup ((partsOf rs).map D.str)), ("start", .str p0)])]) := by
    unfold x4_Grammar_init; simp [hE0, sFldSet, evFld, objOf, q0, Lw.p0, putD, hp, List.lookup, atI, ixN]
  have S5 : x5_Grammar_init E0 (st0 ++ [some (.obj "Grammar" [("rules", .tup (rs.map ruleD)), ("parts", .tup ((partsOf rs).map D.str)), ("start", .str p0)])]) = .nx E0 (st0 ++ [some (objG rs p0 st0.length), some (.dic [])]) := by
    unfold x5_Grammar_init; simp [hE0, sFldSet, q0, Lw.p0, putD]
  have S6 : x6_Grammar_init E0 (st0 ++ [some (objG rs p0 st0.length), some (.dic [])]) = .nx (EG st0.length d none none) (SG st0 rs p0 0) := by
    unfold x6_Grammar_init; simp [hE0, kvsTo, namesTo, cellsTo, once]
  obtain ⟨a3, a4, lp⟩ := init_loop (st0 := st0) (p0 := p0) (d := d) hr hl
  have S7 : x7_Grammar_init (EG st0.length d none none) (SG st0 rs p0 0) = .nx (EG st0.length d a3 a4) (SG st0 rs p0 rs.length) := by
    unfold x7_Grammar_init
    rw [sFor_s]
    have it : itEnumA (acons (evFld ["Grammar"] "rules" (evVar 0)) (anil)) (EG st0.length d none none) (SG st0 rs p0 0) = .ok ⟨numD 0 (rs.map ruleD), none⟩ (SG st0 rs p0 0) := by
      have g : (SG st0 rs p0 0)[st0.length]? = some (some (objG rs p0 st0.length)) := q0
      generalize SG st0 rs p0 0 = S at *
      simp [itEnumA, evFld, objOf, g, List.lookup]
    rw [it]
    simp only [sof_ok]
    exact lp
  have S10 := init_words (st0 := st0) (p0 := p0) (d := d) (a3 := a3) (a4 := a4) hr hl
  unfold F_Grammar_init runK
  have run : b_Grammar_init ([.ref st0.length, d].map some ++ List.replicate (8 - [D.ref st0.length, d].length) none) (st0 ++ [some (.obj "Grammar" [])]) = .nx (EG st0.length d a3 a4) (madeSt st0 rs p0) := by
    unfold b_Grammar_init
    have : ([.ref st0.length, d].map some ++ List.replicate (8 - [D.ref st0.length, d].length) none : DEnv) = E0 := by rw [hE0]; rfl
    rw [this, run_step S1, run_step S2, run_step S3, run_step S4, run_step S5, run_step S6, run_step S7]
    exact S10
  rw [run]
end Lw
namespace Lw
open PySem PySem.Spec PyProof.Rows L2 VI
def numsD (rs : RS) : List (D × D) := (partsOf rs).map fun p => (.str p, intsOf (numsTo rs rs.length p))
def gramD (rs : RS) (p0 : Str) : D := .obj "Grammar" [("rules", .tup (rs.map ruleD)), ("parts", .tup ((partsOf rs).map D.str)), ("start", .str p0), ("numbers", .dic (numsD rs)), ("words", .tup ((wordsOf rs).map D.str))]
theorem refs_of {d : D} (h : thing d = true) (k : Nat) : refsLt k d = true := refsLt_mono (Nat.zero_le _) _ (thing_refs d h)
theorem strs_refs (ss : List Str) (k : Nat) : refsLt k (.tup (ss.map D.str)) = true := by
  simp only [refsLt]; rw [refsLts_all]
  intro x hx; obtain ⟨y, _, rfl⟩ := List.mem_map.mp hx; rfl
theorem rules_refs {rs : RS} (k : Nat) : refsLt k (.tup (rs.map ruleD)) = true := by
  simp only [refsLt]; rw [refsLts_all]
  intro x hx; obtain ⟨y, _, rfl⟩ := List.mem_map.mp hx
  have := strs_refs y.2 k
  simp only [refsLt] at this
  simp [ruleD, refsLt, refsLts, this]
theorem ints_refs (ks : List Nat) (k : Nat) : refsLt k (intsOf ks) = true := by
  unfold intsOf
  simp only [refsLt]; rw [refsLts_all]
  intro x hx; obtain ⟨y, _, rfl⟩ := List.mem_map.mp hx; rfl
theorem heads_all (rs : RS) : once [] ((heads rs).take rs.length) = partsOf rs := by rw [heads_take]; rfl
theorem res_keep {k x : Nat} {st : Store} {d : D} (h : refsLt k d = true) : ∀ f, resolve k x st f d = some d
  | 0 => by unfold resolve; rw [if_pos h]
  | f + 1 => by unfold resolve; rw [if_pos h]
theorem res_ref {k x n f : Nat} {st : Store} {d : D} (h : k ≤ n) (hn : n ≠ x) (g : st[n]? = some (some d)) : resolve k x st (f + 1) (.ref n) = resolve k x st f d := by
  have e : refsLt k (.ref n) = false := by simp [refsLt]; omega
  unfold resolve
  simp only [e, hn, g, if_false]
  cases f <;> simp [resolve]
theorem res_dic {k x f : Nat} {st : Store} {kvs : List (D × D)} (h : refsLt k (.dic kvs) = false) (h1 : noErr kvs = true) (h2 : (kvs.all fun p => refsLt k p.1) = true) : resolve k x st (f + 1) (.dic kvs) = (mapOK (resolve k x st f) kvs).map .dic := by
  conv => lhs; unfold resolve
  simp only [h, h1, h2, and_self, if_true]
  simp
theorem res_obj {k x f : Nat} {st : Store} {c : String} {fs : List (Str × D)} (h : refsLt k (.obj c fs) = false) : resolve k x st (f + 1) (.obj c fs) = (mapOF (resolve k x st f) fs).map (.obj c) := by
  conv => lhs; unfold resolve
  simp only [h]
  simp
theorem made_nums {st0 : Store} {rs : RS} {p0 : Str} {f x : Nat} (hx : x ≤ st0.length + 2) : ∀ ps : List Str, (∀ p ∈ ps, p ∈ heads rs) → mapOK (resolve st0.length x (madeSt st0 rs p0) (f + 2)) (ps.map fun p => (D.str p, D.ref (st0.length + 3 + fst1 (heads rs) p))) = some (ps.map fun p => (D.str p, intsOf (numsTo rs rs.length p)))
  | [], _ => rfl
  | p :: ps, h => by
    have hp := h p (by simp)
    have ih := made_nums hx ps (f := f) (p0 := p0) (st0 := st0) (rs := rs) fun q hq => h q (List.mem_cons_of_mem _ hq)
    have g0 := fst1_get hp
    have lt : fst1 (heads rs) p < rs.length := by
      have := (List.getElem?_eq_some_iff.mp g0).1
      simpa [heads] using this
    have g : (madeSt st0 rs p0)[st0.length + 3 + fst1 (heads rs) p]? = some (some (intsOf (numsTo rs rs.length p))) := by
      unfold madeSt
      rw [qk, cells_get, if_pos lt]
      unfold cellAt
      rw [g0]
      simp
    have r1 : resolve st0.length x (madeSt st0 rs p0) (f + 2) (.ref (st0.length + 3 + fst1 (heads rs) p)) = some (intsOf (numsTo rs rs.length p)) := by
      rw [show f + 2 = (f + 1) + 1 from rfl, res_ref (by omega) (by omega) g, res_keep (ints_refs _ _)]
    rw [List.map_cons, mapOK, r1, ih]
    rfl
theorem made_res {st0 : Store} {rs : RS} {p0 : Str} (hl : 1 ≤ rs.length) : finR st0 (.val (.ref st0.length)) (madeSt st0 rs p0) = .ok (.new (gramD rs p0)) st0 := by
  have c : cutOk st0 (madeSt st0 rs p0) = true := cutOk_self _ _
  have g : (madeSt st0 rs p0)[st0.length]? = some (some (.obj "Grammar" [("rules", .tup (rs.map ruleD)), ("parts", .tup ((partsOf rs).map D.str)), ("start", .str p0), ("numbers", .ref (st0.length + 1)), ("words", .tup ((wordsOf rs).map D.str))])) := q0
  have g1 : (madeSt st0 rs p0)[st0.length + 1]? = some (some (.dic (kvsTo st0.length rs rs.length))) := q1
  have tk : (madeSt st0 rs p0).take st0.length = st0 := by simp [madeSt]
  have nums := made_nums (st0 := st0) (rs := rs) (p0 := p0) (f := 3) (x := st0.length) (by omega) (partsOf rs) fun p hp => by
    unfold partsOf at hp
    rw [once_mem] at hp
    simpa using hp
  have kv : kvsTo st0.length rs rs.length = (partsOf rs).map fun p => (D.str p, D.ref (st0.length + 3 + fst1 (heads rs) p)) := by unfold kvsTo; rw [heads_all]
  obtain ⟨q0, t, hp⟩ := parts_head hl
  have ne : noErr (kvsTo st0.length rs rs.length) = true := by rw [kv, hp]; rfl
  have ks : ((kvsTo st0.length rs rs.length).all fun p => refsLt st0.length p.1) = true := by
    rw [List.all_eq_true]; intro x hx; rw [kv] at hx; obtain ⟨y, _, rfl⟩ := List.mem_map.mp hx; rfl
  have nr : refsLt st0.length (.dic (kvsTo st0.length rs rs.length)) = false := by
    rw [kv, hp]
    simp only [List.map_cons, refsLt, refsLtK]
    have : decide (st0.length + 3 + fst1 (heads rs) q0 < st0.length) = false := by simp; omega
    simp [this]
  have rd : resolve st0.length st0.length (madeSt st0 rs p0) 6 (.dic (kvsTo st0.length rs rs.length)) = some (.dic (numsD rs)) := by
    rw [res_dic nr ne ks, kv, nums]
    rfl
  have rr : resolve st0.length st0.length (madeSt st0 rs p0) 7 (.ref (st0.length + 1)) = some (.dic (numsD rs)) := by
    rw [res_ref (by omega) (by omega) g1, rd]
  have keep : ∀ d, refsLt st0.length d = true → resolve st0.length st0.length (madeSt st0 rs p0) 7 d = some d := fun d h => by
    exact res_keep h 7
  unfold finR
  rw [if_pos c]
  simp only [g, Nat.lt_irrefl, if_false]
  have e : refsLt st0.length (.obj "Grammar" [("rules", .tup (rs.map ruleD)), ("parts", .tup ((partsOf rs).map D.str)), ("start", .str p0), ("numbers", .ref (st0.length + 1)), ("words", .tup ((wordsOf rs).map D.str))]) = false := by
    have : decide (st0.length + 1 < st0.length) = false := by simp
    simp [refsLt, refsLtF, this]
  rw [show resF = 7 + 1 from rfl, res_obj e]
  simp only [mapOF, keep _ (rules_refs st0.length), keep _ (strs_refs (partsOf rs) st0.length), keep _ (strs_refs (wordsOf rs) st0.length), keep (.str p0) rfl, rr, tk]
  rfl
theorem make_eq {st0 : Store} {rs : RS} {d : D} {p0 : Str} {t : List Str} (ok : okRS rs) (hp : partsOf rs = p0 :: t) (ha : SeqArg d st0 (rs.map ruleD)) : makeR "Grammar" F_Grammar_init [d] st0 = .ok (.new (gramD rs p0)) st0 := by
  unfold makeR
  rw [init_eq ok hp ha]
  exact made_res ok.2.2.1
/-- a refused list of rules -/
theorem init_bad {st0 : Store} {d : D} {c : String} (h : F_need_rules [d] (st0 ++ [some (.obj "Grammar" [])]) = .exc ⟨c, none⟩ (st0 ++ [some (.obj "Grammar" [])])) : makeR "Grammar" F_Grammar_init [d] st0 = .exc ⟨c, none⟩ st0 := by
  have S1 : x1_Grammar_init [some (.ref st0.length), some d, none, none, none, none, none, none] (st0 ++ [some (.obj "Grammar" [])]) = .exc [some (.ref st0.length), some d, none, none, none, none, none, none] ⟨c, none⟩ (st0 ++ [some (.obj "Grammar" [])]) := by
    unfold x1_Grammar_init; simp [h, evCallX]
  unfold makeR F_Grammar_init runK
  have run : b_Grammar_init ([.ref st0.length, d].map some ++ List.replicate (8 - [D.ref st0.length, d].length) none) (st0 ++ [some (.obj "Grammar" [])]) = .exc [some (.ref st0.length), some d, none, none, none, none, none, none] ⟨c, none⟩ (st0 ++ [some (.obj "Grammar" [])]) := by
    unfold b_Grammar_init
    show (sSeq x1_Grammar_init _) [some (.ref st0.length), some d, none, none, none, none, none, none] _ = _
    unfold sSeq
    rw [S1]
    rfl
  rw [run]
  show finX st0 ⟨c, none⟩ (st0 ++ [some (.obj "Grammar" [])]) = _
  unfold finX
  rw [if_pos ⟨cutOk_self _ _, rfl⟩]
  simp
end Lw
namespace Lw
open PySem PySem.Spec PyProof.Rows L2 VI
/-- the digits of a number at these sizes -/
def digs : Int → List Int → List Int
  | _, [] => []
  | a, s :: ss => a % s :: digs (a / s) ss
def rest : Int → List Int → Int
  | a, [] => a
  | a, s :: ss => rest (a / s) ss
theorem digs_snoc (s : Int) : ∀ (ss : List Int) (a : Int), digs a (ss ++ [s]) = digs a ss ++ [rest a ss % s] ∧ rest a (ss ++ [s]) = rest a ss / s
  | [], a => ⟨rfl, rfl⟩
  | t :: ss, a => by
    obtain ⟨h1, h2⟩ := digs_snoc s ss (a / t)
    exact ⟨by simp [digs, rest, h1], by simp [rest, h2]⟩
theorem log_small {s : Int} (h : s ≤ 1000000) (h0 : 0 < s) : s.natAbs.log2 < 9000 := by
  have h1 : s.natAbs < 2 ^ 30 := by omega
  have := (Nat.log2_lt (n := s.natAbs) (k := 30) (by omega)).mpr h1
  omega
theorem draws_eq {a : Int} {sizes : List Int} {st : Store} (h : ∀ s ∈ sizes, 0 < s ∧ s ≤ 1000000) (hl : sizes.length ≤ 100) : F_f_law_draws [.int a, .lst (sizes.map D.int)] st = .ok (.new (.lst ((digs a sizes).map D.int))) st := by
  obtain ⟨env2, st2, el, a3, rfl, rfl⟩ := forGo_inv (iv := ⟨sizes.map D.int, none⟩) (g := gdName 3) (body := lp_f_law_draws_1) rfl
    (fun i env s => ∃ a3 : Option D, env = [some (.int (rest a (sizes.take i))), some (.lst (sizes.map D.int)), some (.ref st.length), a3] ∧ s = st ++ [some (.lst ((digs a (sizes.take i)).map D.int))])
    (sizes.map D.int) 0 [some (.int a), some (.lst (sizes.map D.int)), some (.ref st.length), none] (st ++ [some (.lst [])]) ⟨none, rfl, rfl⟩ (fun i x env s hi hI => by
      obtain ⟨a3, rfl, rfl⟩ := hI
      rw [List.getElem?_map] at hi
      obtain ⟨q, hq, rfl⟩ := Option.map_eq_some_iff.mp hi
      simp only [Nat.zero_add]
      obtain ⟨p1, p2⟩ := h q (List.mem_of_getElem? hq)
      obtain ⟨d1, d2⟩ := digs_snoc q (sizes.take i) a
      have tl : (digs a (sizes.take i)).length ≤ 100 := by
        have gen : ∀ (ss : List Int) (a : Int), (digs a ss).length = ss.length := fun ss => by
          induction ss with
          | nil => intro a; rfl
          | cons s ss ih => intro a; simp [digs, ih]
        rw [gen]; simp; omega
      have lg := log_small p2 p1
      rw [take_snoc' hq, d1, d2]
      generalize digs a (sizes.take i) = ds at *
      generalize rest a (sizes.take i) = r at *
      refine ⟨[some (.int r), some (.lst (sizes.map D.int)), some (.ref st.length), some (.int q)], _, _, by simp, .inl ?_, some (.int q), rfl, rfl⟩
      unfold lp_f_law_draws_1 x3_f_law_draws x4_f_law_draws
      simp [fMod, p1, lg, show ds.length < 100000 by omega])
  have S1 : x1_f_law_draws [some (.int a), some (.lst (sizes.map D.int)), none, none] st = .nx [some (.int a), some (.lst (sizes.map D.int)), some (.ref st.length), none] (st ++ [some (.lst [])]) := by
    unfold x1_f_law_draws; simp
  have S2 : x2_f_law_draws [some (.int a), some (.lst (sizes.map D.int)), some (.ref st.length), none] (st ++ [some (.lst [])]) = .nx [some (.int (rest a (sizes.take (0 + (sizes.map D.int).length)))), some (.lst (sizes.map D.int)), some (.ref st.length), a3] (st ++ [some (.lst ((digs a (sizes.take (0 + (sizes.map D.int).length))).map D.int))]) := by
    have it : itSeq (evVar 1) [some (.int a), some (.lst (sizes.map D.int)), some (.ref st.length), none] (st ++ [some (.lst [])]) = .ok ⟨sizes.map D.int, none⟩ (st ++ [some (.lst [])]) := by simp
    unfold x2_f_law_draws
    rw [sFor_s, it]
    simp only [sof_ok]
    exact el
  have tk : sizes.take (0 + (sizes.map D.int).length) = sizes := by simp
  rw [tk] at S2
  have run : b_f_law_draws ([D.int a, .lst (sizes.map D.int)].map some ++ List.replicate (4 - [D.int a, .lst (sizes.map D.int)].length) none) st = .ret (.val (.ref st.length)) (st ++ [some (.lst ((digs a sizes).map D.int))]) := by
    unfold b_f_law_draws
    show (sSeq x1_f_law_draws _) [some (.int a), some (.lst (sizes.map D.int)), none, none] st = _
    rw [run_step S1, run_step S2]
    unfold x5_f_law_draws
    simp
  unfold F_f_law_draws
  rw [run_ret run]
  exact fin_cell (by
    simp only [refsLt]; rw [refsLts_all]; intro d hd; obtain ⟨i, _, rfl⟩ := List.mem_map.mp hd; rfl)
theorem mix_eq (a k : Int) (st : Store) : ∃ m, 0 ≤ m ∧ m < 2147483629 ∧ F_f_law_mix [.int a, .int k] st = .ok (.val (.int m)) st := by
  obtain ⟨q, hq⟩ : ∃ q, q = (a * 48271 + k * 104729 + 11) % 2147483647 := ⟨_, rfl⟩
  have q0 : 0 ≤ q := by omega
  have q1 : q < 2147483647 := by omega
  refine ⟨(q * q + 48271 * q + k) % 2147483629, Int.emod_nonneg _ (by omega), Int.emod_lt_of_pos _ (by omega), ?_⟩
  have s1 : smallF 48271 = true := by decide
  have s2 : smallF 104729 = true := by decide
  have s3 : smallF q = true := by simp only [smallF, Bool.and_eq_true, decide_eq_true_eq]; omega
  unfold F_f_law_mix runP b_f_law_mix x1_f_law_mix x2_f_law_mix
  simp [fMul, s1, s2, s3, fMod, ← hq]
/-- only letters -/
def lets (z : Str) : Bool := z.cps.toList.all fun c => strIn ⟨#[c]⟩ letters
theorem lets_app (a b : Str) : lets (a ++ b) = (lets a && lets b) := by
  unfold lets
  rw [PySem.Str.cps_append]
  simp
theorem lets_name {z : Str} (h : lets z = true) (h1 : 1 ≤ z.length) (h2 : z.length ≤ 8) : nameB (.str z) = true := by
  have a : ((1 : Int) ≤ (z.length : Int)) := by omega
  have b : ((z.length : Int) ≤ 8) := by omega
  unfold lets at h
  simp only [nameB, a, b, h, decide_true, Bool.and_self]
theorem lets_cut {z : Str} {lo hi : Option Int} (h : lets z = true) : lets (cutS z lo hi) = true := by
  unfold lets at *
  rw [List.all_eq_true] at *
  intro c hc
  refine h c ?_
  unfold cutS at hc
  first
    | exact List.mem_of_mem_drop (List.mem_of_mem_take hc)
    | (simp at hc; exact List.mem_of_mem_drop (List.mem_of_mem_take hc))
theorem lets_join : ∀ ss : List Str, (∀ s ∈ ss, lets s = true) → lets (Txt.join (Str.ofString "") ss) = true := fun ss h => by
  show lets (Builtin.Str.glued (PySem.Str.ofString "") ss) = _
  rw [StrLaws.glued_eq_join]
  have e : lets (PySem.Str.ofString "") = true := by decide
  have gen : ∀ ss : List Str, (∀ s ∈ ss, lets s = true) → lets (Str.join (PySem.Str.ofString "") ss) = true := fun ss => by
    induction ss with
    | nil => intro _; rfl
    | cons x ss ih =>
      intro h
      cases ss with
      | nil => exact h x (by simp)
      | cons y r =>
        have u : Str.join (PySem.Str.ofString "") (x :: y :: r) = x ++ PySem.Str.ofString "" ++ Str.join (PySem.Str.ofString "") (y :: r) := rfl
        rw [u, lets_app, lets_app, h x (by simp), e, ih fun s hs => h s (List.mem_cons_of_mem _ hs)]
        rfl
  exact gen ss h
end Lw
namespace Lw
open PySem PySem.Spec PyProof.Rows L2 VI
theorem cut_sum (z : Str) (k : Nat) : (cutS z none (some (k : Int))).length + (cutS z (some (k : Int)) none).length = z.length := by
  unfold cutS Str.length
  simp only [HT.sIx_none, HT.sIx_nat]
  simp
  omega
def mixI (a k : Int) : Int :=
  let q := (a * 48271 + k * 104729 + 11) % 2147483647
  (q * q + 48271 * q + k) % 2147483629
theorem mixI_eq (a k : Int) (st : Store) : F_f_law_mix [.int a, .int k] st = .ok (.val (.int (mixI a k))) st := by
  obtain ⟨q, hq⟩ : ∃ q, q = (a * 48271 + k * 104729 + 11) % 2147483647 := ⟨_, rfl⟩
  have q0 : 0 ≤ q := by omega
  have q1 : q < 2147483647 := by omega
  have s1 : smallF 48271 = true := by decide
  have s2 : smallF 104729 = true := by decide
  have s3 : smallF q = true := by simp only [smallF, Bool.and_eq_true, decide_eq_true_eq]; omega
  have e : mixI a k = (q * q + 48271 * q + k) % 2147483629 := by rw [hq]; rfl
  rw [e]
  unfold F_f_law_mix runP b_f_law_mix x1_f_law_mix x2_f_law_mix
  simp [fMul, s1, s2, s3, fMod, ← hq]
theorem mixI_bd (a k : Int) : 0 ≤ mixI a k ∧ mixI a k < 2147483629 := ⟨Int.emod_nonneg _ (by omega), Int.emod_lt_of_pos _ (by omega)⟩
theorem l26 : letters.cps.toList.length = 26 := by decide +kernel
def lt (i : Int) : Nat := (atI letters.cps.toList i).getD 97
theorem lt_in (i : Int) : lt i ∈ letters.cps.toList := by
  unfold lt
  cases h : atI letters.cps.toList i with
  | none => decide +kernel
  | some c =>
    unfold atI at h
    cases q : ixN letters.cps.toList.length i with
    | none => rw [q] at h; simp at h
    | some j => rw [q] at h; simp at h; exact List.mem_of_getElem? (by simpa using h)
theorem in_lets {c : Nat} (h : c ∈ letters.cps.toList) : lets ⟨#[c]⟩ = true := by
  have : strIn ⟨#[c]⟩ letters = true := by
    unfold strIn
    rw [PySem.StrLaws.found_one]
    exact decide_eq_true h
  simp [lets, this]
theorem lt_ix {i : Int} (h0 : 0 ≤ i) (h1 : i < 26) (st : Store) : fIxD (.str letters) (.int i) st = .ok (.val (.str ⟨#[lt i]⟩)) st := by
  obtain ⟨c, hc, _⟩ := atI_in (xs := letters.cps.toList) (i := i) h0 (by rw [l26]; omega)
  have e : lt i = c := by unfold lt; rw [hc]; rfl
  have ll : letters.length = 26 := by decide +kernel
  rw [fIxD_str, e]
  simp [hc, ll]
abbrev twice : Str := Txt.mul letters 2
theorem t52 : twice.cps.toList.length = 52 := by decide +kernel
theorem twice_in : ∀ c ∈ twice.cps.toList, c ∈ letters.cps.toList := by decide +kernel
def lt2 (i : Int) : Nat := (atI twice.cps.toList i).getD 97
theorem lt2_in (i : Int) : lt2 i ∈ letters.cps.toList := by
  unfold lt2
  cases h : atI twice.cps.toList i with
  | none => decide +kernel
  | some c =>
    refine twice_in c ?_
    unfold atI at h
    cases q : ixN twice.cps.toList.length i with
    | none => rw [q] at h; simp at h
    | some j => rw [q] at h; simp at h; exact List.mem_of_getElem? (by simpa using h)
theorem lt2_ix {i : Int} (h0 : 0 ≤ i) (h1 : i < 52) (st : Store) : fIxD (.str twice) (.int i) st = .ok (.val (.str ⟨#[lt2 i]⟩)) st := by
  obtain ⟨c, hc, _⟩ := atI_in (xs := twice.cps.toList) (i := i) h0 (by rw [t52]; omega)
  have e : lt2 i = c := by unfold lt2; rw [hc]; rfl
  have ll : twice.length = 52 := by decide +kernel
  rw [fIxD_str, e]
  generalize twice = T at *
  simp [hc, ll]
end Lw
namespace Lw
open PySem PySem.Spec PyProof.Rows L2 VI
def nameG (x : Str) : Prop := lets x = true ∧ 1 ≤ x.length ∧ x.length ≤ 8
theorem call_mix {env : DEnv} {S : Store} {m : EM} {a k : Int} (h0 : env[0]? = some (some (.int a))) (hm : m env S = .ok (.val (.int k)) S) : evCall 2 F_f_law_mix (acons (evVar 0) (acons m (anil))) env S = .ok (.val (.int (mixI a k))) S := by
  simp only [evCall_s, acons_s, anil_s, evVar_s, h0, hm, bind_ok, val_d, List.length_cons, List.length_nil, if_true, mixI_eq, noX_ok]
theorem base_eq {a s t f : Int} {st : Store} (h0 : 0 ≤ s) (h1 : s < 8) : ∃ b, lets b = true ∧ (b.length : Int) = s ∧
    x2_f_law_names [some (.int a), some (.int s), some (.int t), some (.int f), none, none, none] st = .nx [some (.int a), some (.int s), some (.int t), some (.int f), some (.str b), none, none] st := by
  have it : itR1 (acons (evVar 1) (anil)) [some (.int a), some (.int s), some (.int t), some (.int f), none, none, none] st = .ok ⟨(List.range s.toNat).map fun k : Nat => D.int (k : Int), none⟩ st := by
    rw [itR1_of (j := s) (st1 := st) (by simp) (okR_small (by omega) (by omega)), rangeD_map]
  obtain ⟨ss, hss⟩ : ∃ ss : List Str, ss = (List.range s.toNat).map fun k : Nat => (⟨#[lt (mixI a (40 + (k : Int)) % 26)]⟩ : Str) := ⟨_, rfl⟩
  have hlc : lc_f_law_names_1 [some (.int a), some (.int s), some (.int t), some (.int f), none, none, none] st = _ := evLc_map1 (own := [6]) (m := itR1 (acons (evVar 1) (anil))) (g := gdName 6) (e := ev2 fIxD (evC (.str letters)) (ev2 fMod (evCall 2 F_f_law_mix (acons (evVar 0) (acons (ev2 fAdd (evC (.int 40)) (evVar 6)) (anil)))) (evC (.int 26)))) (env := [some (.int a), some (.int s), some (.int t), some (.int f), none, none, none]) (st := st) (items := List.range s.toNat)
    (fun k : Nat => D.int (k : Int)) (fun k : Nat => D.str ⟨#[lt (mixI a (40 + (k : Int)) % 26)]⟩) (fun k : Nat => [some (.int a), some (.int s), some (.int t), some (.int f), none, none, some (.int (k : Int))]) it (by simp; omega) (fun k _ => ⟨by simp [wipeD], fun more => ⟨.val (.str ⟨#[lt (mixI a (40 + (k : Int)) % 26)]⟩), by
      have cm := call_mix (env := [some (.int a), some (.int s), some (.int t), some (.int f), none, none, some (.int (k : Int))]) (S := st ++ more) (m := ev2 fAdd (evC (.int 40)) (evVar 6)) (a := a) (k := 40 + (k : Int)) rfl rfl
      have ix := lt_ix (i := mixI a (40 + (k : Int)) % 26) (Int.emod_nonneg _ (by omega)) (Int.emod_lt_of_pos _ (by omega)) (st ++ more)
      rw [ev2_s, evC_s]
      simp only [bind_ok, val_d]
      rw [ev2_s, cm]
      simp only [bind_ok, val_d, evC_s, fMod]
      exact ix, rfl⟩⟩) (fun k _ => by simp [refsLt])
  have e : (List.range s.toNat).map (fun k : Nat => D.str ⟨#[lt (mixI a (40 + (k : Int)) % 26)]⟩) = ss.map D.str := by rw [hss]; simp
  rw [e] at hlc
  have ones : ∀ x ∈ ss, x.length = 1 := fun x hx => by rw [hss] at hx; obtain ⟨k, _, rfl⟩ := List.mem_map.mp hx; rfl
  have le : ∀ x ∈ ss, lets x = true := fun x hx => by rw [hss] at hx; obtain ⟨k, _, rfl⟩ := List.mem_map.mp hx; exact in_lets (lt_in _)
  have sl : ss.length = s.toNat := by rw [hss]; simp
  have jl : (Txt.join (Str.ofString "") ss).length = ss.length := PySem.W.KT.join_ones ss ones
  have sm : (ss.map (·.length)).sum = ss.length := by
    clear hlc jl sl e hss
    induction ss with
    | nil => rfl
    | cons x ss ih =>
      rw [List.map_cons, List.sum_cons, ones x (by simp), ih (fun y hy => ones y (List.mem_cons_of_mem _ hy)) (fun y hy => le y (List.mem_cons_of_mem _ hy)), List.length_cons]; omega
  have l0 : (Str.ofString "").length = 0 := by decide
  have cnd : (ss.map (·.length)).sum + ss.length * (Str.ofString "").length ≤ 100000 := by rw [sm, l0]; omega
  refine ⟨Txt.join (Str.ofString "") ss, lets_join ss le, by rw [jl, sl]; omega, ?_⟩
  unfold x2_f_law_names
  simp [hlc, cnd]
theorem names_eq (a : Int) (st : Store) : ∃ ns : List Str, ns.length = 7 ∧ (∀ x ∈ ns, nameG x) ∧ F_f_law_names [.int a] st = .ok (.new (.lst (ns.map D.str))) st := by
  have dr := draws_eq (a := a) (sizes := [8, 8, 26]) (st := st) (by simp) (by simp)
  obtain ⟨s, hs⟩ : ∃ s, s = a % 8 := ⟨_, rfl⟩
  obtain ⟨t, ht⟩ : ∃ t, t = a / 8 % 8 := ⟨_, rfl⟩
  obtain ⟨f, hf⟩ : ∃ f, f = a / 8 / 8 % 26 := ⟨_, rfl⟩
  have dg : digs a [8, 8, 26] = [s, t, f] := by rw [hs, ht, hf]; rfl
  rw [dg] at dr
  simp only [List.map_cons, List.map_nil] at dr
  obtain ⟨b, bl, bs, S2⟩ := base_eq (a := a) (s := s) (t := t) (f := f) (st := st) (by omega) (by omega)
  obtain ⟨u, hu⟩ : ∃ u : Nat, (u : Int) = t % (s + 1) := ⟨(t % (s + 1)).toNat, by have := Int.emod_nonneg t (show s + 1 ≠ 0 by omega); omega⟩
  have S1 : x1_f_law_names [some (.int a), none, none, none, none, none, none] st = .nx [some (.int a), some (.int s), some (.int t), some (.int f), none, none, none] st := by
    unfold x1_f_law_names
    simp [sUn, colX, gdSeq, dr]
  have S3 : x3_f_law_names [some (.int a), some (.int s), some (.int t), some (.int f), some (.str b), none, none] st = .nx [some (.int a), some (.int s), some (.int (u : Int)), some (.int f), some (.str b), none, none] st := by
    unfold x3_f_law_names
    simp [fMod, show 0 < s + 1 by omega, hu]
  have S4 : x4_f_law_names [some (.int a), some (.int s), some (.int (u : Int)), some (.int f), some (.str b), none, none] st = .nx [some (.int a), some (.int s), some (.int (u : Int)), some (.int f), some (.str b), some (.str twice), none] st := by
    have ll : letters.length = 26 := by decide +kernel
    have m2 : fMulB (.str letters) (.int 2) st = .ok (.val (.str twice)) st := by
      have c : letters.length ≤ 1000 ∧ (0 : Int) ≤ 2 ∧ (2 : Int) ≤ 1000 := ⟨by rw [ll]; omega, by omega, by omega⟩
      simp only [fMulB, lstOf, fMulA]
      rw [if_pos c]
    unfold x4_f_law_names
    rw [sSet_s, ev2_s]
    simp only [bind_ok, val_d, evC_s]
    rw [m2]
    rfl
  have it : itR1 (acons (evC (.int 7)) (anil)) [some (.int a), some (.int s), some (.int (u : Int)), some (.int f), some (.str b), some (.str twice), none] st = .ok ⟨(List.range 7).map fun k : Nat => D.int (k : Int), none⟩ st := by
    rw [itR1_of (j := 7) (st1 := st) (by simp) (by decide), rangeD_map]; rfl
  have cs := cut_sum b u
  have b8 : b.length ≤ 7 := by omega
  have hlc : lc_f_law_names_2 [some (.int a), some (.int s), some (.int (u : Int)), some (.int f), some (.str b), some (.str twice), none] st = _ := evLc_map1 (own := [6]) (m := itR1 (acons (evC (.int 7)) (anil))) (g := gdName 6) (e := ev2 fAdd (ev2 fAdd (evSl (evVar 4) (bNone) (bSome (evVar 2))) (ev2 fIxD (evVar 5) (ev2 fAdd (evVar 3) (ev2 fMulB (evC (.int 3)) (evVar 6))))) (evSl (evVar 4) (bSome (evVar 2)) (bNone))) (env := [some (.int a), some (.int s), some (.int (u : Int)), some (.int f), some (.str b), some (.str twice), none]) (st := st) (items := List.range 7)
    (fun k : Nat => D.int (k : Int)) (fun k : Nat => D.str (cutS b none (some (u : Int)) ++ ⟨#[lt2 (f + 3 * (k : Int))]⟩ ++ cutS b (some (u : Int)) none)) (fun k : Nat => [some (.int a), some (.int s), some (.int (u : Int)), some (.int f), some (.str b), some (.str twice), some (.int (k : Int))]) it (by simp) (fun k hk => ⟨by simp [wipeD], fun more => ⟨.val (.str (cutS b none (some (u : Int)) ++ ⟨#[lt2 (f + 3 * (k : Int))]⟩ ++ cutS b (some (u : Int)) none)), by
      have hk := List.mem_range.mp hk
      have ix := lt2_ix (i := f + 3 * (k : Int)) (by omega) (by omega) (st ++ more)
      have l1 : (⟨#[lt2 (f + 3 * (k : Int))]⟩ : Str).length = 1 := rfl
      have s3 : smallF 3 = true := by decide
      generalize lt2 (f + 3 * (k : Int)) = c at *
      generalize st ++ more = S at *
      generalize twice = T at *
      have m1 : (cutS b none (some (u : Int)) ++ ⟨#[c]⟩).length = (cutS b none (some (u : Int))).length + 1 := by rw [PySem.strLen_append, l1]
      have ad1 : fAdd (.str (cutS b none (some (u : Int)))) (.str ⟨#[c]⟩) S = .ok (.val (.str (cutS b none (some (u : Int)) ++ ⟨#[c]⟩))) S := if_pos (by rw [l1]; omega)
      have ad2 : fAdd (.str (cutS b none (some (u : Int)) ++ ⟨#[c]⟩)) (.str (cutS b (some (u : Int)) none)) S = .ok (.val (.str (cutS b none (some (u : Int)) ++ ⟨#[c]⟩ ++ cutS b (some (u : Int)) none))) S := if_pos (by omega)
      have hA : evSl (evVar 4) (bNone) (bSome (evVar 2)) [some (.int a), some (.int s), some (.int (u : Int)), some (.int f), some (.str b), some (.str T), some (.int (k : Int))] S = .ok (.val (.str (cutS b none (some (u : Int))))) S := by simp [show b.length ≤ 100000 by omega]
      have hC : evSl (evVar 4) (bSome (evVar 2)) (bNone) [some (.int a), some (.int s), some (.int (u : Int)), some (.int f), some (.str b), some (.str T), some (.int (k : Int))] S = .ok (.val (.str (cutS b (some (u : Int)) none))) S := by simp [show b.length ≤ 100000 by omega]
      have hI : ev2 fAdd (evVar 3) (ev2 fMulB (evC (.int 3)) (evVar 6)) [some (.int a), some (.int s), some (.int (u : Int)), some (.int f), some (.str b), some (.str T), some (.int (k : Int))] S = .ok (.val (.int (f + 3 * (k : Int)))) S := by simp [fMul, s3]
      rw [ev2_s, ev2_s, hA]
      simp only [bind_ok]
      rw [ev2_s, evVar_s]
      simp only [List.getElem?_cons_succ, List.getElem?_cons_zero, bind_ok]
      rw [hI]
      simp only [bind_ok, val_d]
      rw [ix]
      simp only [bind_ok, val_d]
      rw [ad1]
      simp only [bind_ok, val_d]
      rw [hC]
      simp only [bind_ok, val_d]
      exact ad2, rfl⟩⟩) (fun k _ => by simp [refsLt])
  refine ⟨(List.range 7).map fun k : Nat => cutS b none (some (u : Int)) ++ ⟨#[lt2 (f + 3 * (k : Int))]⟩ ++ cutS b (some (u : Int)) none, by simp, ?_, ?_⟩
  · intro x hx
    obtain ⟨k, _, rfl⟩ := List.mem_map.mp hx
    have l1 : (⟨#[lt2 (f + 3 * (k : Int))]⟩ : Str).length = 1 := rfl
    refine ⟨by rw [lets_app, lets_app, lets_cut bl, lets_cut bl, in_lets (lt2_in _)]; rfl, ?_, ?_⟩ <;> rw [PySem.strLen_append, PySem.strLen_append, l1] <;> omega
  · have e : ((List.range 7).map fun k : Nat => cutS b none (some (u : Int)) ++ (⟨#[lt2 (f + 3 * (k : Int))]⟩ : Str) ++ cutS b (some (u : Int)) none).map D.str = (List.range 7).map fun k : Nat => D.str (cutS b none (some (u : Int)) ++ ⟨#[lt2 (f + 3 * (k : Int))]⟩ ++ cutS b (some (u : Int)) none) := by simp
    rw [e]
    have run : b_f_law_names ([D.int a].map some ++ List.replicate (7 - [D.int a].length) none) st = .ret (.new (.lst ((List.range 7).map fun k : Nat => D.str (cutS b none (some (u : Int)) ++ ⟨#[lt2 (f + 3 * (k : Int))]⟩ ++ cutS b (some (u : Int)) none)))) st := by
      unfold b_f_law_names
      show (sSeq x1_f_law_names _) [some (.int a), none, none, none, none, none, none] st = _
      rw [run_step S1, run_step S2, run_step S3, run_step S4]
      unfold x5_f_law_names
      rw [sRet_s, hlc]
      rfl
    unfold F_f_law_names
    rw [run_ret run]
    exact fin_new0 (by
      simp only [refsLt]; rw [refsLts_all]; intro d hd; obtain ⟨k, _, rfl⟩ := List.mem_map.mp hd; rfl)
end Lw
namespace Lw
open PySem PySem.Spec PyProof.Rows L2 VI
theorem nameG_B {x : Str} (h : nameG x) : nameB (.str x) = true := lets_name h.1 h.2.1 h.2.2
theorem rule_good {p : Str} {ss : List Str} (hp : nameG p) (hs : ∀ x ∈ ss, nameG x) (hl : ss.length ≤ 8) : ruleB (ruleD (p, ss)) = true := by
  have a := nameG_B hp
  have b : namesB (ss.map D.str) = true := by
    unfold namesB
    rw [List.all_eq_true]
    intro d hd
    obtain ⟨x, hx, rfl⟩ := List.mem_map.mp hd
    exact nameG_B (hs x hx)
  have c : decide (((ss.map D.str).length : Int) ≤ 8) = true := by simp; omega
  show (nameB (.str p) && (decide (((ss.map D.str).length : Int) ≤ 8) && namesB (ss.map D.str))) = true
  rw [a, b, c]; rfl
def goodR (rs : RS) : Prop := ∀ r ∈ rs, ruleB (ruleD r) = true
theorem goodR_snoc {rs : RS} {r : Str × List Str} (h : goodR rs) (hr : ruleB (ruleD r) = true) : goodR (rs ++ [r]) := fun x hx => by
  rcases List.mem_append.mp hx with hx | hx
  · exact h x hx
  · rw [List.mem_singleton.mp hx]; exact hr
theorem rules_refs' (rs : RS) (k : Nat) : refsLt k (.lst (rs.map ruleD)) = true := by
  have := rules_refs (rs := rs) k
  simpa only [refsLt] using this
theorem nG (x : Str) (h : (lets x && decide (1 ≤ x.length) && decide (x.length ≤ 8)) = true) : nameG x := by
  simp only [Bool.and_eq_true, decide_eq_true_eq] at h
  exact ⟨h.1.1, h.1.2, h.2⟩
theorem four_ix {i : Int} (h0 : 0 ≤ i) (h1 : i < 4) : ∃ x : Str, nameG x ∧ atI [D.str "p", .str "q", .str "a", .str "b"] i = some (.str x) := by
  have : i = 0 ∨ i = 1 ∨ i = 2 ∨ i = 3 := by omega
  rcases this with rfl | rfl | rfl | rfl
  · exact ⟨"p", nG _ (by decide +kernel), rfl⟩
  · exact ⟨"q", nG _ (by decide +kernel), rfl⟩
  · exact ⟨"a", nG _ (by decide +kernel), rfl⟩
  · exact ⟨"b", nG _ (by decide +kernel), rfl⟩
theorem two_ix {i : Int} (h0 : 0 ≤ i) (h1 : i < 2) : ∃ x : Str, nameG x ∧ atI [D.str "p", .str "q"] i = some (.str x) := by
  have : i = 0 ∨ i = 1 := by omega
  rcases this with rfl | rfl
  · exact ⟨"p", nG _ (by decide +kernel), rfl⟩
  · exact ⟨"q", nG _ (by decide +kernel), rfl⟩
theorem digits_turn {c m : Int} {q : Int} {st : Store} {rs : RS} {a4 a5 a6 a7 a8 : Option D} (hg : goodR rs) (hl : rs.length < 1000) :
    ∃ (r : Str × List Str) (q' : Int) (b5 b6 b7 b8 : Option D), ruleB (ruleD r) = true ∧ lp_f_law_by_digits_1 [some (.int c), some (.int q), some (.int m), some (.ref st.length), a4, a5, a6, a7, a8] (st ++ [some (.lst (rs.map ruleD))]) =
      .nx [some (.int c), some (.int q'), some (.int m), some (.ref st.length), a4, b5, b6, b7, b8] (st ++ [some (.lst ((rs ++ [r]).map ruleD))]) := by
  have dr := draws_eq (a := q) (sizes := [2, 3, 4, 4]) (st := st ++ [some (.lst (rs.map ruleD))]) (by simp) (by simp)
  obtain ⟨s1, h1⟩ : ∃ s, s = q % 2 := ⟨_, rfl⟩
  obtain ⟨s2, h2⟩ : ∃ s, s = q / 2 % 3 := ⟨_, rfl⟩
  obtain ⟨s3, h3⟩ : ∃ s, s = q / 2 / 3 % 4 := ⟨_, rfl⟩
  obtain ⟨s4, h4⟩ : ∃ s, s = q / 2 / 3 / 4 % 4 := ⟨_, rfl⟩
  have dg : digs q [2, 3, 4, 4] = [s1, s2, s3, s4] := by rw [h1, h2, h3, h4]; rfl
  rw [dg] at dr
  simp only [List.map_cons, List.map_nil] at dr
  obtain ⟨p, hp, e1⟩ := two_ix (i := s1) (by omega) (by omega)
  obtain ⟨x, hx, e3⟩ := four_ix (i := s3) (by omega) (by omega)
  obtain ⟨y, hy, e4⟩ := four_ix (i := s4) (by omega) (by omega)
  obtain ⟨k, rfl⟩ : ∃ k : Nat, s2 = (k : Int) := ⟨s2.toNat, by omega⟩
  have ct : VI.cutD [D.str x, .str y] none (some (k : Int)) = ([x, y].take k).map D.str := by
    have : k = 0 ∨ k = 1 ∨ k = 2 := by omega
    rcases this with rfl | rfl | rfl <;> rfl
  have lg : (96 : Int).natAbs.log2 < 9000 := by decide
  have S5 : x5_f_law_by_digits [some (.int c), some (.int q), some (.int m), some (.ref st.length), a4, a5, a6, a7, a8] (st ++ [some (.lst (rs.map ruleD))]) = .nx [some (.int c), some (.int q), some (.int m), some (.ref st.length), a4, some (.int s1), some (.int (k : Int)), some (.int s3), some (.int s4)] (st ++ [some (.lst (rs.map ruleD))]) := by
    unfold x5_f_law_by_digits
    generalize (st ++ [some (D.lst (rs.map ruleD))]) = S at *
    simp [sUn, colX, gdSeq, dr]
  have S6 : x6_f_law_by_digits [some (.int c), some (.int q), some (.int m), some (.ref st.length), a4, some (.int s1), some (.int (k : Int)), some (.int s3), some (.int s4)] (st ++ [some (.lst (rs.map ruleD))]) = .nx [some (.int c), some (.int (q / 96)), some (.int m), some (.ref st.length), a4, some (.int s1), some (.int (k : Int)), some (.int s3), some (.int s4)] (st ++ [some (.lst (rs.map ruleD))]) := by
    unfold x6_f_law_by_digits
    generalize (st ++ [some (D.lst (rs.map ruleD))]) = S at *
    have dv : fDivW (.int q) (.int 96) S = .ok (.val (.int (q / 96))) S := by rw [fDivW_int, if_pos ⟨by omega, lg⟩]
    simp only [sSet_s, ev2_s, evVar_s, evC_s, List.getElem?_cons_succ, List.getElem?_cons_zero, bind_ok, val_d, dv, sof_ok]
    rfl
  refine ⟨(p, [x, y].take k), q / 96, some (.int s1), some (.int (k : Int)), some (.int s3), some (.int s4), rule_good hp (fun z hz => by
    have := List.mem_of_mem_take hz
    simp only [List.mem_cons, List.not_mem_nil, or_false] at this
    rcases this with rfl | rfl
    · exact hx
    · exact hy) (by simp; omega), ?_⟩
  unfold lp_f_law_by_digits_1
  rw [run_step S5, run_step S6]
  have e : (rs ++ [(p, [x, y].take k)]).map ruleD = rs.map ruleD ++ [.tup [.str p, .tup (([x, y].take k).map D.str)]] := by simp [ruleD]
  rw [e]
  generalize ([x, y].take k).map D.str = N at *
  have tl : (rs.map ruleD).length < 100000 := by simp; omega
  generalize rs.map ruleD = R at *
  unfold x7_f_law_by_digits
  simp [e1, e3, e4, ct, tl]
theorem by_digits_eq (c : Int) (st : Store) : ∃ rs : RS, 1 ≤ rs.length ∧ rs.length ≤ 9 ∧ goodR rs ∧ F_f_law_by_digits [.int c] st = .ok (.new (.lst (rs.map ruleD))) st := by
  obtain ⟨q, hq⟩ : ∃ q : Int, fAbs [.int c] st = .ok (.val (.int q)) st := ⟨_, rfl⟩
  obtain ⟨m, hm⟩ : ∃ m, m = q % 4 := ⟨_, rfl⟩
  have lg : (4 : Int).natAbs.log2 < 9000 := by decide
  have S1 : x1_f_law_by_digits [some (.int c), none, none, none, none, none, none, none, none] st = .nx [some (.int c), some (.int q), none, none, none, none, none, none, none] st := by
    unfold x1_f_law_by_digits
    simp [hq]
  have S2 : x2_f_law_by_digits [some (.int c), some (.int q), none, none, none, none, none, none, none] st = .nx [some (.int c), some (.int (q / 4)), some (.int m), none, none, none, none, none, none] st := by
    have dv : fDivW (.int q) (.int 4) st = .ok (.val (.int (q / 4))) st := by rw [fDivW_int, if_pos ⟨by omega, lg⟩]
    unfold x2_f_law_by_digits
    simp only [sPar_s, acons_s, anil_s, ev2_s, evVar_s, evC_s, List.getElem?_cons_succ, List.getElem?_cons_zero, bind_ok, val_d, dv, sof_ok]
    simp [fMod, hm, show Nat.log2 4 < 9000 by decide]
  have S3 : x3_f_law_by_digits [some (.int c), some (.int (q / 4)), some (.int m), none, none, none, none, none, none] st = .nx [some (.int c), some (.int (q / 4)), some (.int m), some (.ref st.length), none, none, none, none, none] (st ++ [some (.lst [])]) := by
    unfold x3_f_law_by_digits; simp
  obtain ⟨env2, st2, el, rs, q2, a4, a5, a6, a7, a8, rfl, rfl, hl, hg⟩ := forGo_inv (iv := ⟨(List.range (1 + m).toNat).map fun k : Nat => D.int (k : Int), none⟩) (g := gdName 4) (body := lp_f_law_by_digits_1) rfl
    (fun i env s => ∃ (rs : RS) (q2 : Int) (a4 a5 a6 a7 a8 : Option D), env = [some (.int c), some (.int q2), some (.int m), some (.ref st.length), a4, a5, a6, a7, a8] ∧ s = st ++ [some (.lst (rs.map ruleD))] ∧ rs.length = i ∧ goodR rs)
    ((List.range (1 + m).toNat).map fun k : Nat => D.int (k : Int)) 0 [some (.int c), some (.int (q / 4)), some (.int m), some (.ref st.length), none, none, none, none, none] (st ++ [some (.lst [])]) ⟨[], _, none, none, none, none, none, rfl, rfl, rfl, fun _ h => by cases h⟩ (fun i x env s hi hI => by
      obtain ⟨rs, q2, a4, a5, a6, a7, a8, rfl, rfl, hl, hg⟩ := hI
      have hi2 : i < (1 + m).toNat := by
        have := (List.getElem?_eq_some_iff.mp hi).1
        simpa using this
      obtain ⟨r, q3, b5, b6, b7, b8, hr, e⟩ := digits_turn (c := c) (m := m) (q := q2) (st := st) (rs := rs) (a4 := some x) (a5 := a5) (a6 := a6) (a7 := a7) (a8 := a8) hg (by omega)
      exact ⟨[some (.int c), some (.int q2), some (.int m), some (.ref st.length), some x, a5, a6, a7, a8], _, _, by simp, .inl e, rs ++ [r], q3, _, _, _, _, _, rfl, rfl, by simp; omega, goodR_snoc hg hr⟩)
  have S4 : x4_f_law_by_digits [some (.int c), some (.int (q / 4)), some (.int m), some (.ref st.length), none, none, none, none, none] (st ++ [some (.lst [])]) = .nx [some (.int c), some (.int q2), some (.int m), some (.ref st.length), a4, a5, a6, a7, a8] (st ++ [some (.lst (rs.map ruleD))]) := by
    have it : itR1 (acons (ev2 fAdd (evC (.int 1)) (evVar 2)) (anil)) [some (.int c), some (.int (q / 4)), some (.int m), some (.ref st.length), none, none, none, none, none] (st ++ [some (.lst [])]) = .ok ⟨(List.range (1 + m).toNat).map fun k : Nat => D.int (k : Int), none⟩ (st ++ [some (.lst [])]) := by
      rw [itR1_of (j := 1 + m) (st1 := st ++ [some (.lst [])]) rfl (okR_small (by omega) (by omega)), rangeD_map]
    unfold x4_f_law_by_digits
    rw [sFor_s, it]
    simp only [sof_ok]
    exact el
  have hl' : rs.length = (1 + m).toNat := by simpa using hl
  refine ⟨rs, by omega, by omega, hg, ?_⟩
  have run : b_f_law_by_digits ([D.int c].map some ++ List.replicate (9 - [D.int c].length) none) st = .ret (.val (.ref st.length)) (st ++ [some (.lst (rs.map ruleD))]) := by
    unfold b_f_law_by_digits
    show (sSeq x1_f_law_by_digits _) [some (.int c), none, none, none, none, none, none, none, none] st = _
    rw [run_step S1, run_step S2, run_step S3, run_step S4]
    unfold x8_f_law_by_digits
    simp
  unfold F_f_law_by_digits
  rw [run_ret run]
  exact fin_cell (rules_refs' rs 0)
end Lw
namespace Lw
open PySem PySem.Spec PyProof.Rows L2 VI
theorem ix_names {ns : List Str} {i : Int} {st : Store} (h0 : 0 ≤ i) (h1 : i < ns.length) : ∃ x ∈ ns, fIxD (.lst (ns.map D.str)) (.int i) st = .ok (.val (.str x)) st := by
  obtain ⟨d, hd, hm⟩ := atI_in (xs := ns.map D.str) (i := i) h0 (by simpa using h1)
  obtain ⟨x, hx, rfl⟩ := List.mem_map.mp hm
  exact ⟨x, hx, by simp [hd]⟩
def nth (ns : List Str) (i : Int) : Str := match atI ns i with
  | some x => x
  | none => "p"
theorem nth_ix {ns : List Str} {i : Int} (h0 : 0 ≤ i) (h1 : i < ns.length) : nth ns i ∈ ns ∧ ∀ st : Store, fIxD (.lst (ns.map D.str)) (.int i) st = .ok (.val (.str (nth ns i))) st := by
  obtain ⟨x, hx, hm⟩ := atI_in (xs := ns) (i := i) h0 h1
  have e : nth ns i = x := by unfold nth; rw [hx]
  have : atI (ns.map D.str) i = some (.str x) := by
    unfold atI at hx ⊢
    rw [List.length_map]
    cases q : ixN ns.length i with
    | none => rw [q] at hx; simp at hx
    | some j => rw [q] at hx; simp at hx; simp [hx]
  rw [e]
  exact ⟨hm, fun st => by simp [this]⟩
theorem row_eq {c m f k p s : Int} {ns : List Str} {L : Nat} {S : Store} (hn : ns.length = 7) (h0 : 0 ≤ s) (h1 : s < 5) : ∃ ss : List Str, ss.length ≤ 4 ∧ (∀ x ∈ ss, x ∈ ns) ∧
    lc_f_law_by_mixes_1 [some (.int c), some (.lst (ns.map D.str)), some (.int m), some (.int f), some (.ref L), some (.int k), some (.int p), some (.int s), none] S = .ok (.new (.lst (ss.map D.str))) S := by
  have it : itR1 (acons (evVar 7) (anil)) [some (.int c), some (.lst (ns.map D.str)), some (.int m), some (.int f), some (.ref L), some (.int k), some (.int p), some (.int s), none] S = .ok ⟨(List.range s.toNat).map fun j : Nat => D.int (j : Int), none⟩ S := by
    rw [itR1_of (j := s) (st1 := S) rfl (okR_small (by omega) (by omega)), rangeD_map]
  have hlc : lc_f_law_by_mixes_1 [some (.int c), some (.lst (ns.map D.str)), some (.int m), some (.int f), some (.ref L), some (.int k), some (.int p), some (.int s), none] S = _ := evLc_map1 (own := [8]) (m := itR1 (acons (evVar 7) (anil))) (g := gdName 8) (e := ev2 fIxD (evVar 1) (ev2 fMod (evCall 2 F_f_law_mix (acons (evVar 0) (acons (ev2 fAdd (ev2 fAdd (evC (.int 100)) (ev2 fMulB (evC (.int 9)) (evVar 5))) (evVar 8)) (anil)))) (evC (.int 7)))) (env := [some (.int c), some (.lst (ns.map D.str)), some (.int m), some (.int f), some (.ref L), some (.int k), some (.int p), some (.int s), none]) (st := S) (items := List.range s.toNat)
    (fun j : Nat => D.int (j : Int)) (fun j : Nat => D.str (nth ns (mixI c (100 + 9 * k + (j : Int)) % 7))) (fun j : Nat => [some (.int c), some (.lst (ns.map D.str)), some (.int m), some (.int f), some (.ref L), some (.int k), some (.int p), some (.int s), some (.int (j : Int))]) it (by simp; omega) (fun j _ => ⟨by simp [wipeD], fun more => ⟨.val (.str (nth ns (mixI c (100 + 9 * k + (j : Int)) % 7))), by
      have s9 : smallF 9 = true := by decide
      have cm := call_mix (env := [some (.int c), some (.lst (ns.map D.str)), some (.int m), some (.int f), some (.ref L), some (.int k), some (.int p), some (.int s), some (.int (j : Int))]) (S := S ++ more) (m := ev2 fAdd (ev2 fAdd (evC (.int 100)) (ev2 fMulB (evC (.int 9)) (evVar 5))) (evVar 8)) (a := c) (k := 100 + 9 * k + (j : Int)) rfl (by simp [fMul, s9])
      obtain ⟨_, ix⟩ := nth_ix (ns := ns) (i := mixI c (100 + 9 * k + (j : Int)) % 7) (Int.emod_nonneg _ (by omega)) (by have := Int.emod_lt_of_pos (mixI c (100 + 9 * k + (j : Int))) (show (0 : Int) < 7 by omega); omega)
      rw [ev2_s, evVar_s]
      simp only [List.getElem?_cons_succ, List.getElem?_cons_zero, bind_ok, val_d]
      rw [ev2_s, cm]
      simp only [bind_ok, val_d, evC_s, fMod]
      exact ix _, rfl⟩⟩) (fun k _ => by simp [refsLt])
  refine ⟨(List.range s.toNat).map fun j : Nat => nth ns (mixI c (100 + 9 * k + (j : Int)) % 7), by simp; omega, fun x hx => ?_, ?_⟩
  · obtain ⟨j, _, rfl⟩ := List.mem_map.mp hx
    exact (nth_ix (ns := ns) (i := mixI c (100 + 9 * k + (j : Int)) % 7) (Int.emod_nonneg _ (by omega)) (by have := Int.emod_lt_of_pos (mixI c (100 + 9 * k + (j : Int))) (show (0 : Int) < 7 by omega); omega)).1
  · have e : ((List.range s.toNat).map fun j : Nat => nth ns (mixI c (100 + 9 * k + (j : Int)) % 7)).map D.str = (List.range s.toNat).map fun j : Nat => D.str (nth ns (mixI c (100 + 9 * k + (j : Int)) % 7)) := by simp
    rw [e]
    exact hlc
end Lw
namespace Lw
open PySem PySem.Spec PyProof.Rows L2 VI
abbrev EB (c : Int) (ns : List Str) (m f : Int) (L : Nat) (a5 a6 a7 : Option D) : DEnv := [some (.int c), some (.lst (ns.map D.str)), some (.int m), some (.int f), some (.ref L), a5, a6, a7, none]
def Sc (st : Store) (rs : RS) : Store := st ++ [some (.lst (rs.map ruleD))]
theorem mixes_turn {c m f k : Int} {ns : List Str} {st : Store} {rs : RS} {a6 a7 : Option D} (hn : ns.length = 7) (hN : ∀ x ∈ ns, nameG x) (f0 : 0 ≤ f) (f1 : f < 4) (hg : goodR rs) (hl : rs.length < 1000) :
    ∃ (r : Str × List Str) (b6 b7 : Option D), ruleB (ruleD r) = true ∧ lp_f_law_by_mixes_1 (EB c ns m f st.length (some (.int k)) a6 a7) (Sc st rs) = .nx (EB c ns m f st.length (some (.int k)) b6 b7) (Sc st (rs ++ [r])) := by
  have dr := draws_eq (a := mixI c (10 + k)) (sizes := [1 + f, 5]) (st := Sc st rs) (by simp; omega) (by simp)
  obtain ⟨p, hp⟩ : ∃ p, p = mixI c (10 + k) % (1 + f) := ⟨_, rfl⟩
  obtain ⟨s, hs⟩ : ∃ s, s = mixI c (10 + k) / (1 + f) % 5 := ⟨_, rfl⟩
  have dg : digs (mixI c (10 + k)) [1 + f, 5] = [p, s] := by rw [hp, hs]; rfl
  rw [dg] at dr
  simp only [List.map_cons, List.map_nil] at dr
  have p0 : 0 ≤ p := by rw [hp]; exact Int.emod_nonneg _ (by omega)
  have p1 : p < 1 + f := by rw [hp]; exact Int.emod_lt_of_pos _ (by omega)
  obtain ⟨x, hx, ix⟩ := ix_names (ns := ns) (i := p) (st := Sc st rs) p0 (by omega)
  obtain ⟨ss, sl, sm, lc⟩ := row_eq (c := c) (m := m) (f := f) (k := k) (p := p) (s := s) (L := st.length) (S := Sc st rs) hn (by omega) (by omega)
  have cm := call_mix (env := EB c ns m f st.length (some (.int k)) a6 a7) (S := Sc st rs) (m := ev2 fAdd (evC (.int 10)) (evVar 5)) (a := c) (k := 10 + k) rfl rfl
  have S5 : x5_f_law_by_mixes (EB c ns m f st.length (some (.int k)) a6 a7) (Sc st rs) = .nx (EB c ns m f st.length (some (.int k)) (some (.int p)) (some (.int s))) (Sc st rs) := by
    have call : evCall 2 F_f_law_draws (acons (evCall 2 F_f_law_mix (acons (evVar 0) (acons (ev2 fAdd (evC (.int 10)) (evVar 5)) (anil)))) (acons (evLst (acons (ev2 fAdd (evC (.int 1)) (evVar 3)) (acons (evC (.int 5)) (anil)))) (anil))) (EB c ns m f st.length (some (.int k)) a6 a7) (Sc st rs) = .ok (.new (.lst [.int p, .int s])) (Sc st rs) := by
      rw [evCall_s, acons_s, cm]
      generalize Sc st rs = S at *
      simp [dr]
    unfold x5_f_law_by_mixes sUn
    rw [call]
    rfl
  refine ⟨(x, ss), some (.int p), some (.int s), rule_good (hN x hx) (fun y hy => hN y (sm y hy)) (by omega), ?_⟩
  unfold lp_f_law_by_mixes_1
  rw [run_step S5]
  have e : Sc st (rs ++ [(x, ss)]) = st ++ [some (.lst (rs.map ruleD ++ [.tup [.str x, .tup (ss.map D.str)]]))] := by simp [Sc, ruleD]
  have tl : (rs.map ruleD).length < 100000 := by simp; omega
  rw [e]
  have g : (Sc st rs)[st.length]? = some (some (.lst (rs.map ruleD))) := by simp [Sc]
  have w : ∀ v, (Sc st rs).set st.length v = st ++ [v] := fun v => by simp [Sc]
  generalize Sc st rs = S at *
  generalize rs.map ruleD = R at *
  have tup : acons (evTup (acons (ev2 fIxD (evVar 1) (evVar 6)) (acons (evA fTupleD (acons (lc_f_law_by_mixes_1) (anil))) (anil)))) (anil) (EB c ns m f st.length (some (.int k)) (some (.int p)) (some (.int s))) S = .ok [.tup [.str x, .tup (ss.map D.str)]] S := by
    have ix' : ev2 fIxD (evVar 1) (evVar 6) (EB c ns m f st.length (some (.int k)) (some (.int p)) (some (.int s))) S = .ok (.val (.str x)) S := ix
    rw [acons_s, evTup_s, acons_s, ix']
    simp only [bind_ok, val_d]
    rw [acons_s, evA_s, acons_s, lc]
    simp
  unfold x6_f_law_by_mixes
  rw [sDrop_s, evMt_s, evVar_s]
  have v4 : (EB c ns m f st.length (some (.int k)) (some (.int p)) (some (.int s)))[4]? = some (some (.ref st.length)) := rfl
  rw [v4]
  simp only [bind_ok, val_d, tyD_ref, g]
  simp only [true_and, or_true, if_true]
  rw [tup]
  simp [g, tl, w]
end Lw
namespace Lw
open PySem PySem.Spec PyProof.Rows L2 VI
theorem by_mixes_eq (c : Int) (st : Store) : ∃ rs : RS, 1 ≤ rs.length ∧ rs.length ≤ 9 ∧ goodR rs ∧ F_f_law_by_mixes [.int c] st = .ok (.new (.lst (rs.map ruleD))) st := by
  obtain ⟨ns, hn, hN, en⟩ := names_eq (mixI c 1) st
  have dr := draws_eq (a := mixI c 2) (sizes := [9, 4]) (st := st) (by simp) (by simp)
  obtain ⟨m, hm⟩ : ∃ m, m = mixI c 2 % 9 := ⟨_, rfl⟩
  obtain ⟨f, hf⟩ : ∃ f, f = mixI c 2 / 9 % 4 := ⟨_, rfl⟩
  have dg : digs (mixI c 2) [9, 4] = [m, f] := by rw [hm, hf]; rfl
  rw [dg] at dr
  simp only [List.map_cons, List.map_nil] at dr
  have S1 : x1_f_law_by_mixes [some (.int c), none, none, none, none, none, none, none, none] st = .nx [some (.int c), some (.lst (ns.map D.str)), none, none, none, none, none, none, none] st := by
    have cm := call_mix (env := [some (.int c), none, none, none, none, none, none, none, none]) (S := st) (m := evC (.int 1)) (a := c) (k := 1) rfl rfl
    unfold x1_f_law_by_mixes
    rw [sSet_s, evCall_s, acons_s, cm]
    simp [en]
  have S2 : x2_f_law_by_mixes [some (.int c), some (.lst (ns.map D.str)), none, none, none, none, none, none, none] st = .nx [some (.int c), some (.lst (ns.map D.str)), some (.int m), some (.int f), none, none, none, none, none] st := by
    have cm := call_mix (env := [some (.int c), some (.lst (ns.map D.str)), none, none, none, none, none, none, none]) (S := st) (m := evC (.int 2)) (a := c) (k := 2) rfl rfl
    have call : evCall 2 F_f_law_draws (acons (evCall 2 F_f_law_mix (acons (evVar 0) (acons (evC (.int 2)) (anil)))) (acons (evLst (acons (evC (.int 9)) (acons (evC (.int 4)) (anil)))) (anil))) [some (.int c), some (.lst (ns.map D.str)), none, none, none, none, none, none, none] st = .ok (.new (.lst [.int m, .int f])) st := by
      rw [evCall_s, acons_s, cm]
      simp [dr]
    unfold x2_f_law_by_mixes sUn
    rw [call]
    rfl
  have S3 : x3_f_law_by_mixes [some (.int c), some (.lst (ns.map D.str)), some (.int m), some (.int f), none, none, none, none, none] st = .nx (EB c ns m f st.length none none none) (Sc st []) := by
    unfold x3_f_law_by_mixes; simp [Sc]
  obtain ⟨env2, st2, el, rs, a5, a6, a7, rfl, rfl, hl, hg⟩ := forGo_inv (iv := ⟨(List.range (1 + m).toNat).map fun k : Nat => D.int (k : Int), none⟩) (g := gdName 5) (body := lp_f_law_by_mixes_1) rfl
    (fun i env s => ∃ (rs : RS) (a5 a6 a7 : Option D), env = EB c ns m f st.length a5 a6 a7 ∧ s = Sc st rs ∧ rs.length = i ∧ goodR rs)
    ((List.range (1 + m).toNat).map fun k : Nat => D.int (k : Int)) 0 (EB c ns m f st.length none none none) (Sc st []) ⟨[], none, none, none, rfl, rfl, rfl, fun _ h => by cases h⟩ (fun i x env s hi hI => by
      obtain ⟨rs, a5, a6, a7, rfl, rfl, hl, hg⟩ := hI
      have hi2 : i < (1 + m).toNat := by
        have := (List.getElem?_eq_some_iff.mp hi).1
        simpa using this
      obtain ⟨j, _, rfl⟩ := List.mem_map.mp (List.mem_of_getElem? hi)
      obtain ⟨r, b6, b7, hr, e⟩ := mixes_turn (c := c) (m := m) (f := f) (k := (j : Int)) (st := st) (rs := rs) (a6 := a6) (a7 := a7) hn hN (by omega) (by omega) hg (by omega)
      exact ⟨EB c ns m f st.length (some (.int (j : Int))) a6 a7, _, _, by simp, .inl e, rs ++ [r], _, _, _, rfl, rfl, by simp; omega, goodR_snoc hg hr⟩)
  have S4 : x4_f_law_by_mixes (EB c ns m f st.length none none none) (Sc st []) = .nx (EB c ns m f st.length a5 a6 a7) (Sc st rs) := by
    have it : itR1 (acons (ev2 fAdd (evC (.int 1)) (evVar 2)) (anil)) (EB c ns m f st.length none none none) (Sc st []) = .ok ⟨(List.range (1 + m).toNat).map fun k : Nat => D.int (k : Int), none⟩ (Sc st []) := by
      rw [itR1_of (j := 1 + m) (st1 := Sc st []) rfl (okR_small (by omega) (by omega)), rangeD_map]
    unfold x4_f_law_by_mixes
    rw [sFor_s, it]
    simp only [sof_ok]
    exact el
  have hl' : rs.length = (1 + m).toNat := by simpa using hl
  refine ⟨rs, by omega, by omega, hg, ?_⟩
  have run : b_f_law_by_mixes ([D.int c].map some ++ List.replicate (9 - [D.int c].length) none) st = .ret (.val (.ref st.length)) (Sc st rs) := by
    unfold b_f_law_by_mixes
    show (sSeq x1_f_law_by_mixes _) [some (.int c), none, none, none, none, none, none, none, none] st = _
    rw [run_step S1, run_step S2, run_step S3, run_step S4]
    unfold x7_f_law_by_mixes
    simp
  unfold F_f_law_by_mixes
  rw [run_ret run]
  exact fin_cell (rules_refs' rs 0)
theorem prs_rules (rs : RS) : prsOf (rs.map fun r => D.tup [ruleD r, .bl true]) = some ((rs.map ruleD).map fun d => (d, D.bl true)) := by
  induction rs with
  | nil => rfl
  | cons r rs ih => simp only [List.map_cons, prsOf, ih, Option.map_some]
theorem rules_eq (c : Int) (st : Store) : ∃ rs : RS, okRS rs ∧ rs.length ≤ 9 ∧ F_f_law_rules [.int c] st = .ok (.new (.lst (rs.map ruleD))) st := by
  obtain ⟨q, hq⟩ : ∃ q : Int, q = if c < 0 then -c else c := ⟨_, rfl⟩
  have fp : fPow (.int 10) (.int 18) st = .ok (.val (.int 1000000000000000000)) st := by simp [fPow]
  obtain ⟨rs, l1, l9, hg, S1⟩ : ∃ rs : RS, 1 ≤ rs.length ∧ rs.length ≤ 9 ∧ goodR rs ∧ x1_f_law_rules [some (.int c), none, none] st = .nx [some (.int c), some (.lst (rs.map ruleD)), none] st := by
    by_cases h : (1000000000000000000 : Int) ≤ q
    · obtain ⟨rs, l1, l9, hg, e⟩ := by_digits_eq (q - 1000000000000000000) st
      exact ⟨rs, l1, l9, hg, by unfold x1_f_law_rules; simp [← hq, fp, h, e]⟩
    · obtain ⟨rs, l1, l9, hg, e⟩ := by_mixes_eq c st
      exact ⟨rs, l1, l9, hg, by unfold x1_f_law_rules; simp [← hq, fp, h, e]⟩
  have hlc : lc_f_law_rules_1 [some (.int c), some (.lst (rs.map ruleD)), none] st = _ := evLc_map1 (own := [2]) (m := itSeq (evVar 1)) (g := gdName 2) (e := evTup (acons (evVar 2) (acons (evC (.bl true)) (anil)))) (env := [some (.int c), some (.lst (rs.map ruleD)), none]) (st := st) (items := rs) ruleD
    (fun r => D.tup [ruleD r, .bl true]) (fun r => [some (.int c), some (.lst (rs.map ruleD)), some (ruleD r)]) (by simp) (by omega) (fun r _ => ⟨by simp [wipeD], fun more => ⟨_, by simp; rfl, rfl⟩⟩) (fun r hr => by
      have := thing_refs _ (rule_thing (hg r hr))
      simp [refsLt, refsLts, this])
  have fd : fDictP [.lst (rs.map fun r => D.tup [ruleD r, .bl true])] st = .ok (.new (.dic (allA [] ((rs.map ruleD).map fun d => (d, D.bl true))))) st := by
    have cc : (((rs.map ruleD).map fun d => (d, D.bl true)).all (fun p => (keyOfD p.1).isSome) || ((rs.map ruleD).map fun d => (d, D.bl true)).all (fun p => keyNd p.1)) = true := by
      rw [Bool.or_eq_true, List.all_eq_true (p := fun p : D × D => keyNd p.1)]
      refine .inr fun p hp => ?_
      obtain ⟨d, hd, rfl⟩ := List.mem_map.mp hp
      obtain ⟨r, hr, rfl⟩ := List.mem_map.mp hd
      exact (rule_key (hg r hr)).2
    simp only [fDictP, lstOf_lst, prs_rules, cc, if_true]
  have ks : (allA [] ((rs.map ruleD).map fun d => (d, D.bl true))).map (·.1) = (once [] rs).map ruleD := by
    rw [allA_keys]
    exact once_map ruleD (fun a b h => ruleD_inj h) rs []
  have ne : noErr (allA [] ((rs.map ruleD).map fun d => (d, D.bl true))) = true := by
    generalize allA [] ((rs.map ruleD).map fun d => (d, D.bl true)) = kvs at ks
    cases kvs with
    | nil => rfl
    | cons p r =>
      obtain ⟨k, v⟩ := p
      cases hp : once [] rs with
      | nil => rw [hp] at ks; simp at ks
      | cons q t =>
        rw [hp] at ks
        simp only [List.map_cons, List.cons.injEq] at ks
        rw [ks.1]; rfl
  have fl : fListD [.dic (allA [] ((rs.map ruleD).map fun d => (d, D.bl true)))] st = .ok (.new (.lst ((once [] rs).map ruleD))) st := by
    simp only [fListD, dicOf_dic ne, ks]
  have ol := once_len rs []
  have mem : ∀ r, r ∈ once [] rs ↔ r ∈ rs := fun r => by rw [once_mem]; simp
  refine ⟨once [] rs, ⟨fun r hr => hg r ((mem r).mp hr), once_nodup rs [] (by simp), ?_, by simp at ol; omega⟩, by simp at ol; omega, ?_⟩
  · cases rs with
    | nil => simp at l1
    | cons r rs =>
      have : r ∈ once [] (r :: rs) := (mem r).mpr (by simp)
      cases h : once [] (r :: rs) with
      | nil => rw [h] at this; cases this
      | cons _ _ => simp
  · have S2 : x2_f_law_rules [some (.int c), some (.lst (rs.map ruleD)), none] st = .ret (.new (.lst ((once [] rs).map ruleD))) st := by
      unfold x2_f_law_rules
      rw [sRet_s, evA_s, acons_s, evA_s, acons_s, hlc]
      simp only [bind_ok, new_d, anil_s]
      rw [fd]
      simp only [bind_ok, new_d]
      rw [fl]
      rfl
    have run : b_f_law_rules ([D.int c].map some ++ List.replicate (3 - [D.int c].length) none) st = .ret (.new (.lst ((once [] rs).map ruleD))) st := by
      unfold b_f_law_rules
      show (sSeq x1_f_law_rules _) [some (.int c), none, none] st = _
      rw [run_step S1]
      exact S2
    unfold F_f_law_rules
    rw [run_ret run]
    exact fin_new0 (rules_refs' _ _)
end Lw
namespace Lw
open PySem PySem.Spec PyProof.Rows L2 VI
theorem word_gram (st : Store) : F_f_law_word_of [.dic [(.cl "NoGrammar", .non)]] st = .ok (.val (.str "NoGrammar")) st := by
  unfold F_f_law_word_of runP b_f_law_word_of x1_f_law_word_of x2_f_law_word_of x3_f_law_word_of x4_f_law_word_of x5_f_law_word_of x6_f_law_word_of x7_f_law_word_of
  simp [fIsE, lookE, errC, errT, catOk, fCount, fIndex, lstOf, flatD, eqD, toPy, PyData.eqv, atI, ixN, List.findIdx?_cons]
theorem word_many (st : Store) : F_f_law_word_of [.dic [(.cl "TooMany", .non)]] st = .ok (.val (.str "TooMany")) st := by
  unfold F_f_law_word_of runP b_f_law_word_of x1_f_law_word_of x2_f_law_word_of x3_f_law_word_of x4_f_law_word_of x5_f_law_word_of x6_f_law_word_of x7_f_law_word_of
  simp [fIsE, lookE, errC, errT, catOk, fCount, fIndex, lstOf, flatD, eqD, toPy, PyData.eqv, atI, ixN, List.findIdx?_cons]
theorem made_good {v : D} {rs : RS} {p0 : Str} {st : Store} (M : makeR "Grammar" F_Grammar_init [v] st = .ok (.new (gramD rs p0)) st) : F_f_law_made [v] st = .ok (.val (.tup (rs.map ruleD))) st := by
  have S3 : x3_f_law_made [some v, some .non, some .non, none] st = .nx [some v, some (gramD rs p0), some .non, none] st := by
    unfold x3_f_law_made x4_f_law_made x6_f_law_made
    generalize gramD rs p0 = gd at *
    simp [sTry, evMakeR, M]
  have S7 : x7_f_law_made [some v, some (gramD rs p0), some .non, none] st = .ret (.val (.tup (rs.map ruleD))) st := by
    have f1 : evFld ["Grammar"] "rules" (evVar 1) [some v, some (gramD rs p0), some .non, none] st = .ok (.val (.tup (rs.map ruleD))) st := by simp [evFld, objOf, gramD, List.lookup]
    unfold x7_f_law_made
    generalize gramD rs p0 = gd at *
    simp [fIsN, noneD, f1]
  have run : b_f_law_made ([v].map some ++ List.replicate (4 - [v].length) none) st = .ret (.val (.tup (rs.map ruleD))) st := by
    unfold b_f_law_made
    have S1 : x1_f_law_made [some v, none, none, none] st = .nx [some v, some .non, none, none] st := by unfold x1_f_law_made; simp
    have S2 : x2_f_law_made [some v, some .non, none, none] st = .nx [some v, some .non, some .non, none] st := by unfold x2_f_law_made; simp
    show (sSeq x1_f_law_made _) [some v, none, none, none] st = _
    rw [run_step S1, run_step S2, run_step S3]
    exact S7
  unfold F_f_law_made
  rw [run_ret run]
  exact fin_val0 (rules_refs _) (fun _ => nofun)
theorem made_bad {v : D} {st : Store} (M : makeR "Grammar" F_Grammar_init [v] st = .exc ⟨"NoGrammar", none⟩ st) : F_f_law_made [v] st = .ok (.val (.str "NoGrammar")) st := by
  have w := word_gram st
  unfold F_f_law_made runP b_f_law_made x1_f_law_made x2_f_law_made x3_f_law_made x4_f_law_made x6_f_law_made x7_f_law_made
  simp [sTry, evMakeR, M, hitE, hits_ReadError, errD, slotNone, fIsN, noneD, w]
theorem made_many {v : D} {st : Store} (M : makeR "Grammar" F_Grammar_init [v] st = .exc ⟨"TooMany", none⟩ st) : F_f_law_made [v] st = .ok (.val (.str "TooMany")) st := by
  have w := word_many st
  unfold F_f_law_made runP b_f_law_made x1_f_law_made x2_f_law_made x3_f_law_made x4_f_law_made x6_f_law_made x7_f_law_made
  simp [sTry, evMakeR, M, hitE, hits_ReadError, errD, slotNone, fIsN, noneD, w]
/-- by what is handed in -/
theorem made_rules {v : D} {rs : RS} {st : Store} (ok : okRS rs) (ha : SeqArg v st (rs.map ruleD)) : F_f_law_made [v] st = .ok (.val (.tup (rs.map ruleD))) st := by
  obtain ⟨p0, t, hp⟩ := parts_head ok.2.2.1
  exact made_good (make_eq ok hp ha)
theorem made_none {v : D} {st : Store} {ds : List D} (ha : SeqArg v st ds) (th : ∀ x ∈ ds, thing x = true) (hl : ds.length ≤ 306) (h : ¬ (rulesB ds = true ∧ ds.Nodup)) : F_f_law_made [v] st = .ok (.val (.str "NoGrammar")) st :=
  made_bad (init_bad (by rw [need_eq ha.more th hl, if_neg h]))
theorem made_too {v : D} {st : Store} {ds : List D} (ha : SeqArg v st ds) (th : ∀ x ∈ ds, thing x = true) (hl : ds.length ≤ 306) (h : rulesB ds = true ∧ ds.Nodup) (h3 : 300 < ds.length) : F_f_law_made [v] st = .ok (.val (.str "TooMany")) st :=
  made_many (init_bad (by rw [need_eq ha.more th hl, if_pos h, if_neg (by omega)]))
theorem made_other {v : D} {st : Store} (h : thing v = true) (hs : seqD v = none) : F_f_law_made [v] st = .ok (.val (.str "NoGrammar")) st := made_bad (init_bad (need_other h hs))
end Lw
namespace Lw
open PySem PySem.Spec PyProof.Rows L2 VI
def dictP : D := .dic [(.str "p", .tup [])]
def dictQ : D := .dic [(.str "p", .int 1)]
/-- the thirty things that are no rules -/
def odd1 : List D := [.non, .tup [], .tup [.str "p"], .tup [.str "p", .tup [.str "a"], .int 1], .tup [.str "p", .lst [.str "a"]], .lst [.str "p", .tup [.str "a"]], .tup [.str "P", .tup []], .tup [.str "", .tup []]]
def odd2 : List D := [.tup [.str "p", .tup [.str "A"]], .tup [.str "p", .str "ab"], .tup [.str "p", .non], .tup [.int 5, .tup []], .tup [.str "p", .tup [.int 5]], .tup [.str "abcdefghi", .tup []]]
def odd3 : List D := [.tup [.str "p", .tup [.str "abcdefghi"]]]
def nine : List D := (List.replicate 9 [D.str "a"]).flatten
def odd4 : List D := [.tup [.str "p", .tup nine], .str "p = a", .int 7, .tup [.str "p", .tup [.str "a", .str ""]], .tup [.str "p", .tup [.tup [.str "a"]]], .tup [.str "p q", .tup []]]
def odd5 : List D := [.tup [.str "p", .tup [.str "a b"]], .tup [.non, .tup []], .tup [.str "p", .dic []], dictP, .bl true, .tup [.str "p", .tup [.str "="]], .tup [.str "#", .tup []]]
def odd6 : List D := [.tup [.str "p1", .tup []], .tup [.str "p", .tup [.str "-"]]]
def odds : List D := odd1 ++ odd2 ++ odd3 ++ odd4 ++ odd5 ++ odd6
theorem odds_bad : odds.all (fun d => thing d && !ruleB d) = true := by decide +kernel
theorem odds_len : odds.length = 30 := by decide +kernel
theorem dp_eq (env : DEnv) (st : Store) : evDisp1 (evC (.str "p")) (evTup (anil)) env st = .ok (.new dictP) st := evDisp1_of (wk := .val (.str "p")) (wv := .val (.tup [])) rfl rfl rfl (by simp [refsLt, refsLtK, refsLts])
theorem dq_eq (env : DEnv) (st : Store) : evDisp1 (evC (.str "p")) (evC (.int 1)) env st = .ok (.new dictQ) st := evDisp1_of (wk := .val (.str "p")) (wv := .val (.int 1)) rfl rfl rfl (by simp [refsLt, refsLtK])
theorem odd_eq (a : Int) (st : Store) : ∃ o, thing o = true ∧ ruleB o = false ∧ o ∈ odds ∧ F_f_law_odd_rule [.int a] st = .ok (.val o) st := by
  obtain ⟨i, hi⟩ : ∃ i, i = a % 30 := ⟨_, rfl⟩
  obtain ⟨o, ho, hm⟩ := atI_in (xs := odds) (i := i) (by omega) (by rw [odds_len]; omega)
  have b := List.all_eq_true.mp odds_bad o hm
  rw [Bool.and_eq_true] at b
  have S1 : x1_f_law_odd_rule [some (.int a), none] st = .nx [some (.int a), some (.lst odd1)] st := by
    unfold x1_f_law_odd_rule odd1; simp
  have S2 : x2_f_law_odd_rule [some (.int a), some (.lst odd1)] st = .nx [some (.int a), some (.lst (odd1 ++ odd2))] st := by
    have cat : catOk odd1 odd2 = true := by decide
    unfold x2_f_law_odd_rule
    generalize odd1 = V at *
    unfold odd2 at *
    simp [cat]
  have S3 : x3_f_law_odd_rule [some (.int a), some (.lst (odd1 ++ odd2))] st = .nx [some (.int a), some (.lst (odd1 ++ odd2 ++ odd3))] st := by
    have cat : catOk (odd1 ++ odd2) odd3 = true := by decide
    unfold x3_f_law_odd_rule
    generalize odd1 ++ odd2 = V at *
    unfold odd3 at *
    simp [cat]
  have S4 : x4_f_law_odd_rule [some (.int a), some (.lst (odd1 ++ odd2 ++ odd3))] st = .nx [some (.int a), some (.lst (odd1 ++ odd2 ++ odd3 ++ odd4))] st := by
    have cat : catOk (odd1 ++ odd2 ++ odd3) odd4 = true := by decide
    have m9 : fMulB (.tup [.str "a"]) (.int 9) st = .ok (.val (.tup nine)) st := by simp [fMulB, fMulA, fMulT, lstOf, nine]
    unfold x4_f_law_odd_rule
    generalize odd1 ++ odd2 ++ odd3 = V at *
    unfold odd4 at *
    generalize nine = N at *
    simp [cat, m9]
  have S5 : x5_f_law_odd_rule [some (.int a), some (.lst (odd1 ++ odd2 ++ odd3 ++ odd4))] st = .nx [some (.int a), some (.lst (odd1 ++ odd2 ++ odd3 ++ odd4 ++ odd5))] st := by
    have cat : catOk (odd1 ++ odd2 ++ odd3 ++ odd4) odd5 = true := by decide
    unfold x5_f_law_odd_rule
    generalize odd1 ++ odd2 ++ odd3 ++ odd4 = V at *
    unfold odd5 at *
    simp [cat, dp_eq]
  have S6 : x6_f_law_odd_rule [some (.int a), some (.lst (odd1 ++ odd2 ++ odd3 ++ odd4 ++ odd5))] st = .nx [some (.int a), some (.lst odds)] st := by
    have cat : catOk (odd1 ++ odd2 ++ odd3 ++ odd4 ++ odd5) odd6 = true := by decide
    unfold odds x6_f_law_odd_rule
    generalize odd1 ++ odd2 ++ odd3 ++ odd4 ++ odd5 = V at *
    unfold odd6 at *
    simp [cat]
  have S7 : x7_f_law_odd_rule [some (.int a), some (.lst odds)] st = .ret (.val o) st := by
    unfold x7_f_law_odd_rule
    generalize odds = V at *
    simp [fMod, ← hi, ho]
  refine ⟨o, b.1, by simpa using b.2, hm, ?_⟩
  have run : b_f_law_odd_rule ([D.int a].map some ++ List.replicate (2 - [D.int a].length) none) st = .ret (.val o) st := by
    unfold b_f_law_odd_rule
    show (sSeq x1_f_law_odd_rule _) [some (.int a), none] st = _
    rw [run_step S1, run_step S2, run_step S3, run_step S4, run_step S5, run_step S6]
    exact S7
  unfold F_f_law_odd_rule
  rw [run_ret run]
  exact fin_val0 (refsLt_mono (Nat.zero_le _) _ (thing_refs o b.1)) (fun k e => by subst e; simp [thing] at b)
end Lw
namespace Lw
open PySem PySem.Spec PyProof.Rows L2 VI
def ascB (z : Str) : Bool := z.cps.toList.all fun c => decide (c < 128)
mutual
/-- what the law hands in -/
def few : D → Bool
  | .non => true
  | .bl _ => true
  | .int i => decide (0 ≤ i) && decide (i ≤ 9)
  | .str z => ascB z
  | .tup ds => fews ds
  | .lst ds => fews ds
  | .dic kvs => decide (kvs = [] ∨ kvs = [(.str "p", .tup [])] ∨ kvs = [(.str "p", .int 1)])
  | _ => false
def fews : List D → Bool
  | [] => true
  | d :: ds => few d && fews ds
end
mutual
/-- how much there is of it -/
def wt : D → Nat
  | .str z => z.length + 1
  | .tup ds => wts ds + 1
  | .lst ds => wts ds + 1
  | .dic _ => 2
  | _ => 1
def wts : List D → Nat
  | [] => 0
  | d :: ds => wt d + wts ds
end
mutual
def dp : D → Nat
  | .tup ds => dps ds + 1
  | .lst ds => dps ds + 1
  | .dic _ => 2
  | _ => 0
def dps : List D → Nat
  | [] => 0
  | d :: ds => max (dp d) (dps ds)
end
def ln : D → Nat
  | .tup ds => ds.length
  | .lst ds => ds.length
  | _ => 0
theorem fews_mem {ds : List D} : fews ds = true ↔ ∀ d ∈ ds, few d = true := by
  induction ds with
  | nil => simp [fews]
  | cons d ds ih => simp [fews, ih]
theorem wt_pos (d : D) : 1 ≤ wt d := by cases d <;> simp [wt]
theorem wts_len : ∀ ds : List D, ds.length ≤ wts ds
  | [] => by simp
  | d :: ds => by
    have := wt_pos d
    have := wts_len ds
    simp only [wts, List.length_cons]; omega
theorem wts_app (a b : List D) : wts (a ++ b) = wts a + wts b := by
  induction a with
  | nil => simp [wts]
  | cons d a ih => simp only [List.cons_append, wts, ih]; omega
theorem wts_mem {d : D} {ds : List D} (h : d ∈ ds) : wt d ≤ wts ds := by
  induction ds with
  | nil => cases h
  | cons e ds ih =>
    simp only [wts]
    rcases List.mem_cons.mp h with rfl | h
    · omega
    · have := ih h; omega
theorem dps_mem {n : Nat} {ds : List D} : dps ds ≤ n ↔ ∀ d ∈ ds, dp d ≤ n := by
  induction ds with
  | nil => simp [dps]
  | cons d ds ih =>
    simp only [dps, List.mem_cons, forall_eq_or_imp, ← ih]; omega
mutual
theorem few_thing : ∀ d : D, few d = true → wt d ≤ 20000 → thing d = true
  | .non, _, _ => rfl
  | .bl _, _, _ => rfl
  | .int _, _, _ => rfl
  | .str z, _, h => by simp only [wt] at h; simp only [thing, decide_eq_true_eq]; omega
  | .tup ds, h, w => by
    simp only [few] at h
    simp only [wt] at w
    have := wts_len ds
    simp only [thing, Bool.and_eq_true, decide_eq_true_eq]
    exact ⟨by omega, fews_things ds h (by omega)⟩
  | .lst ds, h, w => by
    simp only [few] at h
    simp only [wt] at w
    have := wts_len ds
    simp only [thing, Bool.and_eq_true, decide_eq_true_eq]
    exact ⟨by omega, fews_things ds h (by omega)⟩
  | .dic kvs, h, _ => by
    simp only [few, decide_eq_true_eq] at h
    rcases h with rfl | rfl | rfl <;> rfl
  | .ref _, h, _ => by simp [few] at h
  | .ty _, h, _ => by simp [few] at h
  | .cl _, h, _ => by simp [few] at h
  | .obj _ _, h, _ => by simp [few] at h
theorem fews_things : ∀ ds : List D, fews ds = true → wts ds ≤ 20000 → things ds = true
  | [], _, _ => rfl
  | d :: ds, h, w => by
    simp only [fews, Bool.and_eq_true] at h
    simp only [wts] at w
    simp only [things, Bool.and_eq_true]
    exact ⟨few_thing d h.1 (by omega), fews_things ds h.2 (by omega)⟩
end
theorem fmt_list : ∀ ts : List Str, (listText ts).length ≤ piled ts + 2
  | [] => by rw [listText_nil]; decide +kernel
  | t :: r => by
    have h := textFrom_length_pos r 1 (("[" : Str) ++ (if (0 : Nat) > 0 then ", " else "" : String) ++ t) (Nat.succ_pos 0)
    have e : (("[" : Str) ++ (if (0 : Nat) > 0 then ", " else "" : String) ++ t).length = 1 + t.length := by
      rw [strLen_append, strLen_append]; rfl
    have e2 : (("]" : String) : Str).length = 1 := rfl
    have u : listText (t :: r) = textFrom 1 (("[" : Str) ++ (if (0 : Nat) > 0 then ", " else "" : String) ++ t) r ++ "]" := rfl
    rw [u, strLen_append, h, e, e2, piled_cons]
    omega
theorem int_shown {i : Int} (h0 : 0 ≤ i) (h1 : i ≤ 9) : (PyData.int i).shown.length ≤ 5 := by
  have : ∀ k : Nat, k ≤ 9 → (PyData.int (k : Int)).shown.length ≤ 5 := by decide +kernel
  have h := this i.toNat (by omega)
  rwa [show ((i.toNat : Nat) : Int) = i by omega] at h
mutual
theorem few_py : ∀ d : D, few d = true → isPyX d = true ∧ (toPyX d).showable = true ∧ (toPyX d).depth ≤ dp d ∧ (toPyX d).shown.length + 2 ≤ 10 * wt d
  | .non, _ => by refine ⟨rfl, rfl, by simp [toPyX, PyData.depth], ?_⟩; simp only [toPyX, PyData.shown, wt]; decide +kernel
  | .bl b, _ => by refine ⟨rfl, rfl, by simp [toPyX, PyData.depth], ?_⟩; simp only [toPyX, PyData.shown, wt]; cases b <;> decide +kernel
  | .int i, h => by
    simp only [few, Bool.and_eq_true, decide_eq_true_eq] at h
    have := int_shown h.1 h.2
    refine ⟨rfl, ?_, by simp [toPyX, PyData.depth], by simp only [toPyX, wt]; omega⟩
    simp only [toPyX, PyData.showable, decide_eq_true_eq]
    have : i.natAbs.log2 ≤ i.natAbs := Nat.log2_le_self _
    omega
  | .str z, h => by
    simp only [few, ascB, List.all_eq_true, decide_eq_true_eq] at h
    have := PySem.StrLaws.reprText_len z fun c hc => by have := h c hc; omega
    refine ⟨rfl, rfl, by simp [toPyX, PyData.depth], ?_⟩
    simp only [toPyX, PyData.shown, wt]; omega
  | .tup ds, h => by
    simp only [few] at h
    obtain ⟨a, b, c, d⟩ := fews_py ds h
    refine ⟨by simpa [isPyX] using a, by simpa [toPyX, PyData.showable] using b, by simp only [toPyX, PyData.depth, dp]; omega, ?_⟩
    have := fmt_text (PyData.shownAll (toPyXs ds))
    simp only [toPyX, PyData.shown, wt]; omega
  | .lst ds, h => by
    simp only [few] at h
    obtain ⟨a, b, c, d⟩ := fews_py ds h
    refine ⟨by simpa [isPyX] using a, by simpa [toPyX, PyData.showable] using b, by simp only [toPyX, PyData.depth, dp]; omega, ?_⟩
    have := fmt_list (PyData.shownAll (toPyXs ds))
    simp only [toPyX, PyData.shown, wt]; omega
  | .dic kvs, h => by
    simp only [few, decide_eq_true_eq] at h
    rcases h with rfl | rfl | rfl
    · refine ⟨rfl, rfl, by simp [toPyX, toPyXk, PyData.depth, PyData.depthKv, dp], ?_⟩; simp only [toPyX, toPyXk, PyData.shown, wt, PyData.shownKv]; decide +kernel
    · refine ⟨rfl, rfl, by simp [toPyX, toPyXs, toPyXk, PyData.depth, PyData.depthAll, PyData.depthKv, dp], ?_⟩; simp only [toPyX, toPyXs, toPyXk, PyData.shown, PyData.shownAll, wt, PyData.shownKv]; decide +kernel
    · refine ⟨rfl, by decide, by simp [toPyX, toPyXk, PyData.depth, PyData.depthKv, dp], ?_⟩; simp only [toPyX, toPyXk, PyData.shown, wt, PyData.shownKv]; decide +kernel
  | .ref _, h => by simp [few] at h
  | .ty _, h => by simp [few] at h
  | .cl _, h => by simp [few] at h
  | .obj _ _, h => by simp [few] at h
theorem fews_py : ∀ ds : List D, fews ds = true → isPyXs ds = true ∧ PyData.showableAll (toPyXs ds) = true ∧ PyData.depthAll (toPyXs ds) ≤ dps ds ∧ piled (PyData.shownAll (toPyXs ds)) ≤ 10 * wts ds
  | [], _ => ⟨rfl, rfl, by simp [toPyXs, PyData.depthAll], by simp [toPyXs, PyData.shownAll, piled]⟩
  | d :: ds, h => by
    simp only [fews, Bool.and_eq_true] at h
    obtain ⟨a, b, c, e⟩ := few_py d h.1
    obtain ⟨a2, b2, c2, e2⟩ := fews_py ds h.2
    refine ⟨by simp [isPyXs, a, a2], by simp [toPyXs, PyData.showableAll, b, b2], by simp only [toPyXs, PyData.depthAll, dps]; omega, ?_⟩
    simp only [toPyXs, PyData.shownAll, piled_cons, wts]; omega
end
theorem repr_few {v d : D} {st : Store} (u : unrefX v st = d) (h : few d = true) (w : wt d ≤ 9000) (p : dp d ≤ 50) : fReprX [v] st = .ok (.val (.str (toPyX d).shown)) st := by
  obtain ⟨a, b, c, e⟩ := few_py d h
  have q : isPyX (unrefX v st) = true ∧ (toPyX (unrefX v st)).showable = true ∧ (toPyX (unrefX v st)).depth ≤ 60 ∧ (toPyX (unrefX v st)).shown.length ≤ 100000 := by
    rw [u]; exact ⟨a, b, by omega, by omega⟩
  unfold fReprX
  simp only
  rw [if_pos q, u]
end Lw
namespace Lw
open PySem PySem.Spec PyProof.Rows L2 VI
def nol1 : List D := [.non, .int 5, .str "", .str "p", .dic [], dictQ, .bl true, .lst [], .tup [], .lst [.tup []], .lst [.lst []]]
def nol2 : List D := [.lst [.tup [.str "p", .tup []], .non]]
def nols : List D := nol1 ++ nol2
/-- neither a list nor a tuple, or one of things that are no rules -/
def noRules (d : D) : Bool := match seqD d with
  | none => true
  | some ds => decide (ds.length ≤ 306) && things ds && !rulesB ds
theorem nols_bad : nols.all (fun d => thing d && few d && decide (wt d ≤ 100) && decide (dp d ≤ 5) && noRules d) = true := by decide +kernel
theorem odds_few : odds.all (fun d => few d && decide (wt d ≤ 100) && decide (dp d ≤ 5)) = true := by decide +kernel
theorem nols_len : nols.length = 12 := by decide +kernel
theorem no_list_eq (a : Int) (st : Store) : ∃ o, o ∈ nols ∧ F_f_law_no_list [.int a] st = .ok (.val o) st := by
  obtain ⟨i, hi⟩ : ∃ i, i = a % 12 := ⟨_, rfl⟩
  obtain ⟨o, ho, hm⟩ := atI_in (xs := nols) (i := i) (by omega) (by rw [nols_len]; omega)
  have b := List.all_eq_true.mp nols_bad o hm
  simp only [Bool.and_eq_true] at b
  have th : thing o = true := b.1.1.1.1
  have S1 : x1_f_law_no_list [some (.int a), none] st = .nx [some (.int a), some (.lst nol1)] st := by
    unfold x1_f_law_no_list nol1
    simp [dq_eq]
  have S2 : x2_f_law_no_list [some (.int a), some (.lst nol1)] st = .ret (.val o) st := by
    have cat : catOk nol1 nol2 = true := by decide
    unfold nols at ho
    unfold x2_f_law_no_list
    generalize nol1 = V at *
    unfold nol2 at *
    simp [cat, fMod, ← hi, ho]
  refine ⟨o, hm, ?_⟩
  have run : b_f_law_no_list ([D.int a].map some ++ List.replicate (2 - [D.int a].length) none) st = .ret (.val o) st := by
    unfold b_f_law_no_list
    show (sSeq x1_f_law_no_list _) [some (.int a), none] st = _
    rw [run_step S1]
    exact S2
  unfold F_f_law_no_list
  rw [run_ret run]
  exact fin_val0 (refsLt_mono (Nat.zero_le _) _ (thing_refs o th)) (fun k e => by subst e; simp [thing] at th)
theorem lets_asc {z : Str} (h : lets z = true) : ascB z = true := by
  have lo : ∀ c ∈ letters.cps.toList, c < 128 := by decide +kernel
  unfold lets at h
  unfold ascB
  rw [List.all_eq_true] at *
  intro c hc
  have := h c hc
  unfold strIn at this
  rw [PySem.StrLaws.found_one, decide_eq_true_eq] at this
  exact decide_eq_true (lo c this)
theorem name_few {x : Str} (h : nameB (.str x) = true) : ascB x = true ∧ x.length ≤ 8 := by
  simp only [nameB, Bool.and_eq_true, decide_eq_true_eq] at h
  exact ⟨lets_asc h.2, by omega⟩
theorem names_few {ss : List Str} (h : ∀ x ∈ ss, nameB (.str x) = true) : fews (ss.map D.str) = true ∧ wts (ss.map D.str) ≤ 9 * ss.length ∧ dps (ss.map D.str) = 0 := by
  induction ss with
  | nil => exact ⟨rfl, by simp [wts], rfl⟩
  | cons x ss ih =>
    obtain ⟨a, b, c⟩ := ih fun y hy => h y (List.mem_cons_of_mem _ hy)
    obtain ⟨h1, h2⟩ := name_few (h x (by simp))
    refine ⟨by simpa [few, fews, h1] using a, by simp only [List.map_cons, wts, wt, List.length_cons]; omega, by simp [dps, dp, c]⟩
theorem rule_few {r : Str × List Str} (h : ruleB (ruleD r) = true) : few (ruleD r) = true ∧ wt (ruleD r) ≤ 83 ∧ dp (ruleD r) ≤ 2 := by
  obtain ⟨h1, h2, h3⟩ := rule_parts h
  obtain ⟨f1, f2, f3⟩ := names_few h3
  obtain ⟨n1, n2⟩ := name_few h1
  refine ⟨by simp only [ruleD, few, fews, n1, f1]; rfl, by simp only [ruleD, wt, wts]; omega, by simp only [ruleD, dp, dps, f3]; omega⟩
theorem few_all {ds : List D} (h : ∀ d ∈ ds, few d = true ∧ wt d ≤ 100 ∧ dp d ≤ 5) : few (.lst ds) = true ∧ wt (.lst ds) ≤ 100 * ds.length + 1 ∧ dp (.lst ds) ≤ 6 := by
  have g : fews ds = true ∧ wts ds ≤ 100 * ds.length ∧ dps ds ≤ 5 := by
    induction ds with
    | nil => exact ⟨rfl, by simp [wts], by simp [dps]⟩
    | cons d ds ih =>
      obtain ⟨a, b, c⟩ := ih fun y hy => h y (List.mem_cons_of_mem _ hy)
      obtain ⟨h1, h2, h3⟩ := h d (by simp)
      exact ⟨by simp [fews, h1, a], by simp only [wts, List.length_cons]; omega, by simp only [dps]; omega⟩
  exact ⟨by simpa only [few] using g.1, by simp only [wt]; omega, by simp only [dp]; omega⟩
end Lw
namespace Lw
open PySem PySem.Spec PyProof.Rows L2 VI
theorem eqD_same (d : D) : eqD d d = true := PySem.SeqAt.eqv_refl_plain _ (toPy_plain d)
theorem fEq_same {neg : Bool} {d : D} {st : Store} (h : isPy d = true) (hr : ∀ n, d ≠ .ref n) (hd : (toPy d).depth ≤ 60) : fEq neg d d st = .ok (.val (.bl (!neg))) st := by
  have u : unref d st = d := by cases d <;> first | rfl | exact absurd rfl (hr _)
  have s : shallow d d = true := by simp only [shallow, decide_eq_true_eq]; omega
  unfold fEq
  rw [u, h, s, eqD_same]
  cases neg <;> rfl
theorem depthAll_le' {B : Nat} {ds : List PyData} (h : ∀ d ∈ ds, d.depth ≤ B) : PyData.depthAll ds ≤ B := by
  induction ds with
  | nil => simp [PyData.depthAll]
  | cons d ds ih =>
    have h1 := h d List.mem_cons_self
    have h2 := ih fun x hx => h x (List.mem_cons_of_mem _ hx)
    simp only [PyData.depthAll]
    omega
theorem rules_same (neg : Bool) (rs : RS) (st : Store) : fEq neg (.tup (rs.map ruleD)) (.tup (rs.map ruleD)) st = .ok (.val (.bl (!neg))) st := by
  refine fEq_same ?_ (fun _ => nofun) ?_
  · simp only [isPy]; rw [isPys_all]; intro d hd; obtain ⟨x, _, rfl⟩ := List.mem_map.mp hd
    simp [ruleD, isPy, isPys, strs_isPys]
  · have : PyData.depthAll (toPys (rs.map ruleD)) ≤ 3 := by
      rw [toPys_map]
      refine depthAll_le' fun d hd => ?_
      obtain ⟨x, hx, rfl⟩ := List.mem_map.mp hd
      obtain ⟨r, _, rfl⟩ := List.mem_map.mp hx
      simp only [ruleD, toPy, toPys, PyData.depth, PyData.depthAll, strs_pydepth]; omega
    simp only [toPy, PyData.depth]; omega
theorem cutD_take {α : Type} (xs : List α) (k : Nat) : VI.cutD xs none (some (k : Int)) = xs.take k := by
  unfold VI.cutD
  rw [HT.sIx_none, HT.sIx_nat]
  simp only [List.drop_zero, Nat.sub_zero]
  by_cases h : k ≤ xs.length
  · rw [Nat.min_eq_left h]
  · rw [Nat.min_eq_right (by omega), List.take_length, List.take_of_length_le (by omega)]
theorem cutD_drop {α : Type} (xs : List α) (k : Nat) : VI.cutD xs (some (k : Int)) none = xs.drop k := by
  unfold VI.cutD
  rw [HT.sIx_none, HT.sIx_nat]
  by_cases h : k ≤ xs.length
  · rw [Nat.min_eq_left h, List.take_of_length_le (by simp)]
  · rw [Nat.min_eq_right (by omega), List.drop_eq_nil_of_le (Nat.le_refl _), List.drop_eq_nil_of_le (by omega)]; simp
/-- refused, and told by repr -/
def Bad (d : D) : Prop := few d = true ∧ wt d ≤ 9000 ∧ dp d ≤ 50 ∧ ∀ st : Store, F_f_law_made [d] st = .ok (.val (.str "NoGrammar")) st
/-- a list of rules with one thing more -/
def withOne (rs : RS) (k : Nat) (o : D) : D := .lst ((rs.map ruleD).take k ++ [o] ++ (rs.map ruleD).drop k)
theorem with_few {rs : RS} {k : Nat} {o : D} (ok : okRS rs) (hl : rs.length ≤ 9) (ho : few o = true ∧ wt o ≤ 100 ∧ dp o ≤ 5) : few (withOne rs k o) = true ∧ wt (withOne rs k o) ≤ 9000 ∧ dp (withOne rs k o) ≤ 50 := by
  obtain ⟨a, b, c⟩ := few_all (ds := (rs.map ruleD).take k ++ [o] ++ (rs.map ruleD).drop k) fun d hd => by
    have go : ∀ d ∈ rs.map ruleD, few d = true ∧ wt d ≤ 100 ∧ dp d ≤ 5 := fun d hd => by
      obtain ⟨r, hr, rfl⟩ := List.mem_map.mp hd
      obtain ⟨x, y, z⟩ := rule_few (ok.1 r hr)
      exact ⟨x, by omega, by omega⟩
    rcases List.mem_append.mp hd with hd | hd
    · rcases List.mem_append.mp hd with hd | hd
      · exact go d (List.mem_of_mem_take hd)
      · rw [List.mem_singleton.mp hd]; exact ho
    · exact go d (List.mem_of_mem_drop hd)
  have l : ((rs.map ruleD).take k ++ [o] ++ (rs.map ruleD).drop k).length ≤ 10 + 9 := by simp; omega
  exact ⟨a, by unfold withOne; omega, by unfold withOne; omega⟩
theorem with_len (rs : RS) (k : Nat) (o : D) (hl : rs.length ≤ 9) : ((rs.map ruleD).take k ++ [o] ++ (rs.map ruleD).drop k).length ≤ 306 := by simp; omega
theorem with_thing {rs : RS} {k : Nat} {o : D} (ok : okRS rs) (ho : thing o = true) : ∀ x ∈ (rs.map ruleD).take k ++ [o] ++ (rs.map ruleD).drop k, thing x = true := fun x hx => by
  have go : ∀ d ∈ rs.map ruleD, thing d = true := fun d hd => by
    obtain ⟨r, hr, rfl⟩ := List.mem_map.mp hd
    exact rule_thing (ok.1 r hr)
  rcases List.mem_append.mp hx with hx | hx
  · rcases List.mem_append.mp hx with hx | hx
    · exact go x (List.mem_of_mem_take hx)
    · rw [List.mem_singleton.mp hx]; exact ho
  · exact go x (List.mem_of_mem_drop hx)
theorem bad_odd {rs : RS} {k : Nat} {o : D} (ok : okRS rs) (hl : rs.length ≤ 9) (hm : o ∈ odds) : Bad (withOne rs k o) := by
  have b := List.all_eq_true.mp odds_bad o hm
  have f := List.all_eq_true.mp odds_few o hm
  simp only [Bool.and_eq_true, decide_eq_true_eq, Bool.not_eq_true'] at b f
  obtain ⟨x, y, z⟩ := with_few (k := k) ok hl ⟨f.1.1, f.1.2, f.2⟩
  refine ⟨x, y, z, fun st => made_none (.inl rfl) (with_thing ok b.1) (with_len rs k o hl) fun q => ?_⟩
  have := q.1
  unfold rulesB at this
  rw [Bool.and_eq_true, List.all_eq_true] at this
  have := this.2 o (by simp)
  rw [b.2] at this
  cases this
theorem bad_again {rs : RS} {k : Nat} {r : Str × List Str} (ok : okRS rs) (hl : rs.length ≤ 9) (hr : r ∈ rs) : Bad (withOne rs k (ruleD r)) := by
  have g := ok.1 r hr
  obtain ⟨f1, f2, f3⟩ := rule_few g
  obtain ⟨x, y, z⟩ := with_few (k := k) ok hl ⟨f1, by omega, by omega⟩
  refine ⟨x, y, z, fun st => made_none (.inl rfl) (with_thing ok (rule_thing g)) (with_len rs k _ hl) fun q => ?_⟩
  have nd := q.2
  have m : ruleD r ∈ rs.map ruleD := List.mem_map.mpr ⟨r, hr, rfl⟩
  rw [← List.take_append_drop k (rs.map ruleD)] at m
  rw [List.append_assoc, List.nodup_append] at nd
  rcases List.mem_append.mp m with m | m
  · exact nd.2.2 _ m _ (by simp) rfl
  · have := nd.2.1
    rw [List.singleton_append, List.nodup_cons] at this
    exact this.1 m
theorem bad_none {o : D} (hm : o ∈ nols) : Bad o := by
  have b := List.all_eq_true.mp nols_bad o hm
  simp only [Bool.and_eq_true, decide_eq_true_eq] at b
  obtain ⟨⟨⟨⟨b1, b2⟩, b3⟩, b4⟩, b5⟩ := b
  refine ⟨b2, by omega, by omega, fun st => ?_⟩
  unfold noRules at b5
  cases hs : seqD o with
  | none => exact made_other b1 hs
  | some ds =>
    rw [hs] at b5
    simp only [Bool.and_eq_true, decide_eq_true_eq, Bool.not_eq_true'] at b5
    refine made_none (seq_arg hs st) (things_mem.mp b5.1.2) b5.1.1 fun q => ?_
    rw [b5.2] at q
    cases q.1
end Lw
namespace Lw
open PySem PySem.Spec PyProof.Rows L2 VI
theorem repr_bad {o : D} (h : Bad o) (st : Store) : ∃ z : Str, fReprX [o] st = .ok (.val (.str z)) st := by
  have u : unrefX o st = o := by
    have := h.1
    cases o <;> first | rfl | simp [few] at this
  exact ⟨_, repr_few u h.1 h.2.1 h.2.2.1⟩
theorem right_eq (MR : ∀ (a : Int) (st : Store), 0 ≤ a → a < 1000000 → F_f_law_many_right [.int a] st = .ok (.val (.bl true)) st) (c : Int) (st : Store) : F_f_law_right [.int c] st = .ok (.val (.bl true)) st := by
  obtain ⟨rs, ok, hl, er⟩ := rules_eq c st
  have dr := draws_eq (a := mixI c 3) (sizes := [5, 20, 1000000]) (st := st) (by simp) (by simp)
  obtain ⟨way, hw⟩ : ∃ w, w = mixI c 3 % 5 := ⟨_, rfl⟩
  obtain ⟨at0, ha⟩ : ∃ w, w = mixI c 3 / 5 % 20 := ⟨_, rfl⟩
  obtain ⟨more, hm⟩ : ∃ w, w = mixI c 3 / 5 / 20 % 1000000 := ⟨_, rfl⟩
  have dg : digs (mixI c 3) [5, 20, 1000000] = [way, at0, more] := by rw [hw, ha, hm]; rfl
  rw [dg] at dr
  simp only [List.map_cons, List.map_nil] at dr
  have l1 := ok.2.2.1
  obtain ⟨k, hk⟩ : ∃ k : Nat, (k : Int) = at0 % ((rs.length : Int) + 1) := ⟨(at0 % ((rs.length : Int) + 1)).toNat, by have := Int.emod_nonneg at0 (show (rs.length : Int) + 1 ≠ 0 by omega); omega⟩
  obtain ⟨j, hj⟩ : ∃ j : Nat, (j : Int) = more % (rs.length : Int) := ⟨(more % (rs.length : Int)).toNat, by have := Int.emod_nonneg more (show (rs.length : Int) ≠ 0 by omega); omega⟩
  have jl : j < rs.length := by have := Int.emod_lt_of_pos more (show 0 < (rs.length : Int) by omega); omega
  obtain ⟨r, hr⟩ : ∃ r, rs[j]? = some r := ⟨rs[j], List.getElem?_eq_getElem jl⟩
  have hrm := List.mem_of_getElem? hr
  obtain ⟨o, _, _, om, eo⟩ := odd_eq more st
  obtain ⟨q, qm, eq⟩ := no_list_eq more st
  have md := made_rules (v := .lst (rs.map ruleD)) (st := st) ok (.inl rfl)
  have same := rules_same true rs st
  have t1 : VI.cutD (rs.map ruleD) none (some (k : Int)) = (rs.map ruleD).take k := cutD_take _ k
  have t2 : VI.cutD (rs.map ruleD) (some (k : Int)) none = (rs.map ruleD).drop k := cutD_drop _ k
  have RL : (rs.map ruleD).length = rs.length := by simp
  have fl : fLenD [.lst (rs.map ruleD)] st = .ok (.val (.int (rs.length : Int))) st := by
    show Res.ok (Wv.val (.int ((rs.map ruleD).length : Nat))) st = _
    rw [RL]
  have aj : atI (rs.map ruleD) (j : Int) = some (ruleD r) := by
    unfold atI ixN
    rw [if_pos (by omega), if_pos (by rw [RL]; omega)]
    simp [hr]
  have S1 : x1_f_law_right [some (.int c), none, none, none, none, none, none, none] st = .nx [some (.int c), some (.lst (rs.map ruleD)), none, none, none, none, none, none] st := by
    unfold x1_f_law_right; simp [er]
  have S2 : x2_f_law_right [some (.int c), some (.lst (rs.map ruleD)), none, none, none, none, none, none] st = .nx [some (.int c), some (.lst (rs.map ruleD)), some (.int way), some (.int at0), some (.int more), none, none, none] st := by
    have cm := call_mix (env := [some (.int c), some (.lst (rs.map ruleD)), none, none, none, none, none, none]) (S := st) (m := evC (.int 3)) (a := c) (k := 3) rfl rfl
    have fp : fPow (.int 10) (.int 6) st = .ok (.val (.int 1000000)) st := by simp [fPow]
    have call : evCall 2 F_f_law_draws (acons (evCall 2 F_f_law_mix (acons (evVar 0) (acons (evC (.int 3)) (anil)))) (acons (evLst (acons (evC (.int 5)) (acons (evC (.int 20)) (acons (ev2 fPow (evC (.int 10)) (evC (.int 6))) (anil))))) (anil))) [some (.int c), some (.lst (rs.map ruleD)), none, none, none, none, none, none] st = .ok (.new (.lst [.int way, .int at0, .int more])) st := by
      rw [evCall_s, acons_s, cm]
      simp [fp, dr]
    unfold x2_f_law_right sUn
    rw [call]
    rfl
  have S3 : x3_f_law_right [some (.int c), some (.lst (rs.map ruleD)), some (.int way), some (.int at0), some (.int more), none, none, none] st = .nx [some (.int c), some (.lst (rs.map ruleD)), some (.int way), some (.int (k : Int)), some (.int more), none, none, none] st := by
    unfold x3_f_law_right
    generalize rs.map ruleD = R at *
    have p : 0 < (rs.length : Int) + 1 := by omega
    have p' : 0 < (R.length : Int) + 1 := by omega
    have hk' : at0 % ((R.length : Int) + 1) = (k : Int) := by rw [RL]; exact hk.symm
    generalize (R.length : Int) = n at *
    simp [fMod, p', hk', RL, hk]
  have S4 : x4_f_law_right [some (.int c), some (.lst (rs.map ruleD)), some (.int way), some (.int (k : Int)), some (.int more), none, none, none] st = .nx [some (.int c), some (.lst (rs.map ruleD)), some (.int way), some (.int (k : Int)), some (.int more), none, none, none] st := by
    unfold x4_f_law_right x5_f_law_right
    generalize rs.map ruleD = R at *
    simp [md, same]
  have cat : ∀ a b : List D, a.length ≤ 1000 → b.length ≤ 1000 → catOk a b = true := fun a b h1 h2 => by simp [catOk]; omega
  have withE : ∀ x : D, ∃ d, d = withOne rs k x := fun x => ⟨_, rfl⟩
  have S6 : x6_f_law_right [some (.int c), some (.lst (rs.map ruleD)), some (.int way), some (.int (k : Int)), some (.int more), none, none, none] st = .nx [some (.int c), some (.lst (rs.map ruleD)), some (.int way), some (.int (k : Int)), some (.int more), some (withOne rs k o), none, none] st := by
    have q1 := cat ((rs.map ruleD).take k) [o] (by simp; omega) (by simp)
    have q2 := cat ((rs.map ruleD).take k ++ [o]) ((rs.map ruleD).drop k) (by simp; omega) (by simp; omega)
    unfold x6_f_law_right withOne
    generalize (rs.map ruleD).take k = A at *
    generalize (rs.map ruleD).drop k = B at *
    generalize rs.map ruleD = R at *
    simp [t1, t2, eo, q1, q2]
  have S7 : ∃ d a6, (d = withOne rs k o ∨ d = withOne rs k (ruleD r)) ∧ x7_f_law_right [some (.int c), some (.lst (rs.map ruleD)), some (.int way), some (.int (k : Int)), some (.int more), some (withOne rs k o), none, none] st = .nx [some (.int c), some (.lst (rs.map ruleD)), some (.int way), some (.int (k : Int)), some (.int more), some d, a6, none] st := by
    by_cases h : way = 3
    · refine ⟨withOne rs k (ruleD r), some (ruleD r), .inr rfl, ?_⟩
      have q1 := cat ((rs.map ruleD).take k) [ruleD r] (by simp; omega) (by simp)
      have q2 := cat ((rs.map ruleD).take k ++ [ruleD r]) ((rs.map ruleD).drop k) (by simp; omega) (by simp; omega)
      have p : 0 < (rs.length : Int) := by omega
      unfold x7_f_law_right x8_f_law_right x9_f_law_right withOne
      generalize (rs.map ruleD).take k = A at *
      generalize (rs.map ruleD).drop k = B at *
      generalize rs.map ruleD = R at *
      have p' : 0 < R.length := by omega
      have hj' : more % (R.length : Int) = (j : Int) := by rw [RL]; exact hj.symm
      simp [h, fMod, p', hj', aj, t1, t2, q1, q2]
    · refine ⟨withOne rs k o, none, .inl rfl, ?_⟩
      unfold x7_f_law_right
      generalize rs.map ruleD = R at *
      generalize withOne rs k o = W at *
      simp [h]
  obtain ⟨d, a6, hd, S7⟩ := S7
  have bd : Bad d := by
    rcases hd with rfl | rfl
    · exact bad_odd ok hl om
    · exact bad_again ok hl hrm
  have S10 : ∃ e, Bad e ∧ x10_f_law_right [some (.int c), some (.lst (rs.map ruleD)), some (.int way), some (.int (k : Int)), some (.int more), some d, a6, none] st = .nx [some (.int c), some (.lst (rs.map ruleD)), some (.int way), some (.int (k : Int)), some (.int more), some e, a6, none] st := by
    by_cases h : way = 4
    · refine ⟨q, bad_none qm, ?_⟩
      unfold x10_f_law_right x11_f_law_right
      generalize rs.map ruleD = R at *
      simp [h, eq]
    · refine ⟨d, bd, ?_⟩
      unfold x10_f_law_right
      generalize rs.map ruleD = R at *
      simp [h]
  obtain ⟨e, be, S10⟩ := S10
  obtain ⟨z, rz⟩ := repr_bad be st
  have me := be.2.2.2 st
  generalize rs.map ruleD = R at *
  have S12 : x12_f_law_right [some (.int c), some (.lst R), some (.int way), some (.int (k : Int)), some (.int more), some e, a6, none] st = .nx [some (.int c), some (.lst R), some (.int way), some (.int (k : Int)), some (.int more), some e, a6, some (.str z)] st := by
    unfold x12_f_law_right; simp [rz]
  have S13 : x13_f_law_right [some (.int c), some (.lst R), some (.int way), some (.int (k : Int)), some (.int more), some e, a6, some (.str z)] st = .nx [some (.int c), some (.lst R), some (.int way), some (.int (k : Int)), some (.int more), some e, a6, some (.str z)] st := by
    unfold x13_f_law_right x14_f_law_right; simp [rz, me]
  have mr := MR more st (by omega) (by omega)
  have S15 : x15_f_law_right [some (.int c), some (.lst R), some (.int way), some (.int (k : Int)), some (.int more), some e, a6, some (.str z)] st = .ret (.val (.bl true)) st := by
    unfold x15_f_law_right
    by_cases h : 0 < way <;> simp [h, mr]
  have run : b_f_law_right ([D.int c].map some ++ List.replicate (8 - [D.int c].length) none) st = .ret (.val (.bl true)) st := by
    unfold b_f_law_right
    show (sSeq x1_f_law_right _) [some (.int c), none, none, none, none, none, none, none] st = _
    rw [run_step S1, run_step S2, run_step S3, run_step S4, run_step S6, run_step S7, run_step S10, run_step S12, run_step S13]
    exact S15
  unfold F_f_law_right
  rw [run_ret run]
  exact fin_val0 (by simp [refsLt]) (fun _ => nofun)
end Lw
namespace Lw
open PySem PySem.Spec PyProof.Rows L2 VI
/-- the rule of a number -/
def mrule (k : Nat) : Str × List Str := ("p" ++ ⟨#[lt ((k : Int) / 26)]⟩, [⟨#[lt ((k : Int) % 26)]⟩])
def mrules (n : Nat) : RS := (List.range n).map mrule
theorem mrules_snoc (n : Nat) : mrules (n + 1) = mrules n ++ [mrule n] := by simp [mrules, List.range_succ]
theorem mrule_good (k : Nat) : ruleB (ruleD (mrule k)) = true := by
  have hp : nameG ("p" ++ (⟨#[lt ((k : Int) / 26)]⟩ : Str)) := by
    have lp : ("p" : Str).length = 1 := by decide
    have l1 : (⟨#[lt ((k : Int) / 26)]⟩ : Str).length = 1 := rfl
    have pl : lets ("p" : Str) = true := by decide +kernel
    exact ⟨by rw [lets_app, pl, in_lets (lt_in _)]; rfl, by rw [PySem.strLen_append, lp, l1]; omega, by rw [PySem.strLen_append, lp, l1]; omega⟩
  exact rule_good hp (fun x hx => by
    rw [List.mem_singleton.mp hx]
    exact ⟨in_lets (lt_in _), by show 1 ≤ 1; omega, by show 1 ≤ 8; omega⟩) (by simp)
theorem mrules_nodup : (mrules 302).Nodup := by decide +kernel
theorem many_turn {a : Int} {k : Nat} {st : Store} {x : Option D} (hk : k < 302) : lp_f_law_many_1 [some (.int a), some (.str letters), some (.ref st.length), some (.int (k : Int))] (Sc st (mrules k)) = .nx [some (.int a), some (.str letters), some (.ref st.length), some (.int (k : Int))] (Sc st (mrules (k + 1))) := by
  have i1 := lt_ix (i := (k : Int) / 26) (by omega) (by omega) (Sc st (mrules k))
  have i2 := lt_ix (i := (k : Int) % 26) (by omega) (by omega) (Sc st (mrules k))
  have lg : (26 : Int).natAbs.log2 < 9000 := by decide
  have g : (Sc st (mrules k))[st.length]? = some (some (.lst ((mrules k).map ruleD))) := by simp [Sc]
  have w : ∀ v, (Sc st (mrules k)).set st.length v = st ++ [v] := fun v => by simp [Sc]
  have e : Sc st (mrules (k + 1)) = st ++ [some (.lst ((mrules k).map ruleD ++ [.tup [.str ("p" ++ ⟨#[lt ((k : Int) / 26)]⟩), .tup [.str ⟨#[lt ((k : Int) % 26)]⟩]]]))] := by
    rw [mrules_snoc]; simp [Sc, ruleD, mrule]
  have tl : ((mrules k).map ruleD).length < 100000 := by simp [mrules]; omega
  have lp : ("p" : Str).length = 1 := by decide
  rw [e]
  generalize Sc st (mrules k) = S at *
  generalize (mrules k).map ruleD = R at *
  have dv : fDivW (.int (k : Int)) (.int 26) S = .ok (.val (.int ((k : Int) / 26))) S := by rw [fDivW_int, if_pos ⟨by omega, lg⟩]
  have md : fMod (.int (k : Int)) (.int 26) S = .ok (.val (.int ((k : Int) % 26))) S := by simp [fMod]
  have l1 : (⟨#[lt ((k : Int) / 26)]⟩ : Str).length = 1 := rfl
  generalize lt ((k : Int) / 26) = u at *
  generalize lt ((k : Int) % 26) = v at *
  have cc : ("p" : Str).length + (⟨#[u]⟩ : Str).length ≤ 100000 := by rw [lp, l1]; omega
  have ad : fAdd (.str "p") (.str ⟨#[u]⟩) S = .ok (.val (.str ("p" ++ ⟨#[u]⟩))) S := by
    simp only [fAdd]
    rw [if_pos cc]
  have arg : acons (evTup (acons (ev2 fAdd (evC (.str "p")) (ev2 fIxD (evVar 1) (ev2 fDivW (evVar 3) (evC (.int 26))))) (acons (evTup (acons (ev2 fIxD (evVar 1) (ev2 fMod (evVar 3) (evC (.int 26)))) (anil))) (anil)))) (anil) [some (.int a), some (.str letters), some (.ref st.length), some (.int (k : Int))] S = .ok [.tup [.str ("p" ++ ⟨#[u]⟩), .tup [.str ⟨#[v]⟩]]] S := by
    simp only [acons_s, anil_s, evTup_s, ev2_s, evVar_s, evC_s, List.getElem?_cons_succ, List.getElem?_cons_zero, bind_ok, val_d, dv, md, i1, i2, ad]
    rfl
  unfold lp_f_law_many_1 x4_f_law_many
  rw [sDrop_s, evMt_s, evVar_s]
  have v2 : [some (D.int a), some (.str letters), some (.ref st.length), some (.int (k : Int))][2]? = some (some (.ref st.length)) := rfl
  rw [v2]
  simp only [bind_ok, val_d, tyD_ref, g]
  simp only [true_and, or_true, if_true]
  rw [arg]
  simp [g, tl, w]
end Lw
namespace Lw
open PySem PySem.Spec PyProof.Rows L2 VI
abbrev Em (a : Int) (n : Nat) (x : Option D) : DEnv := [some (.int a), some (.str letters), some (.ref n), x]
theorem mrules_len (n : Nat) : (mrules n).length = n := by simp [mrules]
theorem mrules_take (n : Nat) (h : n ≤ 302) : mrules n = (mrules 302).take n := by
  unfold mrules
  rw [← List.map_take, List.take_range, Nat.min_eq_left h]
theorem mrules_nd (n : Nat) (h : n ≤ 302) : (mrules n).Nodup := by
  rw [mrules_take n h]
  exact mrules_nodup.sublist (List.take_sublist _ _)
theorem mrules_good (n : Nat) : ∀ r ∈ mrules n, ruleB (ruleD r) = true := fun r h => by
  obtain ⟨k, _, rfl⟩ := List.mem_map.mp h
  exact mrule_good k
theorem many_loop {a : Int} {N : Nat} {st : Store} (hN : N ≤ 302) (e : (N : Int) = 300 + a % 3) : ∃ x, x3_f_law_many (Em a st.length none) (Sc st []) = .nx (Em a st.length x) (Sc st (mrules N)) := by
  have it : itR1 (acons (ev2 fAdd (evC (.int 300)) (ev2 fMod (evVar 0) (evC (.int 3)))) (anil)) (Em a st.length none) (Sc st []) = .ok ⟨(List.range N).map fun k : Nat => D.int (k : Int), none⟩ (Sc st []) := by
    rw [itR1_of (j := (N : Int)) (st1 := Sc st []) (by simp [fMod, ← e]) (okR_small (by omega) (by omega)), rangeD_map, Int.toNat_natCast]
  obtain ⟨env2, st2, el, x, rfl, rfl⟩ := forGo_inv (iv := ⟨(List.range N).map fun k : Nat => D.int (k : Int), none⟩) (g := gdName 3) (body := lp_f_law_many_1) rfl
    (fun i env s => ∃ x, env = Em a st.length x ∧ s = Sc st (mrules i))
    ((List.range N).map fun k : Nat => D.int (k : Int)) 0 (Em a st.length none) (Sc st []) ⟨none, rfl, rfl⟩ (fun i d env s hi hI => by
      obtain ⟨x, rfl, rfl⟩ := hI
      have hi2 : i < N := by
        have := (List.getElem?_eq_some_iff.mp hi).1
        simpa using this
      rw [List.getElem?_map, List.getElem?_range hi2] at hi
      have hd : D.int (i : Int) = d := by simpa using hi
      subst hd
      simp only [Nat.zero_add]
      exact ⟨Em a st.length (some (.int (i : Int))), _, _, by simp, .inl (many_turn (x := x) (by omega)), _, rfl, rfl⟩)
  refine ⟨x, ?_⟩
  unfold x3_f_law_many
  rw [sFor_s, it]
  simp only [sof_ok]
  rw [el]
  simp
theorem thing_m (n : Nat) : ∀ x ∈ (mrules n).map ruleD, thing x = true := fun x h => by
  obtain ⟨r, hr, rfl⟩ := List.mem_map.mp h
  exact rule_thing (mrules_good n r hr)
theorem dup_set {α : Type} {l : List α} {i j : Nat} {v : α} (hj : l[j]? = some v) (hi : i < l.length) (h : i ≠ j) : ¬ (l.set i v).Nodup := fun nd => by
  have hj2 := (List.getElem?_eq_some_iff.mp hj).1
  have a : (l.set i v)[i]? = some v := List.getElem?_set_self hi
  have b : (l.set i v)[j]? = some v := by rw [List.getElem?_set_ne h]; exact hj
  obtain ⟨h1, e1⟩ := List.getElem?_eq_some_iff.mp a
  obtain ⟨h2, e2⟩ := List.getElem?_eq_some_iff.mp b
  exact h ((List.getElem_inj nd).mp (e1.trans e2.symm))
theorem many_eq {a : Int} {st : Store} (h0 : 0 ≤ a) (h1 : a < 1000000) : ∃ R : List D, F_f_law_many [.int a] st = .ok (.new (.lst R)) st ∧ (R.length : Int) = 300 + a % 3 ∧ (∀ x ∈ R, thing x = true) ∧ (a / 3 % 3 = 0 → ∃ N : Nat, N ≤ 302 ∧ R = (mrules N).map ruleD) ∧ (a / 3 % 3 ≠ 0 → ¬ (rulesB R = true ∧ R.Nodup)) := by
  obtain ⟨N, hN⟩ : ∃ N : Nat, (N : Int) = 300 + a % 3 := ⟨(300 + a % 3).toNat, by omega⟩
  have N1 : N ≤ 302 := by omega
  have N0 : 300 ≤ N := by omega
  have S1 : x1_f_law_many [some (.int a), none, none, none] st = .nx [some (.int a), some (.str letters), none, none] st := by unfold x1_f_law_many; simp
  have S2 : x2_f_law_many [some (.int a), some (.str letters), none, none] st = .nx (Em a st.length none) (Sc st []) := by unfold x2_f_law_many Sc; simp
  obtain ⟨x, S3⟩ := many_loop (st := st) N1 hN
  have RL : ((mrules N).map ruleD).length = N := by rw [List.length_map, mrules_len]
  have th := thing_m N
  have out : ∀ R : List D, (∀ S, x5_f_law_many (Em a st.length x) (Sc st (mrules N)) = .nx (Em a st.length x) S → x7_f_law_many (Em a st.length x) S = .nx (Em a st.length x) (st ++ [some (.lst R)])) → (∃ S, x5_f_law_many (Em a st.length x) (Sc st (mrules N)) = .nx (Em a st.length x) S) → (∀ x ∈ R, thing x = true) → F_f_law_many [.int a] st = .ok (.new (.lst R)) st := fun R h7 h5 ht => by
    obtain ⟨S, h5⟩ := h5
    have run : b_f_law_many ([D.int a].map some ++ List.replicate (4 - [D.int a].length) none) st = .ret (.val (.ref st.length)) (st ++ [some (.lst R)]) := by
      unfold b_f_law_many
      show (sSeq x1_f_law_many _) [some (.int a), none, none, none] st = _
      rw [run_step S1, run_step S2, run_step S3, run_step h5, run_step (h7 S h5)]
      unfold x9_f_law_many
      simp
    unfold F_f_law_many
    rw [run_ret run]
    exact fin_ref (Nat.le_refl _) (by simp) (by
      simp only [refsLt]; rw [refsLts_all]
      exact fun d hd => refsLt_mono (Nat.zero_le _) _ (thing_refs d (ht d hd)))
  have g : (Sc st (mrules N))[st.length]? = some (some (.lst ((mrules N).map ruleD))) := by simp [Sc]
  have w : ∀ v, (Sc st (mrules N)).set st.length v = st ++ [v] := fun v => by simp [Sc]
  have l3 : (3 : Int).natAbs.log2 < 9000 := by decide
  have l9 : (9 : Int).natAbs.log2 < 9000 := by decide
  have l11 : (11 : Int).natAbs.log2 < 9000 := by decide
  have d3 : ∀ S, fDivW (.int a) (.int 3) S = .ok (.val (.int (a / 3))) S := fun S => by rw [fDivW_int, if_pos ⟨by omega, l3⟩]
  have d9 : ∀ S, fDivW (.int a) (.int 9) S = .ok (.val (.int (a / 9))) S := fun S => by rw [fDivW_int, if_pos ⟨by omega, l9⟩]
  have d11 : ∀ S, fDivW (.int a) (.int 11) S = .ok (.val (.int (a / 11))) S := fun S => by rw [fDivW_int, if_pos ⟨by omega, l11⟩]
  obtain ⟨i, hi⟩ : ∃ i : Nat, (i : Int) = a / 9 % 300 := ⟨(a / 9 % 300).toNat, by omega⟩
  have ix : ixN ((mrules N).map ruleD).length (i : Int) = some i := by rw [RL]; unfold ixN; simp <;> omega
  have test5 : ∀ S, tvB (ev2 (fEq false) (ev2 fMod (ev2 fDivW (evVar 0) (evC (.int 3))) (evC (.int 3))) (evC (.int 1))) (Em a st.length x) S = .ok (decide (a / 3 % 3 = 1)) S := fun S => by
    simp [d3, fMod]
    by_cases h : a / 3 % 3 = 1 <;> simp [h]
  have test7 : ∀ S, tvB (ev2 (fEq false) (ev2 fMod (ev2 fDivW (evVar 0) (evC (.int 3))) (evC (.int 3))) (evC (.int 2))) (Em a st.length x) S = .ok (decide (a / 3 % 3 = 2)) S := fun S => by
    simp [d3, fMod]
    by_cases h : a / 3 % 3 = 2 <;> simp [h]
  have no5 : a / 3 % 3 ≠ 1 → ∀ S, x5_f_law_many (Em a st.length x) S = .nx (Em a st.length x) S := fun h S => by
    unfold x5_f_law_many
    rw [sIf_s, test5]
    simp [h]
  have no7 : a / 3 % 3 ≠ 2 → ∀ S, x7_f_law_many (Em a st.length x) S = .nx (Em a st.length x) S := fun h S => by
    unfold x7_f_law_many
    rw [sIf_s, test7]
    simp [h]
  rcases (by omega : a / 3 % 3 = 0 ∨ a / 3 % 3 = 1 ∨ a / 3 % 3 = 2) with h | h | h
  · refine ⟨(mrules N).map ruleD, out _ (fun S e => ?_) ⟨_, no5 (by omega) _⟩ th, by rw [RL]; omega, th, fun _ => ⟨N, N1, rfl⟩, fun z => absurd h z⟩
    rw [no5 (by omega)] at e
    cases e
    exact no7 (by omega) _
  · obtain ⟨o, t1, b1, m1, eo⟩ := odd_eq (a / 11) (Sc st (mrules N))
    have th2 : ∀ y ∈ ((mrules N).map ruleD).set i o, thing y = true := fun y hy => by
      rcases List.mem_or_eq_of_mem_set hy with hy | rfl
      · exact th y hy
      · exact t1
    have S5 : x5_f_law_many (Em a st.length x) (Sc st (mrules N)) = .nx (Em a st.length x) (st ++ [some (.lst (((mrules N).map ruleD).set i o))]) := by
      have sa := fSetA_lst (v := o) g ix
      rw [w] at sa
      rw [hi] at sa
      unfold x5_f_law_many x6_f_law_many
      rw [sIf_s, test5]
      generalize Sc st (mrules N) = S at *
      generalize (mrules N).map ruleD = R at *
      simp [h, d9, d11, eo, fMod, sa]
    refine ⟨((mrules N).map ruleD).set i o, out _ (fun S e => ?_) ⟨_, S5⟩ th2, by rw [List.length_set, RL]; omega, th2, fun z => by omega, fun _ z => ?_⟩
    · rw [S5] at e
      cases e
      exact no7 (by omega) _
    · have q := z.1
      unfold rulesB at q
      rw [Bool.and_eq_true, List.all_eq_true] at q
      have := q.2 o (List.mem_of_getElem? (i := i) (List.getElem?_set_self (by rw [RL]; omega)))
      rw [b1] at this
      cases this
  · obtain ⟨j, hj⟩ : ∃ j : Nat, (j : Int) = (a / 9 + 1 + a / 11 % 298) % 300 := ⟨((a / 9 + 1 + a / 11 % 298) % 300).toNat, by omega⟩
    have ij : i ≠ j := fun e => by subst e; omega
    have jl : j < N := by omega
    obtain ⟨v, hv⟩ : ∃ v, ((mrules N).map ruleD)[j]? = some v := ⟨_, List.getElem?_eq_getElem (by rw [RL]; exact jl)⟩
    have tv := th v (List.mem_of_getElem? hv)
    have th2 : ∀ y ∈ ((mrules N).map ruleD).set i v, thing y = true := fun y hy => by
      rcases List.mem_or_eq_of_mem_set hy with hy | rfl
      · exact th y hy
      · exact tv
    have S5 := no5 (by omega) (Sc st (mrules N))
    have S7 : x7_f_law_many (Em a st.length x) (Sc st (mrules N)) = .nx (Em a st.length x) (st ++ [some (.lst (((mrules N).map ruleD).set i v))]) := by
      have sa := fSetA_lst (v := v) g ix
      rw [w] at sa
      rw [hi] at sa
      have at1 : atI ((mrules N).map ruleD) ((a / 9 + 1 + a / 11 % 298) % 300) = some v := by
        rw [← hj]
        have e : ixN ((mrules N).map ruleD).length (j : Int) = some j := by rw [RL]; unfold ixN; simp <;> omega
        unfold atI
        rw [e]
        simpa using hv
      have fx := fIxD_ref (i := (a / 9 + 1 + a / 11 % 298) % 300) g
      rw [at1] at fx
      unfold x7_f_law_many x8_f_law_many
      rw [sIf_s, test7]
      generalize Sc st (mrules N) = S at *
      generalize (mrules N).map ruleD = R at *
      simp [h, d9, d11, fMod, sa, fx]
    refine ⟨((mrules N).map ruleD).set i v, out _ (fun S e => ?_) ⟨_, S5⟩ th2, by rw [List.length_set, RL]; omega, th2, fun z => by omega, fun _ z => ?_⟩
    · rw [S5] at e
      cases e
      exact S7
    · exact dup_set hv (by rw [RL]; omega) ij z.2
theorem many_right_eq (a : Int) (st : Store) (h0 : 0 ≤ a) (h1 : a < 1000000) : F_f_law_many_right [.int a] st = .ok (.val (.bl true)) st := by
  obtain ⟨R, e, hl, ht, g0, g1⟩ := many_eq (st := st) h0 h1
  have l3 : (3 : Int).natAbs.log2 < 9000 := by decide
  have d3 : fDivW (.int a) (.int 3) st = .ok (.val (.int (a / 3))) st := by rw [fDivW_int, if_pos ⟨by omega, l3⟩]
  have S1 : x1_f_law_many_right [some (.int a), none, none] st = .nx [some (.int a), some (.lst R), none] st := by unfold x1_f_law_many_right; simp [e]
  have S2 : x2_f_law_many_right [some (.int a), some (.lst R), none] st = .nx [some (.int a), some (.lst R), some (.str "TooMany")] st := by unfold x2_f_law_many_right; simp
  have go : ∀ v w : D, x3_f_law_many_right [some (.int a), some (.lst R), some (.str "TooMany")] st = .nx [some (.int a), some (.lst R), some v] st → x5_f_law_many_right [some (.int a), some (.lst R), some v] st = .nx [some (.int a), some (.lst R), some w] st → F_f_law_made [.lst R] st = .ok (.val w) st → fEq false w w st = .ok (.val (.bl true)) st → F_f_law_many_right [.int a] st = .ok (.val (.bl true)) st := fun v w h3 h5 hm he => by
    have run : b_f_law_many_right ([D.int a].map some ++ List.replicate (3 - [D.int a].length) none) st = .ret (.val (.bl true)) st := by
      unfold b_f_law_many_right
      show (sSeq x1_f_law_many_right _) [some (.int a), none, none] st = _
      rw [run_step S1, run_step S2, run_step h3, run_step h5]
      unfold x7_f_law_many_right
      simp [hm, he]
    unfold F_f_law_many_right
    rw [run_ret run]
    simp
  have L : fLenD [.lst R] st = .ok (.val (.int (300 + a % 3))) st := by
    show Res.ok (Wv.val (.int ((R.length : Nat) : Int))) st = _
    rw [hl]
  have len306 : R.length ≤ 306 := by omega
  have x3a : a % 3 = 0 → x3_f_law_many_right [some (.int a), some (.lst R), some (.str "TooMany")] st = .nx [some (.int a), some (.lst R), some (.tup R)] st := fun h => by
    unfold x3_f_law_many_right x4_f_law_many_right
    simp [L, h, -fLenD_lst]
  have x3b : a % 3 ≠ 0 → x3_f_law_many_right [some (.int a), some (.lst R), some (.str "TooMany")] st = .nx [some (.int a), some (.lst R), some (.str "TooMany")] st := fun h => by
    have : ¬ (300 + a % 3 = 300) := by omega
    unfold x3_f_law_many_right x4_f_law_many_right
    simp [L, this, h, -fLenD_lst]
  have x5a : a / 3 % 3 = 0 → ∀ v, x5_f_law_many_right [some (.int a), some (.lst R), some v] st = .nx [some (.int a), some (.lst R), some v] st := fun h v => by
    unfold x5_f_law_many_right
    simp [d3, fMod, h]
  have x5b : a / 3 % 3 ≠ 0 → ∀ v, x5_f_law_many_right [some (.int a), some (.lst R), some v] st = .nx [some (.int a), some (.lst R), some (.str "NoGrammar")] st := fun h v => by
    have : 0 < a / 3 % 3 := by omega
    unfold x5_f_law_many_right x6_f_law_many_right
    simp [d3, fMod, this]
  have strS : ∀ z : Str, fEq false (.str z) (.str z) st = .ok (.val (.bl true)) st := fun z => by simp
  by_cases h : a / 3 % 3 = 0
  · obtain ⟨N, hN, rfl⟩ := g0 h
    have NL : ((mrules N).map ruleD).length = N := by rw [List.length_map, mrules_len]
    by_cases h3 : a % 3 = 0
    · have hN0 : N = 300 := by rw [NL] at hl; omega
      have ok : okRS (mrules N) := ⟨mrules_good N, mrules_nd N hN, by rw [mrules_len]; omega, by rw [mrules_len]; omega⟩
      exact go _ _ (x3a h3) (x5a h _) (made_rules ok (.inl rfl)) (rules_same false _ st)
    · have cc : rulesB ((mrules N).map ruleD) = true ∧ ((mrules N).map ruleD).Nodup := by
        refine ⟨?_, rules_nodup (mrules_nd N hN)⟩
        unfold rulesB
        rw [Bool.and_eq_true, List.all_eq_true]
        refine ⟨by rw [NL] at hl ⊢; simp; omega, fun y hy => ?_⟩
        obtain ⟨r, hr, rfl⟩ := List.mem_map.mp hy
        exact mrules_good N r hr
      exact go _ _ (x3b h3) (x5a h _) (made_too (.inl rfl) ht len306 cc (by rw [NL] at hl ⊢; omega)) (strS _)
  · have bad := made_none (v := .lst R) (st := st) (.inl rfl) ht len306 (g1 h)
    by_cases h3 : a % 3 = 0
    · exact go _ _ (x3a h3) (x5b h _) bad (strS _)
    · exact go _ _ (x3b h3) (x5b h _) bad (strS _)
theorem law_true : ∀ ns : List Int, ns.length ≤ 63 → F_law [.lst (ns.map D.int)] [] = .ok (.val (.bl true)) [] := by
  intro ns hn
  have cat : catOk (ns.map D.int) ([0, 1, 2, 3, 4, 5].map D.int) = true := by simp [catOk]; omega
  have hlc : lc_law_1 [some (.lst (ns.map D.int)), none] [] = _ := evLc_map1 (own := [1]) (m := itSeq (ev2 fAdd (evVar 0) (evLst (acons (evC (.int 0)) (acons (evC (.int 1)) (acons (evC (.int 2)) (acons (evC (.int 3)) (acons (evC (.int 4)) (acons (evC (.int 5)) (anil))))))))))
    (g := gdName 1) (e := evCall 1 F_f_law_right (acons (evVar 1) (anil))) (env := [some (.lst (ns.map D.int)), none]) (st := []) (items := ns ++ [0, 1, 2, 3, 4, 5]) D.int (fun _ => D.bl true) (fun c => [some (.lst (ns.map D.int)), some (.int c)])
    (by
      rw [List.map_append]
      simp only [List.map_cons, List.map_nil] at cat ⊢
      generalize ns.map D.int = R at *
      simp [cat]) (by simp; omega) (fun c _ => ⟨by simp [wipeD], fun more => ⟨.val (.bl true), by
      have r := right_eq (fun a st h0 h1 => many_right_eq a st h0 h1) c ([] ++ more)
      simp only [List.nil_append] at r ⊢
      generalize ns.map D.int = R at *
      simp [r], rfl⟩⟩) (fun c _ => by simp [refsLt])
  have al : fAll [.lst ((ns ++ [0, 1, 2, 3, 4, 5]).map fun _ => D.bl true)] [] = .ok (.val (.bl true)) [] := by
    rw [all_blB (fun _ => true)]
    simp
  unfold F_law
  rw [run_ret (w := .val (.bl true)) (s' := []) (by
    unfold b_law x1_law
    show sRet _ [some (.lst (ns.map D.int)), none] [] = _
    rw [sRet_s, evA_s, acons_s, hlc]
    simp only [bind_ok, new_d, anil_s, al]
    rfl)]
  exact fin_val0 (by simp [refsLt]) (fun _ => nofun)
end Lw
namespace Lw
open PySem PySem.Spec PyProof.Rows L2 VI
theorem all_mk {l : PySem.W.OpenLaw} {w : World} {K : PySem.W.Frag} {h : Heap} {mg : Str → Option Value} {fa A_ReadError A_NoGrammar A_NoText A_NoRow A_NoPart A_NoTree A_NoChart A_NoTable A_NoMachine A_NoDeed A_TooMany A_Grammar : Addr} (X : K.In h) (G : h.Ns mainGlobals mg) (hfa : mg "law" = some (.ref fa))
    {f0 : Addr} {od0 an0 : Option Addr} {sl0 : Array (Option Value)} {oc0 kV0 dc0 pm0 cd0 ct0 : Value}
    {f1 : Addr} {od1 an1 : Option Addr} {sl1 : Array (Option Value)} {oc1 kV1 dc1 pm1 cd1 ct1 : Value}
    {f2 : Addr} {od2 an2 : Option Addr} {sl2 : Array (Option Value)} {oc2 kV2 dc2 pm2 cd2 ct2 : Value}
    {f3 : Addr} {od3 an3 : Option Addr} {sl3 : Array (Option Value)} {oc3 kV3 dc3 pm3 cd3 ct3 : Value}
    {f4 : Addr} {od4 an4 : Option Addr} {sl4 : Array (Option Value)} {oc4 kV4 dc4 pm4 cd4 ct4 : Value}
    {f5 : Addr} {od5 an5 : Option Addr} {sl5 : Array (Option Value)} {oc5 kV5 dc5 pm5 cd5 ct5 : Value}
    {f6 : Addr} {od6 an6 : Option Addr} {sl6 : Array (Option Value)} {oc6 kV6 dc6 pm6 cd6 ct6 : Value}
    {f7 : Addr} {od7 an7 : Option Addr} {sl7 : Array (Option Value)} {oc7 kV7 dc7 pm7 cd7 ct7 : Value}
    {f8 : Addr} {od8 an8 : Option Addr} {sl8 : Array (Option Value)} {oc8 kV8 dc8 pm8 cd8 ct8 : Value}
    {f9 : Addr} {od9 an9 : Option Addr} {sl9 : Array (Option Value)} {oc9 kV9 dc9 pm9 cd9 ct9 : Value}
    {f10 : Addr} {od10 an10 : Option Addr} {sl10 : Array (Option Value)} {oc10 kV10 dc10 pm10 cd10 ct10 : Value}
    {f11 : Addr} {od11 an11 : Option Addr} {sl11 : Array (Option Value)} {oc11 kV11 dc11 pm11 cd11 ct11 : Value}
    {f12 : Addr} {od12 an12 : Option Addr} {sl12 : Array (Option Value)} {oc12 kV12 dc12 pm12 cd12 ct12 : Value}
    {f13 : Addr} {od13 an13 : Option Addr} {sl13 : Array (Option Value)} {oc13 kV13 dc13 pm13 cd13 ct13 : Value}
    {f14 : Addr} {od14 an14 : Option Addr} {sl14 : Array (Option Value)} {oc14 kV14 dc14 pm14 cd14 ct14 : Value}
    {f15 : Addr} {od15 an15 : Option Addr} {sl15 : Array (Option Value)} {oc15 kV15 dc15 pm15 cd15 ct15 : Value}
    {f16 : Addr} {od16 an16 : Option Addr} {sl16 : Array (Option Value)} {oc16 kV16 dc16 pm16 cd16 ct16 : Value}
    {f17 : Addr} {od17 an17 : Option Addr} {sl17 : Array (Option Value)} {oc17 kV17 dc17 pm17 cd17 ct17 : Value}
    {f18 : Addr} {od18 an18 : Option Addr} {sl18 : Array (Option Value)} {oc18 kV18 dc18 pm18 cd18 ct18 : Value}
    (g_ReadError : PySem.W.nsIn K mainGlobals "ReadError" = some (some (.ref A_ReadError)))
    (g_NoGrammar : PySem.W.nsIn K mainGlobals "NoGrammar" = some (some (.ref A_NoGrammar)))
    (g_NoText : PySem.W.nsIn K mainGlobals "NoText" = some (some (.ref A_NoText)))
    (g_NoRow : PySem.W.nsIn K mainGlobals "NoRow" = some (some (.ref A_NoRow)))
    (g_NoPart : PySem.W.nsIn K mainGlobals "NoPart" = some (some (.ref A_NoPart)))
    (g_NoTree : PySem.W.nsIn K mainGlobals "NoTree" = some (some (.ref A_NoTree)))
    (g_NoChart : PySem.W.nsIn K mainGlobals "NoChart" = some (some (.ref A_NoChart)))
    (g_NoTable : PySem.W.nsIn K mainGlobals "NoTable" = some (some (.ref A_NoTable)))
    (g_NoMachine : PySem.W.nsIn K mainGlobals "NoMachine" = some (some (.ref A_NoMachine)))
    (g_NoDeed : PySem.W.nsIn K mainGlobals "NoDeed" = some (some (.ref A_NoDeed)))
    (g_TooMany : PySem.W.nsIn K mainGlobals "TooMany" = some (some (.ref A_TooMany)))
    (g_Grammar : PySem.W.nsIn K mainGlobals "Grammar" = some (some (.ref A_Grammar)))
    (a0 : PySem.W.nsIn K mainGlobals "is_name" = some (some (.ref f0)))
    (l0 : K.lookup f0 = some ⟨oc0, od0, .func (PySem.W.fnOf "is_name" "is_name" (defArgs s_is_name) (defBody s_is_name) (defScope s_is_name) .none kV0 dc0 pm0 an0 cd0 ct0), sl0⟩)
    (c0 : PySem.W.codeIn K cd0 "is_name" = true)
    (k0 : PySem.W.keepIn K (.ref f0) = true)
    (a1 : PySem.W.nsIn K mainGlobals "each_once" = some (some (.ref f1)))
    (l1 : K.lookup f1 = some ⟨oc1, od1, .func (PySem.W.fnOf "each_once" "each_once" (defArgs s_each_once) (defBody s_each_once) (defScope s_each_once) .none kV1 dc1 pm1 an1 cd1 ct1), sl1⟩)
    (c1 : PySem.W.codeIn K cd1 "each_once" = true)
    (k1 : PySem.W.keepIn K (.ref f1) = true)
    (a2 : PySem.W.nsIn K mainGlobals "_law_draws" = some (some (.ref f2)))
    (l2 : K.lookup f2 = some ⟨oc2, od2, .func (PySem.W.fnOf "_law_draws" "_law_draws" (defArgs s_f_law_draws) (defBody s_f_law_draws) (defScope s_f_law_draws) .none kV2 dc2 pm2 an2 cd2 ct2), sl2⟩)
    (c2 : PySem.W.codeIn K cd2 "_law_draws" = true)
    (k2 : PySem.W.keepIn K (.ref f2) = true)
    (a3 : PySem.W.nsIn K mainGlobals "_law_mix" = some (some (.ref f3)))
    (l3 : K.lookup f3 = some ⟨oc3, od3, .func (PySem.W.fnOf "_law_mix" "_law_mix" (defArgs s_f_law_mix) (defBody s_f_law_mix) (defScope s_f_law_mix) .none kV3 dc3 pm3 an3 cd3 ct3), sl3⟩)
    (c3 : PySem.W.codeIn K cd3 "_law_mix" = true)
    (k3 : PySem.W.keepIn K (.ref f3) = true)
    (a4 : PySem.W.nsIn K mainGlobals "_law_word_of" = some (some (.ref f4)))
    (l4 : K.lookup f4 = some ⟨oc4, od4, .func (PySem.W.fnOf "_law_word_of" "_law_word_of" (defArgs s_f_law_word_of) (defBody s_f_law_word_of) (defScope s_f_law_word_of) .none kV4 dc4 pm4 an4 cd4 ct4), sl4⟩)
    (c4 : PySem.W.codeIn K cd4 "_law_word_of" = true)
    (k4 : PySem.W.keepIn K (.ref f4) = true)
    (a5 : PySem.W.nsIn K mainGlobals "_law_odd_rule" = some (some (.ref f5)))
    (l5 : K.lookup f5 = some ⟨oc5, od5, .func (PySem.W.fnOf "_law_odd_rule" "_law_odd_rule" (defArgs s_f_law_odd_rule) (defBody s_f_law_odd_rule) (defScope s_f_law_odd_rule) .none kV5 dc5 pm5 an5 cd5 ct5), sl5⟩)
    (c5 : PySem.W.codeIn K cd5 "_law_odd_rule" = true)
    (k5 : PySem.W.keepIn K (.ref f5) = true)
    (a6 : PySem.W.nsIn K mainGlobals "_law_no_list" = some (some (.ref f6)))
    (l6 : K.lookup f6 = some ⟨oc6, od6, .func (PySem.W.fnOf "_law_no_list" "_law_no_list" (defArgs s_f_law_no_list) (defBody s_f_law_no_list) (defScope s_f_law_no_list) .none kV6 dc6 pm6 an6 cd6 ct6), sl6⟩)
    (c6 : PySem.W.codeIn K cd6 "_law_no_list" = true)
    (k6 : PySem.W.keepIn K (.ref f6) = true)
    (a7 : PySem.W.nsIn K mainGlobals "is_rule" = some (some (.ref f7)))
    (l7 : K.lookup f7 = some ⟨oc7, od7, .func (PySem.W.fnOf "is_rule" "is_rule" (defArgs s_is_rule) (defBody s_is_rule) (defScope s_is_rule) .none kV7 dc7 pm7 an7 cd7 ct7), sl7⟩)
    (c7 : PySem.W.codeIn K cd7 "is_rule" = true)
    (k7 : PySem.W.keepIn K (.ref f7) = true)
    (a8 : PySem.W.nsIn K mainGlobals "_law_names" = some (some (.ref f8)))
    (l8 : K.lookup f8 = some ⟨oc8, od8, .func (PySem.W.fnOf "_law_names" "_law_names" (defArgs s_f_law_names) (defBody s_f_law_names) (defScope s_f_law_names) .none kV8 dc8 pm8 an8 cd8 ct8), sl8⟩)
    (c8 : PySem.W.codeIn K cd8 "_law_names" = true)
    (k8 : PySem.W.keepIn K (.ref f8) = true)
    (a9 : PySem.W.nsIn K mainGlobals "_law_by_digits" = some (some (.ref f9)))
    (l9 : K.lookup f9 = some ⟨oc9, od9, .func (PySem.W.fnOf "_law_by_digits" "_law_by_digits" (defArgs s_f_law_by_digits) (defBody s_f_law_by_digits) (defScope s_f_law_by_digits) .none kV9 dc9 pm9 an9 cd9 ct9), sl9⟩)
    (c9 : PySem.W.codeIn K cd9 "_law_by_digits" = true)
    (k9 : PySem.W.keepIn K (.ref f9) = true)
    (a10 : PySem.W.nsIn K mainGlobals "_law_many" = some (some (.ref f10)))
    (l10 : K.lookup f10 = some ⟨oc10, od10, .func (PySem.W.fnOf "_law_many" "_law_many" (defArgs s_f_law_many) (defBody s_f_law_many) (defScope s_f_law_many) .none kV10 dc10 pm10 an10 cd10 ct10), sl10⟩)
    (c10 : PySem.W.codeIn K cd10 "_law_many" = true)
    (k10 : PySem.W.keepIn K (.ref f10) = true)
    (a11 : PySem.W.nsIn K mainGlobals "need_rules" = some (some (.ref f11)))
    (l11 : K.lookup f11 = some ⟨oc11, od11, .func (PySem.W.fnOf "need_rules" "need_rules" (defArgs s_need_rules) (defBody s_need_rules) (defScope s_need_rules) .none kV11 dc11 pm11 an11 cd11 ct11), sl11⟩)
    (c11 : PySem.W.codeIn K cd11 "need_rules" = true)
    (k11 : PySem.W.keepIn K (.ref f11) = true)
    (a12 : PySem.W.nsIn K mainGlobals "_law_by_mixes" = some (some (.ref f12)))
    (l12 : K.lookup f12 = some ⟨oc12, od12, .func (PySem.W.fnOf "_law_by_mixes" "_law_by_mixes" (defArgs s_f_law_by_mixes) (defBody s_f_law_by_mixes) (defScope s_f_law_by_mixes) .none kV12 dc12 pm12 an12 cd12 ct12), sl12⟩)
    (c12 : PySem.W.codeIn K cd12 "_law_by_mixes" = true)
    (k12 : PySem.W.keepIn K (.ref f12) = true)
    (a13 : PySem.W.findIn K (.ref A_Grammar) "__init__" = some (some (.ref f13)))
    (i13 : PySem.W.isFn K (.ref f13) = true)
    (l13 : K.lookup f13 = some ⟨oc13, od13, .func (PySem.W.fnOf "__init__" "Grammar.__init__" (defArgs s_Grammar_init) (defBody s_Grammar_init) (defScope s_Grammar_init) .none kV13 dc13 pm13 an13 cd13 ct13), sl13⟩)
    (c13 : PySem.W.codeIn K cd13 "Grammar.__init__" = true)
    (k13 : PySem.W.keepIn K (.ref f13) = true)
    (a14 : PySem.W.nsIn K mainGlobals "_law_rules" = some (some (.ref f14)))
    (l14 : K.lookup f14 = some ⟨oc14, od14, .func (PySem.W.fnOf "_law_rules" "_law_rules" (defArgs s_f_law_rules) (defBody s_f_law_rules) (defScope s_f_law_rules) .none kV14 dc14 pm14 an14 cd14 ct14), sl14⟩)
    (c14 : PySem.W.codeIn K cd14 "_law_rules" = true)
    (k14 : PySem.W.keepIn K (.ref f14) = true)
    (a15 : PySem.W.nsIn K mainGlobals "_law_made" = some (some (.ref f15)))
    (l15 : K.lookup f15 = some ⟨oc15, od15, .func (PySem.W.fnOf "_law_made" "_law_made" (defArgs s_f_law_made) (defBody s_f_law_made) (defScope s_f_law_made) .none kV15 dc15 pm15 an15 cd15 ct15), sl15⟩)
    (c15 : PySem.W.codeIn K cd15 "_law_made" = true)
    (k15 : PySem.W.keepIn K (.ref f15) = true)
    (a16 : PySem.W.nsIn K mainGlobals "_law_many_right" = some (some (.ref f16)))
    (l16 : K.lookup f16 = some ⟨oc16, od16, .func (PySem.W.fnOf "_law_many_right" "_law_many_right" (defArgs s_f_law_many_right) (defBody s_f_law_many_right) (defScope s_f_law_many_right) .none kV16 dc16 pm16 an16 cd16 ct16), sl16⟩)
    (c16 : PySem.W.codeIn K cd16 "_law_many_right" = true)
    (k16 : PySem.W.keepIn K (.ref f16) = true)
    (a17 : PySem.W.nsIn K mainGlobals "_law_right" = some (some (.ref f17)))
    (l17 : K.lookup f17 = some ⟨oc17, od17, .func (PySem.W.fnOf "_law_right" "_law_right" (defArgs s_f_law_right) (defBody s_f_law_right) (defScope s_f_law_right) .none kV17 dc17 pm17 an17 cd17 ct17), sl17⟩)
    (c17 : PySem.W.codeIn K cd17 "_law_right" = true)
    (k17 : PySem.W.keepIn K (.ref f17) = true)
    (a18 : PySem.W.nsIn K mainGlobals "law" = some (some (.ref f18)))
    (l18 : K.lookup f18 = some ⟨oc18, od18, .func (PySem.W.fnOf "law" "law" (defArgs s_law) (defBody s_law) (defScope s_law) .none kV18 dc18 pm18 an18 cd18 ct18), sl18⟩)
    (c18 : PySem.W.codeIn K cd18 "law" = true)
    (k18 : PySem.W.keepIn K (.ref f18) = true)
    (z0 : PySem.W.nsIn K mainGlobals "ValueError" = some none)
    (z1 : PySem.W.nsIn K mainGlobals "abs" = some none)
    (z2 : PySem.W.nsIn K mainGlobals "all" = some none)
    (z3 : PySem.W.nsIn K mainGlobals "dict" = some none)
    (z4 : PySem.W.nsIn K mainGlobals "enumerate" = some none)
    (z5 : PySem.W.nsIn K mainGlobals "isinstance" = some none)
    (z6 : PySem.W.nsIn K mainGlobals "len" = some none)
    (z7 : PySem.W.nsIn K mainGlobals "list" = some none)
    (z8 : PySem.W.nsIn K mainGlobals "range" = some none)
    (z9 : PySem.W.nsIn K mainGlobals "repr" = some none)
    (z10 : PySem.W.nsIn K mainGlobals "set" = some none)
    (z11 : PySem.W.nsIn K mainGlobals "sorted" = some none)
    (z12 : PySem.W.nsIn K mainGlobals "str" = some none)
    (z13 : PySem.W.nsIn K mainGlobals "tuple" = some none)
    {t0 : Tok}
    (y0 : PySem.W.nsIn K mainGlobals "LETTERS" = some (some (.str "abcdefghijklmnopqrstuvwxyz" t0)))
    {t1 : Tok}
    (y1 : PySem.W.nsIn K mainGlobals "MOST_LETTERS" = some (some (.int 8 t1)))
    {t2 : Tok}
    (y2 : PySem.W.nsIn K mainGlobals "MOST_NAMES" = some (some (.int 8 t2)))
    {t3 : Tok}
    (y3 : PySem.W.nsIn K mainGlobals "MOST_RULES" = some (some (.int 300 t3)))
    (ex_NoGrammar : PySem.W.excIn K A_NoGrammar [.type "ValueError", .type "Exception", .type "BaseException", .type "object"] "ValueError.__new__" = true)
    (ek_NoGrammar : PySem.W.keepIn K (.ref A_NoGrammar) = true)
    (eb_NoGrammar : PySem.W.subIn K (.ref A_NoGrammar) (.type "BaseException") = some true)
    (et_NoGrammar : PySem.W.typeIn K (.ref A_NoGrammar) = some (.type "type"))
    (eg_NoGrammar : PySem.W.findIn K (.ref A_NoGrammar) "__getattribute__" = some (some (.builtin "BaseException.__getattribute__")))
    (eh_NoGrammar : PySem.W.findIn K (.ref A_NoGrammar) "__getattr__" = some none)
    (ed_NoGrammar : PySem.W.hasDictIn K A_NoGrammar = true)
    (ea_NoGrammar : PySem.W.findIn K (.ref A_NoGrammar) "__class__" = some (some (.builtin "object.__class__")))
    (em_NoGrammar : PySem.W.mroIn K A_NoGrammar (.type "object") = some true)
    (q_NoGrammar_NoGrammar : PySem.W.kitOne K (.ref A_NoGrammar) (.ref A_NoGrammar) = some true)
    (q_NoGrammar_NoText : PySem.W.kitOne K (.ref A_NoGrammar) (.ref A_NoText) = some false)
    (q_NoGrammar_NoRow : PySem.W.kitOne K (.ref A_NoGrammar) (.ref A_NoRow) = some false)
    (q_NoGrammar_NoPart : PySem.W.kitOne K (.ref A_NoGrammar) (.ref A_NoPart) = some false)
    (q_NoGrammar_NoTree : PySem.W.kitOne K (.ref A_NoGrammar) (.ref A_NoTree) = some false)
    (q_NoGrammar_NoChart : PySem.W.kitOne K (.ref A_NoGrammar) (.ref A_NoChart) = some false)
    (q_NoGrammar_NoTable : PySem.W.kitOne K (.ref A_NoGrammar) (.ref A_NoTable) = some false)
    (q_NoGrammar_NoMachine : PySem.W.kitOne K (.ref A_NoGrammar) (.ref A_NoMachine) = some false)
    (q_NoGrammar_NoDeed : PySem.W.kitOne K (.ref A_NoGrammar) (.ref A_NoDeed) = some false)
    (q_NoGrammar_TooMany : PySem.W.kitOne K (.ref A_NoGrammar) (.ref A_TooMany) = some false)
    (v_NoGrammar : PySem.W.kitOne K (.ref A_NoGrammar) (.type "ValueError") = some true)
    (s_NoGrammar_ReadError : PySem.W.subIn K (.ref A_NoGrammar) (.ref A_ReadError) = some true)
    (ex_TooMany : PySem.W.excIn K A_TooMany [.type "ValueError", .type "Exception", .type "BaseException", .type "object"] "ValueError.__new__" = true)
    (ek_TooMany : PySem.W.keepIn K (.ref A_TooMany) = true)
    (eb_TooMany : PySem.W.subIn K (.ref A_TooMany) (.type "BaseException") = some true)
    (et_TooMany : PySem.W.typeIn K (.ref A_TooMany) = some (.type "type"))
    (eg_TooMany : PySem.W.findIn K (.ref A_TooMany) "__getattribute__" = some (some (.builtin "BaseException.__getattribute__")))
    (eh_TooMany : PySem.W.findIn K (.ref A_TooMany) "__getattr__" = some none)
    (ed_TooMany : PySem.W.hasDictIn K A_TooMany = true)
    (ea_TooMany : PySem.W.findIn K (.ref A_TooMany) "__class__" = some (some (.builtin "object.__class__")))
    (em_TooMany : PySem.W.mroIn K A_TooMany (.type "object") = some true)
    (q_TooMany_NoGrammar : PySem.W.kitOne K (.ref A_TooMany) (.ref A_NoGrammar) = some false)
    (q_TooMany_NoText : PySem.W.kitOne K (.ref A_TooMany) (.ref A_NoText) = some false)
    (q_TooMany_NoRow : PySem.W.kitOne K (.ref A_TooMany) (.ref A_NoRow) = some false)
    (q_TooMany_NoPart : PySem.W.kitOne K (.ref A_TooMany) (.ref A_NoPart) = some false)
    (q_TooMany_NoTree : PySem.W.kitOne K (.ref A_TooMany) (.ref A_NoTree) = some false)
    (q_TooMany_NoChart : PySem.W.kitOne K (.ref A_TooMany) (.ref A_NoChart) = some false)
    (q_TooMany_NoTable : PySem.W.kitOne K (.ref A_TooMany) (.ref A_NoTable) = some false)
    (q_TooMany_NoMachine : PySem.W.kitOne K (.ref A_TooMany) (.ref A_NoMachine) = some false)
    (q_TooMany_NoDeed : PySem.W.kitOne K (.ref A_TooMany) (.ref A_NoDeed) = some false)
    (q_TooMany_TooMany : PySem.W.kitOne K (.ref A_TooMany) (.ref A_TooMany) = some true)
    (v_TooMany : PySem.W.kitOne K (.ref A_TooMany) (.type "ValueError") = some true)
    (s_TooMany_ReadError : PySem.W.subIn K (.ref A_TooMany) (.ref A_ReadError) = some true)
    (on : PySem.W.specialIn K (.builtin "object.__class__") "__get__" = some (some (.builtin "getset_descriptor.__get__")))
    (ot : PySem.W.takesIn K (.builtin "object.__class__") = some true)
    (hb_ReadError : PySem.W.subIn K (.ref A_ReadError) (.type "BaseException") = some true)
    (hd_ReadError : PySem.W.hasDictIn K A_ReadError = true)
    (ht_ReadError : PySem.W.typeIn K (.ref A_ReadError) = some (.type "type"))
    (pg_Grammar : PySem.W.plainGet K A_Grammar Str.empty = true)
    (od_Grammar : PySem.W.hasDictIn K A_Grammar = true)
    (po_Grammar : PySem.W.plainOver K A_Grammar = true)
    (sa_Grammar : PySem.W.findIn K (.ref A_Grammar) "__setattr__" = some (some (.builtin "object.__setattr__")))
    (mk_Grammar : PySem.W.makesIn K A_Grammar = true)
    (kc_Grammar : PySem.W.keepIn K (.ref A_Grammar) = true)
    (nf_Grammar_rules : PySem.W.findIn K (.ref A_Grammar) "rules" = some none)
    (nf_Grammar_parts : PySem.W.findIn K (.ref A_Grammar) "parts" = some none)
    (nf_Grammar_start : PySem.W.findIn K (.ref A_Grammar) "start" = some none)
    (nf_Grammar_numbers : PySem.W.findIn K (.ref A_Grammar) "numbers" = some none)
    (nf_Grammar_words : PySem.W.findIn K (.ref A_Grammar) "words" = some none)
    (hlaw : ∀ ns : List Int, ns.length ≤ 63 → F_law [.lst (ns.map D.int)] [] = .ok (.val (.bl true)) []) :
    ∃ fd : FuncData, (∀ (s : Shared) (v : Value), BindsTo s fd ⟨[v], []⟩ [("_law_script", v)]) ∧ ∀ base : Heap, K.In base → base.Ns mainGlobals mg → FnG l.prog w K mg base CX0 9 fa fd ["_law_script"] (spLaw K) := by
  have xc_NoGrammar : ExcC K A_NoGrammar := ⟨eg_NoGrammar, eh_NoGrammar, eb_NoGrammar, ed_NoGrammar, ea_NoGrammar, on, ot, em_NoGrammar⟩
  have xc_TooMany : ExcC K A_TooMany := ⟨eg_TooMany, eh_TooMany, eb_TooMany, ed_TooMany, ea_TooMany, on, ot, em_TooMany⟩
  have T : Tx K w mg ⟨A_ReadError, A_NoGrammar, A_NoText, A_NoRow, A_NoPart, A_NoTree, A_NoChart, A_NoTable, A_NoMachine, A_NoDeed, A_TooMany, A_Grammar⟩ := {
    n_ValueError := PySem.W.mg_none_of X G z0
    n_abs := PySem.W.mg_none_of X G z1
    n_all := PySem.W.mg_none_of X G z2
    n_dict := PySem.W.mg_none_of X G z3
    n_enumerate := PySem.W.mg_none_of X G z4
    n_isinstance := PySem.W.mg_none_of X G z5
    n_len := PySem.W.mg_none_of X G z6
    n_list := PySem.W.mg_none_of X G z7
    n_range := PySem.W.mg_none_of X G z8
    n_repr := PySem.W.mg_none_of X G z9
    n_set := PySem.W.mg_none_of X G z10
    n_sorted := PySem.W.mg_none_of X G z11
    n_str := PySem.W.mg_none_of X G z12
    n_tuple := PySem.W.mg_none_of X G z13
    c_LETTERS := ⟨_, PySem.W.mg_of X G y0⟩
    c_MOST_LETTERS := ⟨_, PySem.W.mg_of X G y1⟩
    c_MOST_NAMES := ⟨_, PySem.W.mg_of X G y2⟩
    c_MOST_RULES := ⟨_, PySem.W.mg_of X G y3⟩
    g_ReadError := PySem.W.mg_of X G g_ReadError
    g_NoGrammar := PySem.W.mg_of X G g_NoGrammar
    g_NoText := PySem.W.mg_of X G g_NoText
    g_NoRow := PySem.W.mg_of X G g_NoRow
    g_NoPart := PySem.W.mg_of X G g_NoPart
    g_NoTree := PySem.W.mg_of X G g_NoTree
    g_NoChart := PySem.W.mg_of X G g_NoChart
    g_NoTable := PySem.W.mg_of X G g_NoTable
    g_NoMachine := PySem.W.mg_of X G g_NoMachine
    g_NoDeed := PySem.W.mg_of X G g_NoDeed
    g_TooMany := PySem.W.mg_of X G g_TooMany
    g_Grammar := PySem.W.mg_of X G g_Grammar
    e_NoGrammar := ⟨ex_NoGrammar, ek_NoGrammar, eb_NoGrammar, et_NoGrammar⟩
    e_TooMany := ⟨ex_TooMany, ek_TooMany, eb_TooMany, et_TooMany⟩
    cl_Grammar := ⟨pg_Grammar, od_Grammar, po_Grammar, sa_Grammar⟩
    fl_numbers := fun c hc C hC => by
      simp only [List.contains_eq_mem, List.mem_cons, List.not_mem_nil, or_false, decide_eq_true_eq] at hc
      rcases hc with rfl
      · rw [cm_Grammar] at hC; cases hC; exact ⟨⟨pg_Grammar, od_Grammar, po_Grammar, sa_Grammar⟩, nf_Grammar_numbers⟩
    fl_parts := fun c hc C hC => by
      simp only [List.contains_eq_mem, List.mem_cons, List.not_mem_nil, or_false, decide_eq_true_eq] at hc
      rcases hc with rfl
      · rw [cm_Grammar] at hC; cases hC; exact ⟨⟨pg_Grammar, od_Grammar, po_Grammar, sa_Grammar⟩, nf_Grammar_parts⟩
    fl_rules := fun c hc C hC => by
      simp only [List.contains_eq_mem, List.mem_cons, List.not_mem_nil, or_false, decide_eq_true_eq] at hc
      rcases hc with rfl
      · rw [cm_Grammar] at hC; cases hC; exact ⟨⟨pg_Grammar, od_Grammar, po_Grammar, sa_Grammar⟩, nf_Grammar_rules⟩
    fl_start := fun c hc C hC => by
      simp only [List.contains_eq_mem, List.mem_cons, List.not_mem_nil, or_false, decide_eq_true_eq] at hc
      rcases hc with rfl
      · rw [cm_Grammar] at hC; cases hC; exact ⟨⟨pg_Grammar, od_Grammar, po_Grammar, sa_Grammar⟩, nf_Grammar_start⟩
    fl_words := fun c hc C hC => by
      simp only [List.contains_eq_mem, List.mem_cons, List.not_mem_nil, or_false, decide_eq_true_eq] at hc
      rcases hc with rfl
      · rw [cm_Grammar] at hC; cases hC; exact ⟨⟨pg_Grammar, od_Grammar, po_Grammar, sa_Grammar⟩, nf_Grammar_words⟩
    errC := fun t ht C C' h1 h2 => by
      simp only [errC, List.mem_cons, List.not_mem_nil, or_false] at ht
      rcases ht with rfl | rfl | rfl | rfl | rfl | rfl | rfl | rfl | rfl | rfl | rfl | rfl | rfl | rfl | rfl | rfl | rfl | rfl | rfl | rfl
      · rw [cm_NoGrammar] at h1; cases h1; rw [cm_NoGrammar] at h2; cases h2; exact ⟨xc_NoGrammar, q_NoGrammar_NoGrammar⟩
      · rw [cm_NoGrammar] at h1; cases h1; rw [cm_NoText] at h2; cases h2; exact ⟨xc_NoGrammar, q_NoGrammar_NoText⟩
      · rw [cm_NoGrammar] at h1; cases h1; rw [cm_NoRow] at h2; cases h2; exact ⟨xc_NoGrammar, q_NoGrammar_NoRow⟩
      · rw [cm_NoGrammar] at h1; cases h1; rw [cm_NoPart] at h2; cases h2; exact ⟨xc_NoGrammar, q_NoGrammar_NoPart⟩
      · rw [cm_NoGrammar] at h1; cases h1; rw [cm_NoTree] at h2; cases h2; exact ⟨xc_NoGrammar, q_NoGrammar_NoTree⟩
      · rw [cm_NoGrammar] at h1; cases h1; rw [cm_NoChart] at h2; cases h2; exact ⟨xc_NoGrammar, q_NoGrammar_NoChart⟩
      · rw [cm_NoGrammar] at h1; cases h1; rw [cm_NoTable] at h2; cases h2; exact ⟨xc_NoGrammar, q_NoGrammar_NoTable⟩
      · rw [cm_NoGrammar] at h1; cases h1; rw [cm_NoMachine] at h2; cases h2; exact ⟨xc_NoGrammar, q_NoGrammar_NoMachine⟩
      · rw [cm_NoGrammar] at h1; cases h1; rw [cm_NoDeed] at h2; cases h2; exact ⟨xc_NoGrammar, q_NoGrammar_NoDeed⟩
      · rw [cm_NoGrammar] at h1; cases h1; rw [cm_TooMany] at h2; cases h2; exact ⟨xc_NoGrammar, q_NoGrammar_TooMany⟩
      · rw [cm_TooMany] at h1; cases h1; rw [cm_NoGrammar] at h2; cases h2; exact ⟨xc_TooMany, q_TooMany_NoGrammar⟩
      · rw [cm_TooMany] at h1; cases h1; rw [cm_NoText] at h2; cases h2; exact ⟨xc_TooMany, q_TooMany_NoText⟩
      · rw [cm_TooMany] at h1; cases h1; rw [cm_NoRow] at h2; cases h2; exact ⟨xc_TooMany, q_TooMany_NoRow⟩
      · rw [cm_TooMany] at h1; cases h1; rw [cm_NoPart] at h2; cases h2; exact ⟨xc_TooMany, q_TooMany_NoPart⟩
      · rw [cm_TooMany] at h1; cases h1; rw [cm_NoTree] at h2; cases h2; exact ⟨xc_TooMany, q_TooMany_NoTree⟩
      · rw [cm_TooMany] at h1; cases h1; rw [cm_NoChart] at h2; cases h2; exact ⟨xc_TooMany, q_TooMany_NoChart⟩
      · rw [cm_TooMany] at h1; cases h1; rw [cm_NoTable] at h2; cases h2; exact ⟨xc_TooMany, q_TooMany_NoTable⟩
      · rw [cm_TooMany] at h1; cases h1; rw [cm_NoMachine] at h2; cases h2; exact ⟨xc_TooMany, q_TooMany_NoMachine⟩
      · rw [cm_TooMany] at h1; cases h1; rw [cm_NoDeed] at h2; cases h2; exact ⟨xc_TooMany, q_TooMany_NoDeed⟩
      · rw [cm_TooMany] at h1; cases h1; rw [cm_TooMany] at h2; cases h2; exact ⟨xc_TooMany, q_TooMany_TooMany⟩
    errT := fun t ht C h1 => by
      simp only [errT, List.mem_cons, List.not_mem_nil, or_false] at ht
      rcases ht with rfl | rfl
      · rw [cm_NoGrammar] at h1; cases h1; exact ⟨xc_NoGrammar, v_NoGrammar⟩
      · rw [cm_TooMany] at h1; cases h1; exact ⟨xc_TooMany, v_TooMany⟩
    hits_ReadError := fun t ht C h1 => by
      simp only [hits_ReadError, List.mem_cons, List.not_mem_nil, or_false] at ht
      rcases ht with rfl | rfl
      · rw [cm_NoGrammar] at h1; cases h1; exact PySem.W.exm_ref hb_ReadError hd_ReadError ht_ReadError s_NoGrammar_ReadError
      · rw [cm_TooMany] at h1; cases h1; exact PySem.W.exm_ref hb_ReadError hd_ReadError ht_ReadError s_TooMany_ReadError }
  have F0 := fun_mk (st := s_is_name) l0 c0 k0
  have D0 : At K mg "is_name" "is_name" s_is_name ["thing"] := ⟨_, _, F0, F0.binds (ps := ["thing"]) fun _ _ _ _ _ _ us hl => match us, hl with | [_], _ => rfl, PySem.W.mg_of X G a0⟩
  have F1 := fun_mk (st := s_each_once) l1 c1 k1
  have D1 : At K mg "each_once" "each_once" s_each_once ["things"] := ⟨_, _, F1, F1.binds (ps := ["things"]) fun _ _ _ _ _ _ us hl => match us, hl with | [_], _ => rfl, PySem.W.mg_of X G a1⟩
  have F2 := fun_mk (st := s_f_law_draws) l2 c2 k2
  have D2 : At K mg "_law_draws" "_law_draws" s_f_law_draws ["_law_number", "_law_sizes"] := ⟨_, _, F2, F2.binds (ps := ["_law_number", "_law_sizes"]) fun _ _ _ _ _ _ us hl => match us, hl with | [_, _], _ => rfl, PySem.W.mg_of X G a2⟩
  have F3 := fun_mk (st := s_f_law_mix) l3 c3 k3
  have D3 : At K mg "_law_mix" "_law_mix" s_f_law_mix ["_law_number", "_law_k"] := ⟨_, _, F3, F3.binds (ps := ["_law_number", "_law_k"]) fun _ _ _ _ _ _ us hl => match us, hl with | [_, _], _ => rfl, PySem.W.mg_of X G a3⟩
  have F4 := fun_mk (st := s_f_law_word_of) l4 c4 k4
  have D4 : At K mg "_law_word_of" "_law_word_of" s_f_law_word_of ["_law_e"] := ⟨_, _, F4, F4.binds (ps := ["_law_e"]) fun _ _ _ _ _ _ us hl => match us, hl with | [_], _ => rfl, PySem.W.mg_of X G a4⟩
  have F5 := fun_mk (st := s_f_law_odd_rule) l5 c5 k5
  have D5 : At K mg "_law_odd_rule" "_law_odd_rule" s_f_law_odd_rule ["_law_cell"] := ⟨_, _, F5, F5.binds (ps := ["_law_cell"]) fun _ _ _ _ _ _ us hl => match us, hl with | [_], _ => rfl, PySem.W.mg_of X G a5⟩
  have F6 := fun_mk (st := s_f_law_no_list) l6 c6 k6
  have D6 : At K mg "_law_no_list" "_law_no_list" s_f_law_no_list ["_law_cell"] := ⟨_, _, F6, F6.binds (ps := ["_law_cell"]) fun _ _ _ _ _ _ us hl => match us, hl with | [_], _ => rfl, PySem.W.mg_of X G a6⟩
  have F7 := fun_mk (st := s_is_rule) l7 c7 k7
  have D7 : At K mg "is_rule" "is_rule" s_is_rule ["thing"] := ⟨_, _, F7, F7.binds (ps := ["thing"]) fun _ _ _ _ _ _ us hl => match us, hl with | [_], _ => rfl, PySem.W.mg_of X G a7⟩
  have F8 := fun_mk (st := s_f_law_names) l8 c8 k8
  have D8 : At K mg "_law_names" "_law_names" s_f_law_names ["_law_number"] := ⟨_, _, F8, F8.binds (ps := ["_law_number"]) fun _ _ _ _ _ _ us hl => match us, hl with | [_], _ => rfl, PySem.W.mg_of X G a8⟩
  have F9 := fun_mk (st := s_f_law_by_digits) l9 c9 k9
  have D9 : At K mg "_law_by_digits" "_law_by_digits" s_f_law_by_digits ["_law_cell"] := ⟨_, _, F9, F9.binds (ps := ["_law_cell"]) fun _ _ _ _ _ _ us hl => match us, hl with | [_], _ => rfl, PySem.W.mg_of X G a9⟩
  have F10 := fun_mk (st := s_f_law_many) l10 c10 k10
  have D10 : At K mg "_law_many" "_law_many" s_f_law_many ["_law_cell"] := ⟨_, _, F10, F10.binds (ps := ["_law_cell"]) fun _ _ _ _ _ _ us hl => match us, hl with | [_], _ => rfl, PySem.W.mg_of X G a10⟩
  have F11 := fun_mk (st := s_need_rules) l11 c11 k11
  have D11 : At K mg "need_rules" "need_rules" s_need_rules ["things"] := ⟨_, _, F11, F11.binds (ps := ["things"]) fun _ _ _ _ _ _ us hl => match us, hl with | [_], _ => rfl, PySem.W.mg_of X G a11⟩
  have F12 := fun_mk (st := s_f_law_by_mixes) l12 c12 k12
  have D12 : At K mg "_law_by_mixes" "_law_by_mixes" s_f_law_by_mixes ["_law_cell"] := ⟨_, _, F12, F12.binds (ps := ["_law_cell"]) fun _ _ _ _ _ _ us hl => match us, hl with | [_], _ => rfl, PySem.W.mg_of X G a12⟩
  have F13 := fun_mk (st := s_Grammar_init) l13 c13 k13
  have B13 := F13.binds (ps := ["self", "rules"]) fun _ _ _ _ _ _ us hl => match us, hl with | [_, _], _ => rfl
  have F14 := fun_mk (st := s_f_law_rules) l14 c14 k14
  have D14 : At K mg "_law_rules" "_law_rules" s_f_law_rules ["_law_cell"] := ⟨_, _, F14, F14.binds (ps := ["_law_cell"]) fun _ _ _ _ _ _ us hl => match us, hl with | [_], _ => rfl, PySem.W.mg_of X G a14⟩
  have F15 := fun_mk (st := s_f_law_made) l15 c15 k15
  have D15 : At K mg "_law_made" "_law_made" s_f_law_made ["_law_rules_here"] := ⟨_, _, F15, F15.binds (ps := ["_law_rules_here"]) fun _ _ _ _ _ _ us hl => match us, hl with | [_], _ => rfl, PySem.W.mg_of X G a15⟩
  have F16 := fun_mk (st := s_f_law_many_right) l16 c16 k16
  have D16 : At K mg "_law_many_right" "_law_many_right" s_f_law_many_right ["_law_more"] := ⟨_, _, F16, F16.binds (ps := ["_law_more"]) fun _ _ _ _ _ _ us hl => match us, hl with | [_], _ => rfl, PySem.W.mg_of X G a16⟩
  have F17 := fun_mk (st := s_f_law_right) l17 c17 k17
  have D17 : At K mg "_law_right" "_law_right" s_f_law_right ["_law_cell"] := ⟨_, _, F17, F17.binds (ps := ["_law_cell"]) fun _ _ _ _ _ _ us hl => match us, hl with | [_], _ => rfl, PySem.W.mg_of X G a17⟩
  have F18 := fun_mk (st := s_law) l18 c18 k18
  have D18 : At K mg "law" "law" s_law ["_law_script"] := ⟨_, _, F18, F18.binds (ps := ["_law_script"]) fun _ _ _ _ _ _ us hl => match us, hl with | [_], _ => rfl, PySem.W.mg_of X G a18⟩
  have e := hfa.symm.trans (PySem.W.mg_of X G a18)
  cases e
  refine ⟨PySem.W.fnOf "law" "law" (defArgs s_law) (defBody s_law) (defScope s_law) .none kV18 dc18 pm18 an18 cd18 ct18, fun s v => .of_eq rfl, fun base _ _ => ?_⟩
  have O_is_name := ok_is_name (P := l.prog) (w := w) (base := base) T D0 
  have O_each_once := ok_each_once (P := l.prog) (w := w) (base := base) T D1 
  have O_f_law_draws := ok_f_law_draws (P := l.prog) (w := w) (base := base) T D2 
  have O_f_law_mix := ok_f_law_mix (P := l.prog) (w := w) (base := base) T D3 
  have O_f_law_word_of := ok_f_law_word_of (P := l.prog) (w := w) (base := base) T D4 
  have O_f_law_odd_rule := ok_f_law_odd_rule (P := l.prog) (w := w) (base := base) T D5 
  have O_f_law_no_list := ok_f_law_no_list (P := l.prog) (w := w) (base := base) T D6 
  have O_is_rule := ok_is_rule (P := l.prog) (w := w) (base := base) T D7 O_is_name
  have O_f_law_names := ok_f_law_names (P := l.prog) (w := w) (base := base) T D8 O_f_law_draws O_f_law_mix
  have O_f_law_by_digits := ok_f_law_by_digits (P := l.prog) (w := w) (base := base) T D9 O_f_law_draws
  have O_f_law_many := ok_f_law_many (P := l.prog) (w := w) (base := base) T D10 O_f_law_odd_rule
  have O_need_rules := ok_need_rules (P := l.prog) (w := w) (base := base) T D11 O_is_rule
  have O_f_law_by_mixes := ok_f_law_by_mixes (P := l.prog) (w := w) (base := base) T D12 O_f_law_names O_f_law_mix O_f_law_draws
  have O_Grammar_init := ok_Grammar_init (P := l.prog) (w := w) (base := base) T F13 B13 ⟨mk_Grammar, a13, i13, kc_Grammar⟩ O_need_rules O_each_once
  have O_f_law_rules := ok_f_law_rules (P := l.prog) (w := w) (base := base) T D14 O_f_law_by_digits O_f_law_by_mixes
  have O_f_law_made := ok_f_law_made (P := l.prog) (w := w) (base := base) T D15 O_Grammar_init O_f_law_word_of
  have O_f_law_many_right := ok_f_law_many_right (P := l.prog) (w := w) (base := base) T D16 O_f_law_many O_f_law_made
  have O_f_law_right := ok_f_law_right (P := l.prog) (w := w) (base := base) T D17 O_f_law_rules O_f_law_draws O_f_law_mix O_f_law_made O_f_law_odd_rule O_f_law_no_list O_f_law_many_right
  exact (fn_law (P := l.prog) (w := w) (base := base) T F18 O_f_law_right).imp (law_imp rfl hlaw)
end Lw
open PySem PySem.W PyProof.Rows
set_option maxHeartbeats 0 in
theorem PySem.Challenge.cw_paperreader_k13_grammars_refused_holds : PySem.Challenge.rw_paperreader_k13_grammars_refused.Holds := by
  w_on; o_law; k_head; (case hw => w_witness2)
  k_fill
  refine VI.walkG_of (l := PySem.Challenge.rw_paperreader_k13_grammars_refused) (n := 63) (k := 9) (x := "_law_script") (CX := fun _ => L2.CX0) (sp := fun w => VI.spLaw _) rfl (by decide) rfl ⟨rfl, by decide, by decide⟩ (fun w h Y => PySem.W.kIn_of Y) ?F (fun _ _ a ns hl _ hS => ⟨a, ns, rfl, hS, hl, fun _ => rfl⟩) (fun _ _ _ _ _ h => h)
  case F =>
    intro w mg fa h KX G hmg
    refine' Lw.all_mk KX G hmg ?g_ReadError ?g_NoGrammar ?g_NoText ?g_NoRow ?g_NoPart ?g_NoTree ?g_NoChart ?g_NoTable ?g_NoMachine ?g_NoDeed ?g_TooMany ?g_Grammar ?a0 ?l0 ?c0 ?k0 ?a1 ?l1 ?c1 ?k1 ?a2 ?l2 ?c2 ?k2 ?a3 ?l3 ?c3 ?k3 ?a4 ?l4 ?c4 ?k4 ?a5 ?l5 ?c5 ?k5 ?a6 ?l6 ?c6 ?k6 ?a7 ?l7 ?c7 ?k7 ?a8 ?l8 ?c8 ?k8 ?a9 ?l9 ?c9 ?k9 ?a10 ?l10 ?c10 ?k10 ?a11 ?l11 ?c11 ?k11 ?a12 ?l12 ?c12 ?k12 ?a13 ?i13 ?l13 ?c13 ?k13 ?a14 ?l14 ?c14 ?k14 ?a15 ?l15 ?c15 ?k15 ?a16 ?l16 ?c16 ?k16 ?a17 ?l17 ?c17 ?k17 ?a18 ?l18 ?c18 ?k18 ?z0 ?z1 ?z2 ?z3 ?z4 ?z5 ?z6 ?z7 ?z8 ?z9 ?z10 ?z11 ?z12 ?z13 ?y0 ?y1 ?y2 ?y3 ?ex_NoGrammar ?ek_NoGrammar ?eb_NoGrammar ?et_NoGrammar ?eg_NoGrammar ?eh_NoGrammar ?ed_NoGrammar ?ea_NoGrammar ?em_NoGrammar ?q_NoGrammar_NoGrammar ?q_NoGrammar_NoText ?q_NoGrammar_NoRow ?q_NoGrammar_NoPart ?q_NoGrammar_NoTree ?q_NoGrammar_NoChart ?q_NoGrammar_NoTable ?q_NoGrammar_NoMachine ?q_NoGrammar_NoDeed ?q_NoGrammar_TooMany ?v_NoGrammar ?s_NoGrammar_ReadError ?ex_TooMany ?ek_TooMany ?eb_TooMany ?et_TooMany ?eg_TooMany ?eh_TooMany ?ed_TooMany ?ea_TooMany ?em_TooMany ?q_TooMany_NoGrammar ?q_TooMany_NoText ?q_TooMany_NoRow ?q_TooMany_NoPart ?q_TooMany_NoTree ?q_TooMany_NoChart ?q_TooMany_NoTable ?q_TooMany_NoMachine ?q_TooMany_NoDeed ?q_TooMany_TooMany ?v_TooMany ?s_TooMany_ReadError ?on ?ot ?hb_ReadError ?hd_ReadError ?ht_ReadError ?pg_Grammar ?od_Grammar ?po_Grammar ?sa_Grammar ?mk_Grammar ?kc_Grammar ?nf_Grammar_rules ?nf_Grammar_parts ?nf_Grammar_start ?nf_Grammar_numbers ?nf_Grammar_words Lw.law_true
    (case g_ReadError => k_is)
    (case g_NoGrammar => k_is)
    (case g_NoText => k_is)
    (case g_NoRow => k_is)
    (case g_NoPart => k_is)
    (case g_NoTree => k_is)
    (case g_NoChart => k_is)
    (case g_NoTable => k_is)
    (case g_NoMachine => k_is)
    (case g_NoDeed => k_is)
    (case g_TooMany => k_is)
    (case g_Grammar => k_is)
    (case a0 => k_is)
    (case l0 => k_is)
    (case c0 => k_is)
    (case k0 => k_is)
    (case a1 => k_is)
    (case l1 => k_is)
    (case c1 => k_is)
    (case k1 => k_is)
    (case a2 => k_is)
    (case l2 => k_is)
    (case c2 => k_is)
    (case k2 => k_is)
    (case a3 => k_is)
    (case l3 => k_is)
    (case c3 => k_is)
    (case k3 => k_is)
    (case a4 => k_is)
    (case l4 => k_is)
    (case c4 => k_is)
    (case k4 => k_is)
    (case a5 => k_is)
    (case l5 => k_is)
    (case c5 => k_is)
    (case k5 => k_is)
    (case a6 => k_is)
    (case l6 => k_is)
    (case c6 => k_is)
    (case k6 => k_is)
    (case a7 => k_is)
    (case l7 => k_is)
    (case c7 => k_is)
    (case k7 => k_is)
    (case a8 => k_is)
    (case l8 => k_is)
    (case c8 => k_is)
    (case k8 => k_is)
    (case a9 => k_is)
    (case l9 => k_is)
    (case c9 => k_is)
    (case k9 => k_is)
    (case a10 => k_is)
    (case l10 => k_is)
    (case c10 => k_is)
    (case k10 => k_is)
    (case a11 => k_is)
    (case l11 => k_is)
    (case c11 => k_is)
    (case k11 => k_is)
    (case a12 => k_is)
    (case l12 => k_is)
    (case c12 => k_is)
    (case k12 => k_is)
    (case a13 => k_is)
    (case i13 => k_is)
    (case l13 => k_is)
    (case c13 => k_is)
    (case k13 => k_is)
    (case a14 => k_is)
    (case l14 => k_is)
    (case c14 => k_is)
    (case k14 => k_is)
    (case a15 => k_is)
    (case l15 => k_is)
    (case c15 => k_is)
    (case k15 => k_is)
    (case a16 => k_is)
    (case l16 => k_is)
    (case c16 => k_is)
    (case k16 => k_is)
    (case a17 => k_is)
    (case l17 => k_is)
    (case c17 => k_is)
    (case k17 => k_is)
    (case a18 => k_is)
    (case l18 => k_is)
    (case c18 => k_is)
    (case k18 => k_is)
    (case z0 => k_is)
    (case z1 => k_is)
    (case z2 => k_is)
    (case z3 => k_is)
    (case z4 => k_is)
    (case z5 => k_is)
    (case z6 => k_is)
    (case z7 => k_is)
    (case z8 => k_is)
    (case z9 => k_is)
    (case z10 => k_is)
    (case z11 => k_is)
    (case z12 => k_is)
    (case z13 => k_is)
    (case y0 => k_is)
    (case y1 => k_is)
    (case y2 => k_is)
    (case y3 => k_is)
    (case ex_NoGrammar => k_exc)
    (case ek_NoGrammar => k_is)
    (case eb_NoGrammar => k_is)
    (case et_NoGrammar => k_is)
    (case eg_NoGrammar => k_is)
    (case eh_NoGrammar => k_is)
    (case ed_NoGrammar => k_is)
    (case ea_NoGrammar => k_is)
    (case em_NoGrammar => k_is)
    (case q_NoGrammar_NoGrammar => first | kit_is | k_is)
    (case q_NoGrammar_NoText => first | kit_is | k_is)
    (case q_NoGrammar_NoRow => first | kit_is | k_is)
    (case q_NoGrammar_NoPart => first | kit_is | k_is)
    (case q_NoGrammar_NoTree => first | kit_is | k_is)
    (case q_NoGrammar_NoChart => first | kit_is | k_is)
    (case q_NoGrammar_NoTable => first | kit_is | k_is)
    (case q_NoGrammar_NoMachine => first | kit_is | k_is)
    (case q_NoGrammar_NoDeed => first | kit_is | k_is)
    (case q_NoGrammar_TooMany => first | kit_is | k_is)
    (case v_NoGrammar => first | kit_is | k_is)
    (case s_NoGrammar_ReadError => first | k_is | rfl)
    (case ex_TooMany => k_exc)
    (case ek_TooMany => k_is)
    (case eb_TooMany => k_is)
    (case et_TooMany => k_is)
    (case eg_TooMany => k_is)
    (case eh_TooMany => k_is)
    (case ed_TooMany => k_is)
    (case ea_TooMany => k_is)
    (case em_TooMany => k_is)
    (case q_TooMany_NoGrammar => first | kit_is | k_is)
    (case q_TooMany_NoText => first | kit_is | k_is)
    (case q_TooMany_NoRow => first | kit_is | k_is)
    (case q_TooMany_NoPart => first | kit_is | k_is)
    (case q_TooMany_NoTree => first | kit_is | k_is)
    (case q_TooMany_NoChart => first | kit_is | k_is)
    (case q_TooMany_NoTable => first | kit_is | k_is)
    (case q_TooMany_NoMachine => first | kit_is | k_is)
    (case q_TooMany_NoDeed => first | kit_is | k_is)
    (case q_TooMany_TooMany => first | kit_is | k_is)
    (case v_TooMany => first | kit_is | k_is)
    (case s_TooMany_ReadError => first | k_is | rfl)
    (case on => k_is)
    (case ot => k_is)
    (case hb_ReadError => k_is)
    (case hd_ReadError => k_is)
    (case ht_ReadError => k_is)
    (case pg_Grammar => k_is)
    (case od_Grammar => k_is)
    (case po_Grammar => k_is)
    (case sa_Grammar => k_is)
    (case mk_Grammar => k_is)
    (case kc_Grammar => k_is)
    (case nf_Grammar_rules => k_is)
    (case nf_Grammar_parts => k_is)
    (case nf_Grammar_start => k_is)
    (case nf_Grammar_numbers => k_is)
    (case nf_Grammar_words => k_is)
