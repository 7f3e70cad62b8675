import PyProof.Rows.All
import Wide.All
import OpenK.AllK
import Wide.FinOn
import KE.KStateDown
import HandS.ForMost
import HandS.ForExc
import HandS.More
import HandS.Flow
import HandS.IsInst
import HandS.Defaults
import HandS.HeadHook4
import HandS.HeadWalk
import HandS.TupLe
import HandS.TupAny
import HandS.Deep
import HandS.SetFor
import HandS.RaiseMore
import HandS.CallSlots
import HandS.Style
import PySem.Challenge.RW_sheetdesk_k04_values_and_their_order
import HandS.Head0
import HandS.Head1
import HandS.Head2
import HandS.HeadEnd
import HandS.HeadHook1
import HandS.HeadHook2
import HandS.HeadHook3
set_option Elab.async false
set_option linter.all false
set_option maxRecDepth 100000
set_option maxHeartbeats 0
namespace Mp
open PySem PySem.Spec PyProof.Rows L2

inductive D where
  | non | bl (b : Bool) | int (i : Int) | str (s : Str)
  | tup (xs : List D) | lst (xs : List D) | scr (xs : List Int)
  | loc (n : Nat)
  deriving Inhabited

/-- a thing that may change -/
inductive O where
  | lst (xs : List D)
  | dk (kvs : List (Key × D))
  | dt (kvs : List (List Key × D))
  | ins (c : Str) (fs : List (Str × D))
  | fdk (kvs : List (Key × D))
  | fdt (kvs : List (List Key × D))
/-- locked: a dict that is walked -/
def O.lk : O → Bool
  | .fdk _ => true
  | .fdt _ => true
  | _ => false

structure Sto where
  next : Nat
  cells : List (Nat × O)
def Sto.get (st : Sto) (n : Nat) : Option O := st.cells.lookup n
def setC (n : Nat) (o : O) : List (Nat × O) → List (Nat × O)
  | [] => []
  | (m, u) :: r => if m = n then (m, o) :: r else (m, u) :: setC n o r
def Sto.set (st : Sto) (n : Nat) (o : O) : Sto := ⟨st.next, setC n o st.cells⟩
def Sto.new (st : Sto) (o : O) : Sto := ⟨st.next + 1, (st.next, o) :: st.cells⟩
def Sto.del (st : Sto) (n : Nat) : Sto := ⟨st.next, st.cells.filter fun c => decide (c.1 ≠ n)⟩
/-- what is younger than k falls -/
def Sto.cut (st : Sto) (k : Nat) : Sto := ⟨st.next, st.cells.filter fun c => decide (c.1 < k)⟩

theorem lookup_setC {n m : Nat} {o u : O} : ∀ {l : List (Nat × O)}, (setC n o l).lookup m = some u → (m = n ∧ u = o) ∨ (m ≠ n ∧ l.lookup m = some u)
  | [], h => by cases h
  | (k, x) :: r, h => by
    unfold setC at h
    by_cases hk : k = n
    · rw [if_pos hk] at h
      by_cases hm : m = k
      · subst hm
        simp only [List.lookup, beq_self_eq_true] at h
        exact .inl ⟨hk, (Option.some.inj h).symm⟩
      · have hb : (m == k) = false := by simpa using hm
        simp only [List.lookup, hb] at h
        refine .inr ⟨fun z => hm (z.trans hk.symm), ?_⟩
        simp only [List.lookup, hb]
        exact h
    · rw [if_neg hk] at h
      by_cases hm : m = k
      · subst hm
        simp only [List.lookup, beq_self_eq_true] at h
        refine .inr ⟨hk, ?_⟩
        simp only [List.lookup, beq_self_eq_true]
        exact h
      · have hb : (m == k) = false := by simpa using hm
        simp only [List.lookup, hb] at h
        rcases lookup_setC h with z | ⟨z1, z2⟩
        · exact .inl z
        · refine .inr ⟨z1, ?_⟩
          simp only [List.lookup, hb]
          exact z2
theorem lookup_filter {m : Nat} {u : O} {p : Nat → Bool} : ∀ {l : List (Nat × O)}, (l.filter fun c => p c.1).lookup m = some u → l.lookup m = some u ∧ p m = true
  | [], h => by cases h
  | (k, x) :: r, h => by
    by_cases hp : p k = true
    · rw [List.filter_cons_of_pos (by simpa using hp)] at h
      by_cases hm : m = k
      · subst hm
        simp only [List.lookup, beq_self_eq_true] at h ⊢
        exact ⟨h, hp⟩
      · have hb : (m == k) = false := by simpa using hm
        simp only [List.lookup, hb] at h ⊢
        exact lookup_filter h
    · rw [List.filter_cons_of_neg (by simpa using hp)] at h
      obtain ⟨h1, h2⟩ := lookup_filter h
      refine ⟨?_, h2⟩
      have hm : m ≠ k := fun z => hp (z ▸ h2)
      have hb : (m == k) = false := by simpa using hm
      simp only [List.lookup, hb]
      exact h1
theorem get_new {st : Sto} {o u : O} {m : Nat} (h : (st.new o).get m = some u) : (m = st.next ∧ u = o) ∨ (m ≠ st.next ∧ st.get m = some u) := by
  unfold Sto.get Sto.new at h
  by_cases hm : m = st.next
  · subst hm
    simp only [List.lookup, beq_self_eq_true] at h
    exact .inl ⟨rfl, (Option.some.inj h).symm⟩
  · have hb : (m == st.next) = false := by simpa using hm
    simp only [List.lookup, hb] at h
    exact .inr ⟨hm, h⟩

/-- an exception: its class's name, its attributes -/
structure Xn where
  cls : Str
  fs : List (Str × D)
inductive R (ε α : Type) where
  | ok (a : α) (st : Sto)
  | exc (e : ε) (st : Sto)
  | no
def R.bind {ε α β : Type} (r : R ε α) (f : α → Sto → R ε β) : R ε β := match r with
  | .ok a st => f a st
  | .exc e st => .exc e st
  | .no => .no
abbrev M (α : Type) := Sto → R Xn α
@[reducible] def M.bind {α β : Type} (m : M α) (f : α → M β) : M β := fun st => (m st).bind f
@[reducible] def M.ret {α : Type} (a : α) : M α := fun st => .ok a st
@[reducible] def M.no {α : Type} : M α := fun _ => .no
abbrev Ev := List (Option D)

/-- F: what is frozen; B: what is hidden (kept, never named); φ: where the store's things stand -/
structure Wd where
  F : Addr → Prop
  B : Addr → Prop
  φ : Nat → Addr
def Wd.addF (w : Wd) (p : Addr) : Wd := ⟨fun a => w.F a ∨ a = p, w.B, w.φ⟩
/-- a list of the written part -/
def KLst (K : PySem.W.Frag) (a : Addr) (xs : List V) : Prop :=
  ∃ (o : Obj) (its : Array Value) (n : Nat), K.lookup a = some o ∧ o.cls = .type "list" ∧ o.dict = none ∧ o.data = .seq its n ∧ its.size ≤ sizeLine ∧ Vals xs its.toList
/-- a tuple of the written part -/
def KTup (K : PySem.W.Frag) (a : Addr) (xs : List V) : Prop :=
  ∃ (o : Obj) (its : Array Value) (n : Nat), K.lookup a = some o ∧ o.cls = .type "tuple" ∧ o.data = .seq its n ∧ its.size ≤ sizeLine ∧ Vals xs its.toList
section
variable (K : PySem.W.Frag) (H : Hp) (w : Wd) (nx : Nat)
mutual
def RelD : D → V → Prop
  | .non, v => v = .non
  | .bl b, v => v = .bl b
  | .int i, v => v = .int i
  | .str s, v => v = .str s
  | .tup ds, v => ∃ a vs, v = .ref a ∧ ((w.F a ∧ H a = some (.tup vs)) ∨ (KTup K a vs ∧ ∃ x r, vs = .str x :: r)) ∧ RelDs ds vs
  | .lst ds, v => ∃ a vs, v = .ref a ∧ w.F a ∧ H a = some (.lst vs) ∧ RelDs ds vs
  | .scr ns, v => ∃ a, v = .ref a ∧ ((∃ o, w.F a ∧ H a = some (.frz o (.lst (ns.map V.int)))) ∨ KLst K a (ns.map V.int))
  | .loc n, v => n < nx ∧ v = .ref (w.φ n)
def RelDs : List D → List V → Prop
  | [], vs => vs = []
  | d :: ds, vs => ∃ v r, vs = v :: r ∧ RelD d v ∧ RelDs ds r
end
end

/-- what stood stands -/
structure Ext (H : Hp) (w : Wd) (nx : Nat) (H' : Hp) (w' : Wd) (nx' : Nat) : Prop where
  le : nx ≤ nx'
  φ : ∀ n, n < nx → w'.φ n = w.φ n
  F : ∀ a, w.F a → w'.F a ∧ H' a = H a
  B : ∀ a, w.B a → w'.B a ∧ H' a = H a
theorem Ext.refl {H : Hp} {w : Wd} {nx : Nat} : Ext H w nx H w nx := ⟨Nat.le_refl _, fun _ _ => rfl, fun _ h => ⟨h, rfl⟩, fun _ h => ⟨h, rfl⟩⟩
theorem Ext.trans {H H1 H2 : Hp} {w w1 w2 : Wd} {n n1 n2 : Nat} (a : Ext H w n H1 w1 n1) (b : Ext H1 w1 n1 H2 w2 n2) : Ext H w n H2 w2 n2 :=
  ⟨Nat.le_trans a.le b.le, fun k hk => (b.φ k (Nat.lt_of_lt_of_le hk a.le)).trans (a.φ k hk), fun c hc => ⟨(b.F c (a.F c hc).1).1, (b.F c (a.F c hc).1).2.trans (a.F c hc).2⟩, fun c hc => ⟨(b.B c (a.B c hc).1).1, (b.B c (a.B c hc).1).2.trans (a.B c hc).2⟩⟩
section
variable {K : PySem.W.Frag} {H H' : Hp} {w w' : Wd} {nx nx' : Nat}
mutual
theorem RelD.mono (e : Ext H w nx H' w' nx') : ∀ {d : D} {v : V}, RelD K H w nx d v → RelD K H' w' nx' d v
  | .non, _, h => h
  | .bl _, _, h => h
  | .int _, _, h => h
  | .str _, _, h => h
  | .tup ds, v, h => by
    unfold RelD at h ⊢
    obtain ⟨a, vs, rfl, h1, h2⟩ := h
    refine ⟨a, vs, rfl, ?_, RelDs.mono e h2⟩
    rcases h1 with ⟨f, q⟩ | q
    · exact .inl ⟨(e.F a f).1, (e.F a f).2.trans q⟩
    · exact .inr q
  | .lst ds, v, h => by
    unfold RelD at h ⊢
    obtain ⟨a, vs, rfl, f, q, h2⟩ := h
    exact ⟨a, vs, rfl, (e.F a f).1, (e.F a f).2.trans q, RelDs.mono e h2⟩
  | .scr ns, v, h => by
    unfold RelD at h ⊢
    obtain ⟨a, rfl, h⟩ := h
    refine ⟨a, rfl, ?_⟩
    rcases h with ⟨o, f, q⟩ | h
    · exact .inl ⟨o, (e.F a f).1, (e.F a f).2.trans q⟩
    · exact .inr h
  | .loc n, v, h => by
    unfold RelD at h ⊢
    obtain ⟨h1, rfl⟩ := h
    exact ⟨Nat.lt_of_lt_of_le h1 e.le, by rw [e.φ n h1]⟩
theorem RelDs.mono (e : Ext H w nx H' w' nx') : ∀ {ds : List D} {vs : List V}, RelDs K H w nx ds vs → RelDs K H' w' nx' ds vs
  | [], _, h => h
  | d :: ds, vs, h => by
    unfold RelDs at h ⊢
    obtain ⟨v, r, rfl, h1, h2⟩ := h
    exact ⟨v, r, rfl, RelD.mono e h1, RelDs.mono e h2⟩
end
theorem RelDs.length : ∀ {ds : List D} {vs : List V}, RelDs K H w nx ds vs → ds.length = vs.length
  | [], _, h => by cases h; rfl
  | d :: ds, vs, h => by
    unfold RelDs at h
    obtain ⟨v, r, rfl, h1, h2⟩ := h
    simp [RelDs.length h2]
theorem RelDs.get : ∀ {ds : List D} {vs : List V} {i : Nat} {d : D}, RelDs K H w nx ds vs → ds[i]? = some d → ∃ v, vs[i]? = some v ∧ RelD K H w nx d v
  | [], _, _, _, h, e => by simp at e
  | d :: ds, vs, i, x, h, e => by
    unfold RelDs at h
    obtain ⟨v, r, rfl, h1, h2⟩ := h
    cases i with
    | zero => simp at e; subst e; exact ⟨v, rfl, h1⟩
    | succ i =>
      obtain ⟨u, q1, q2⟩ := RelDs.get (i := i) h2 (by simpa using e)
      exact ⟨u, by simpa using q1, q2⟩
theorem RelDs.append : ∀ {ds es : List D} {vs us : List V}, RelDs K H w nx ds vs → RelDs K H w nx es us → RelDs K H w nx (ds ++ es) (vs ++ us)
  | [], _, _, _, h, q => by cases h; exact q
  | d :: ds, _, _, _, h, q => by
    unfold RelDs at h
    obtain ⟨v, r, rfl, h1, h2⟩ := h
    show RelDs K H w nx (d :: (ds ++ _)) (v :: (r ++ _))
    unfold RelDs
    exact ⟨v, _, rfl, h1, RelDs.append h2 q⟩
theorem RelDs.take : ∀ (n : Nat) {ds : List D} {vs : List V}, RelDs K H w nx ds vs → RelDs K H w nx (ds.take n) (vs.take n)
  | 0, _, _, _ => rfl
  | n + 1, [], _, h => by cases h; rfl
  | n + 1, d :: ds, _, h => by
    unfold RelDs at h
    obtain ⟨v, r, rfl, h1, h2⟩ := h
    show RelDs K H w nx (d :: ds.take n) (v :: r.take n)
    unfold RelDs
    exact ⟨v, _, rfl, h1, RelDs.take n h2⟩
theorem RelDs.drop : ∀ (n : Nat) {ds : List D} {vs : List V}, RelDs K H w nx ds vs → RelDs K H w nx (ds.drop n) (vs.drop n)
  | 0, _, _, h => h
  | n + 1, [], _, h => by cases h; rfl
  | n + 1, d :: ds, _, h => by
    unfold RelDs at h
    obtain ⟨v, r, rfl, h1, h2⟩ := h
    exact RelDs.drop n h2
theorem RelDs.set {d : D} {v : V} (q : RelD K H w nx d v) : ∀ (n : Nat) {ds : List D} {vs : List V}, RelDs K H w nx ds vs → RelDs K H w nx (ds.set n d) (vs.set n v)
  | _, [], _, h => by cases h; rfl
  | 0, e :: ds, _, h => by
    unfold RelDs at h
    obtain ⟨u, r, rfl, h1, h2⟩ := h
    show RelDs K H w nx (d :: ds) (v :: r)
    unfold RelDs
    exact ⟨v, _, rfl, q, h2⟩
  | n + 1, e :: ds, _, h => by
    unfold RelDs at h
    obtain ⟨u, r, rfl, h1, h2⟩ := h
    show RelDs K H w nx (e :: ds.set n d) (u :: r.set n v)
    unfold RelDs
    exact ⟨u, _, rfl, h1, RelDs.set q n h2⟩
theorem RelDs.rep {ds : List D} {vs : List V} (h : RelDs K H w nx ds vs) : ∀ k : Nat, RelDs K H w nx (List.replicate k ds).flatten (List.replicate k vs).flatten
  | 0 => rfl
  | k + 1 => by
    rw [List.replicate_succ, List.replicate_succ, List.flatten_cons, List.flatten_cons]
    exact RelDs.append h (RelDs.rep h k)
end

def keyD : D → Option Key
  | .int i => some (.inl i)
  | .str s => some (.inr s)
  | _ => none
def keysDs : List D → Option (List Key)
  | [] => some []
  | d :: ds => match keyD d, keysDs ds with
    | some k, some ks => some (k :: ks)
    | _, _ => none
/-- a place as a key: its first part is an int -/
def keyT : D → Option (List Key)
  | .tup (.int i :: ds) => keysDs (.int i :: ds)
  | _ => none
def kD : Key → D
  | .inl i => .int i
  | .inr s => .str s
section
variable (K : PySem.W.Frag) (H : Hp) (w : Wd) (nx : Nat)
def RelKV {κ : Type} : List (κ × D) → List (κ × V) → Prop
  | [], l => l = []
  | (k, d) :: r, l => ∃ v l', l = (k, v) :: l' ∧ RelD K H w nx d v ∧ RelKV r l'
def RelF : List (Str × D) → List (Str × V) → Prop
  | [], l => l = []
  | (x, d) :: r, l => ∃ v l', l = (x, v) :: l' ∧ RelD K H w nx d v ∧ RelF r l'
def RelO : O → HO → Prop
  | .lst ds, o => ∃ vs, o = .lst vs ∧ RelDs K H w nx ds vs
  | .dk kvs, o => ∃ l, o = .dK l ∧ RelKV K H w nx kvs l
  | .dt kvs, o => ∃ l, o = .dT l ∧ RelKV K H w nx kvs l
  | .ins c fs, o => ∃ dx l, o = .ins (He.ga K c) dx l ∧ RelF K H w nx fs l
  | .fdk kvs, o => ∃ ob l, o = .frz ob (.dK l) ∧ RelKV K H w nx kvs l
  | .fdt kvs, o => ∃ ob l, o = .frz ob (.dT l) ∧ RelKV K H w nx kvs l
/-- the store is held -/
structure StOk (st : Sto) : Prop where
  inj : ∀ m n, m < st.next → n < st.next → w.φ m = w.φ n → m = n
  used : ∀ n, n < st.next → H (w.φ n) ≠ none
  cell : ∀ n o, st.get n = some o → n < st.next ∧ (w.F (w.φ n) ↔ o.lk = true) ∧ ∃ ho, H (w.φ n) = some ho ∧ RelO K H w st.next o ho
  fz : ∀ a, w.F a → H a ≠ none
  bz : ∀ a, w.B a → (∃ o, H a = some o ∧ ∀ vs, o ≠ .tup vs) ∧ ¬ w.F a ∧ ∀ n, n < st.next → w.φ n ≠ a
/-- the names' values -/
structure EvOk (ρ : Ev) (σ : L2.St) : Prop where
  len : ρ.length = σ.length
  at_ : ∀ (i : Nat) d, ρ[i]? = some (some d) → ∃ v, σ[i]? = some (some v) ∧ RelD K H w nx d v
end
section
variable {K : PySem.W.Frag} {H H' : Hp} {w w' : Wd} {nx nx' : Nat}
theorem RelKV.mono {κ : Type} (e : Ext H w nx H' w' nx') : ∀ {kvs : List (κ × D)} {l : List (κ × V)}, RelKV K H w nx kvs l → RelKV K H' w' nx' kvs l
  | [], _, h => h
  | (k, d) :: r, _, h => by
    obtain ⟨v, l', rfl, h2, h3⟩ := h
    exact ⟨v, l', rfl, h2.mono e, RelKV.mono e h3⟩
theorem RelF.mono (e : Ext H w nx H' w' nx') : ∀ {fs : List (Str × D)} {l : List (Str × V)}, RelF K H w nx fs l → RelF K H' w' nx' fs l
  | [], _, h => h
  | (x, d) :: r, _, h => by
    obtain ⟨v, l', rfl, h2, h3⟩ := h
    exact ⟨v, l', rfl, h2.mono e, RelF.mono e h3⟩
theorem RelO.mono (e : Ext H w nx H' w' nx') : ∀ {o : O} {ho : HO}, RelO K H w nx o ho → RelO K H' w' nx' o ho
  | .lst ds, _, h => by
    obtain ⟨vs, rfl, h⟩ := h
    exact ⟨vs, rfl, h.mono e⟩
  | .dk kvs, _, h => by
    obtain ⟨l, rfl, h⟩ := h
    exact ⟨l, rfl, h.mono e⟩
  | .dt kvs, _, h => by
    obtain ⟨l, rfl, h⟩ := h
    exact ⟨l, rfl, h.mono e⟩
  | .ins c fs, _, h => by
    obtain ⟨dx, l, rfl, h⟩ := h
    exact ⟨dx, l, rfl, h.mono e⟩
  | .fdk kvs, _, h => by
    obtain ⟨ob, l, rfl, h⟩ := h
    exact ⟨ob, l, rfl, h.mono e⟩
  | .fdt kvs, _, h => by
    obtain ⟨ob, l, rfl, h⟩ := h
    exact ⟨ob, l, rfl, h.mono e⟩
theorem EvOk.mono {ρ : Ev} {σ : L2.St} (h : EvOk K H w nx ρ σ) (e : Ext H w nx H' w' nx') : EvOk K H' w' nx' ρ σ :=
  ⟨h.len, fun i d q => let ⟨v, a, b⟩ := h.at_ i d q; ⟨v, a, b.mono e⟩⟩
theorem EvOk.set {ρ : Ev} {σ : L2.St} {d : D} {v : V} (h : EvOk K H w nx ρ σ) (r : RelD K H w nx d v) (i : Nat) : EvOk K H w nx (ρ.set i (some d)) (σ.set i (some v)) := by
  refine ⟨by simpa using h.len, fun j e q => ?_⟩
  by_cases hj : i = j
  · subst hj
    by_cases hl : i < ρ.length
    · rw [List.getElem?_set_self hl] at q
      cases q
      exact ⟨v, List.getElem?_set_self (by rw [← h.len]; exact hl), r⟩
    · rw [List.getElem?_eq_none (by simpa using hl)] at q
      cases q
  · rw [List.getElem?_set_ne hj] at q ⊢
    exact h.at_ j e q
theorem EvOk.wipe {ρ : Ev} {σ : L2.St} (h : EvOk K H w nx ρ σ) (i : Nat) : EvOk K H w nx (ρ.set i none) (σ.set i none) := by
  refine ⟨by simpa using h.len, fun j e q => ?_⟩
  by_cases hj : i = j
  · subst hj
    by_cases hl : i < ρ.length
    · rw [List.getElem?_set_self hl] at q
      cases q
    · rw [List.getElem?_eq_none (by simpa using hl)] at q
      cases q
  · rw [List.getElem?_set_ne hj] at q ⊢
    exact h.at_ j e q

theorem StOk.bn {st : Sto} (S : StOk K H w st) {a : Addr} (h : w.B a) : H a ≠ none := fun z => by
  obtain ⟨o, e, _⟩ := (S.bz a h).1
  rw [z] at e
  cases e
/-- a new immutable thing at p -/
theorem ext_imm {st : Sto} {p : Addr} {o : HO} (S : StOk K H w st) (hp : H p = none) : Ext H w st.next (upd H p o) (w.addF p) st.next :=
  ⟨Nat.le_refl _, fun _ _ => rfl, fun a h => ⟨.inl h, upd_ne fun z => S.fz a h (by rw [z]; exact hp)⟩, fun a h => ⟨h, upd_ne fun z => S.bn h (by rw [z]; exact hp)⟩⟩
theorem StOk.imm {st : Sto} {p : Addr} {o : HO} (S : StOk K H w st) (hp : H p = none) : StOk K (upd H p o) (w.addF p) st := by
  have e := ext_imm (o := o) S hp
  have np : ∀ n, n < st.next → w.φ n ≠ p := fun n hn z => S.used n hn (by rw [z]; exact hp)
  refine ⟨S.inj, fun n hn => ?_, fun n ob q => ?_, fun a h => ?_, fun a h => ?_⟩
  · show upd H p o (w.φ n) ≠ none
    rw [upd_ne (np n hn)]
    exact S.used n hn
  · obtain ⟨h1, h2, ho, h3, h4⟩ := S.cell n ob q
    refine ⟨h1, ⟨fun z => z.elim h2.1 fun y => absurd y (np n h1), fun z => .inl (h2.2 z)⟩, ho, ?_, h4.mono e⟩
    show upd H p o (w.φ n) = some ho
    rw [upd_ne (np n h1)]
    exact h3
  · rcases h with h | h
    · rw [upd_ne fun z => S.fz a h (by rw [z]; exact hp)]
      exact S.fz a h
    · rw [h, upd_same]
      simp
  · obtain ⟨b1, b2, b3⟩ := S.bz a h
    have ne : a ≠ p := fun z => S.bn h (by rw [z]; exact hp)
    exact ⟨by rw [upd_ne ne]; exact b1, fun z => z.elim b2 ne, b3⟩
/-- a new thing that may change -/
def Wd.at (w : Wd) (n : Nat) (p : Addr) : Wd := ⟨w.F, w.B, fun m => if m = n then p else w.φ m⟩
theorem ext_new {st : Sto} {p : Addr} {o : HO} (S : StOk K H w st) (hp : H p = none) : Ext H w st.next (upd H p o) (w.at st.next p) (st.next + 1) :=
  ⟨Nat.le_succ _, fun n hn => if_neg (Nat.ne_of_lt hn), fun a h => ⟨h, upd_ne fun z => S.fz a h (by rw [z]; exact hp)⟩, fun a h => ⟨h, upd_ne fun z => S.bn h (by rw [z]; exact hp)⟩⟩
theorem StOk.new {st : Sto} {p : Addr} {o : O} {ho : HO} (S : StOk K H w st) (hp : H p = none) (r : RelO K H w st.next o ho) (hl : o.lk = false := by rfl) : StOk K (upd H p ho) (w.at st.next p) (st.new o) := by
  have e := ext_new (o := ho) S hp
  have np : ∀ n, n < st.next → w.φ n ≠ p := fun n hn z => S.used n hn (by rw [z]; exact hp)
  have at1 : (w.at st.next p).φ st.next = p := if_pos rfl
  have at2 : ∀ n, n < st.next → (w.at st.next p).φ n = w.φ n := fun n hn => if_neg (Nat.ne_of_lt hn)
  have nF : ¬ w.F p := fun z => S.fz p z hp
  have lt : ∀ n, n < (st.new o).next → n < st.next ∨ n = st.next := fun n hn => Nat.lt_succ_iff_lt_or_eq.mp hn
  refine ⟨fun m n hm hn q => ?_, fun n hn => ?_, fun n ob q => ?_, fun a h => ?_, fun a h => ?_⟩
  · rcases lt m hm with h1 | h1 <;> rcases lt n hn with h2 | h2
    · rw [at2 m h1, at2 n h2] at q
      exact S.inj m n h1 h2 q
    · rw [at2 m h1, h2, at1] at q
      exact absurd q (np m h1)
    · rw [at2 n h2, h1, at1] at q
      exact absurd q.symm (np n h2)
    · rw [h1, h2]
  · rcases lt n hn with h1 | h1
    · rw [at2 n h1, upd_ne (np n h1)]
      exact S.used n h1
    · rw [h1, at1, upd_same]
      simp
  · rcases get_new q with ⟨rfl, rfl⟩ | ⟨h0, q⟩
    · refine ⟨Nat.lt_succ_self _, ?_, ho, ?_, r.mono e⟩
      · rw [at1, hl]; exact ⟨fun z => absurd z nF, fun z => nomatch z⟩
      · rw [at1, upd_same]
    · obtain ⟨h1, h2, ho', h3, h4⟩ := S.cell n ob q
      refine ⟨Nat.lt_succ_of_lt h1, ?_, ho', ?_, h4.mono e⟩
      · rw [at2 n h1]; exact h2
      · rw [at2 n h1, upd_ne (np n h1)]
        exact h3
  · rw [upd_ne fun z => S.fz a h (by rw [z]; exact hp)]
    exact S.fz a h
  · obtain ⟨b1, b2, b3⟩ := S.bz a h
    have ne : a ≠ p := fun z => S.bn h (by rw [z]; exact hp)
    refine ⟨by rw [upd_ne ne]; exact b1, b2, fun n hn => ?_⟩
    rcases lt n hn with h1 | h1
    · rw [at2 n h1]; exact b3 n h1
    · rw [h1, at1]; exact ne.symm
/-- a thing is changed -/
theorem StOk.noF {st : Sto} {n : Nat} {u : O} (S : StOk K H w st) (q : st.get n = some u) (hl : u.lk = false) : ¬ w.F (w.φ n) := fun z => by
  have y := (S.cell n u q).2.1.mp z
  rw [hl] at y
  exact nomatch y
theorem ext_set {st : Sto} {n : Nat} {u : O} {ho : HO} (S : StOk K H w st) (q : st.get n = some u) (hl : u.lk = false := by rfl) : Ext H w st.next (upd H (w.φ n) ho) w st.next :=
  ⟨Nat.le_refl _, fun _ _ => rfl, fun a h => ⟨h, upd_ne fun z => S.noF q hl (z ▸ h)⟩, fun a h => ⟨h, upd_ne fun z => (S.bz a h).2.2 n (S.cell n u q).1 z.symm⟩⟩
theorem StOk.set {st : Sto} {n : Nat} {u o : O} {ho : HO} (S : StOk K H w st) (q : st.get n = some u) (r : RelO K H w st.next o ho) (hl : u.lk = false := by rfl) (hl2 : o.lk = false := by rfl) : StOk K (upd H (w.φ n) ho) w (st.set n o) := by
  have e := ext_set (ho := ho) S q hl
  have nF := S.noF q hl
  obtain ⟨hn, _⟩ := S.cell n u q
  refine ⟨S.inj, fun m hm => ?_, fun m ob z => ?_, fun a h => ?_, fun a h => ?_⟩
  · by_cases h : w.φ m = w.φ n
    · rw [h, upd_same]; simp
    · rw [upd_ne h]; exact S.used m hm
  · rcases lookup_setC (show (setC n o st.cells).lookup m = some ob from z) with ⟨rfl, rfl⟩ | ⟨h0, z⟩
    · exact ⟨hn, ⟨fun z => absurd z nF, fun z => by rw [hl2] at z; exact nomatch z⟩, ho, upd_same, r.mono e⟩
    · obtain ⟨h1, h2, ho', h3, h4⟩ := S.cell m ob z
      refine ⟨h1, h2, ho', ?_, h4.mono e⟩
      rw [upd_ne fun y => h0 (S.inj m n h1 hn y)]
      exact h3
  · rw [upd_ne (show a ≠ w.φ n from fun z => nF (z ▸ h))]
    exact S.fz a h
  · obtain ⟨b1, b2, b3⟩ := S.bz a h
    exact ⟨by rw [upd_ne (show a ≠ w.φ n from fun z => b3 n hn z.symm)]; exact b1, b2, b3⟩
/-- fewer cells -/
theorem StOk.less {st st' : Sto} (S : StOk K H w st) (hn : st'.next = st.next) (h : ∀ n o, st'.get n = some o → st.get n = some o) : StOk K H w st' :=
  ⟨fun m n hm hk => S.inj m n (hn ▸ hm) (hn ▸ hk), fun n hk => S.used n (hn ▸ hk), fun n o q => by rw [hn]; exact S.cell n o (h n o q), S.fz, fun a z => by rw [hn]; exact S.bz a z⟩
theorem StOk.cut {st : Sto} (S : StOk K H w st) (k : Nat) : StOk K H w (st.cut k) :=
  S.less rfl fun n o q => (lookup_filter (p := fun m => decide (m < k)) q).1
/-- a list of the store becomes a plain one -/
theorem StOk.frz {st : Sto} {n : Nat} {ds : List D} (S : StOk K H w st) (q : st.get n = some (.lst ds)) :
    ∃ w', Ext H w st.next H w' st.next ∧ StOk K H w' (st.del n) ∧ ∀ v, RelD K H w st.next (.loc n) v → RelD K H w' st.next (.lst ds) v := by
  have nF := S.noF q rfl
  obtain ⟨hn, _, ho, h1, h2⟩ := S.cell n _ q
  obtain ⟨vs, rfl, h2⟩ := h2
  have e : Ext H w st.next H (w.addF (w.φ n)) st.next := ⟨Nat.le_refl _, fun _ _ => rfl, fun a h => ⟨.inl h, rfl⟩, fun a h => ⟨h, rfl⟩⟩
  refine ⟨w.addF (w.φ n), e, ⟨S.inj, S.used, fun m o z => ?_, fun a h => ?_, fun a h => ?_⟩, fun v r => ?_⟩
  · obtain ⟨z, y⟩ := lookup_filter (p := fun m => decide (m ≠ n)) z
    have hne : m ≠ n := of_decide_eq_true y
    obtain ⟨k1, k2, ho', k3, k4⟩ := S.cell m o z
    exact ⟨k1, ⟨fun y => y.elim k2.1 fun y => absurd (S.inj m n k1 hn y) hne, fun y => .inl (k2.2 y)⟩, ho', k3, k4.mono e⟩
  · rcases h with h | h
    · exact S.fz a h
    · rw [h, h1]; simp
  · obtain ⟨b1, b2, b3⟩ := S.bz a h
    exact ⟨b1, fun z => z.elim b2 fun y => b3 n hn y.symm, b3⟩
  · unfold RelD at r ⊢
    obtain ⟨_, rfl⟩ := r
    exact ⟨w.φ n, vs, rfl, .inr rfl, h1, h2.mono e⟩
/-- a hidden thing at p -/
def Wd.addB (w : Wd) (p : Addr) : Wd := ⟨w.F, fun a => w.B a ∨ a = p, w.φ⟩
theorem ext_hide {st : Sto} {p : Addr} {o : HO} (S : StOk K H w st) (hp : H p = none) : Ext H w st.next (upd H p o) (w.addB p) st.next :=
  ⟨Nat.le_refl _, fun _ _ => rfl, fun a h => ⟨h, upd_ne fun z => S.fz a h (by rw [z]; exact hp)⟩, fun a h => ⟨.inl h, upd_ne fun z => S.bn h (by rw [z]; exact hp)⟩⟩
theorem StOk.hide {st : Sto} {p : Addr} {o : HO} (S : StOk K H w st) (hp : H p = none) (nt : ∀ vs, o ≠ .tup vs) : StOk K (upd H p o) (w.addB p) st := by
  have e := ext_hide (o := o) S hp
  have np : ∀ n, n < st.next → w.φ n ≠ p := fun n hn z => S.used n hn (by rw [z]; exact hp)
  refine ⟨S.inj, fun n hn => ?_, fun n ob q => ?_, fun a h => ?_, fun a h => ?_⟩
  · show upd H p o (w.φ n) ≠ none
    rw [upd_ne (np n hn)]
    exact S.used n hn
  · obtain ⟨h1, h2, ho, h3, h4⟩ := S.cell n ob q
    refine ⟨h1, h2, ho, ?_, h4.mono e⟩
    show upd H p o (w.φ n) = some ho
    rw [upd_ne (np n h1)]
    exact h3
  · rw [upd_ne fun z => S.fz a h (by rw [z]; exact hp)]
    exact S.fz a h
  · rcases h with h | h
    · obtain ⟨b1, b2, b3⟩ := S.bz a h
      exact ⟨by rw [upd_ne (show a ≠ p from fun z => S.bn h (by rw [z]; exact hp))]; exact b1, b2, b3⟩
    · subst h
      exact ⟨⟨o, upd_same, nt⟩, fun z => S.fz a z hp, np⟩
/-- a hidden thing is changed: nothing that is named sees it -/
theorem hid_rel {p : Addr} {o : HO} (S : ∀ a, w.B a → ¬ w.F a) (hp : w.B p) : Ext H ⟨w.F, fun _ => False, w.φ⟩ nx (upd H p o) w nx :=
  ⟨Nat.le_refl _, fun _ _ => rfl, fun a h => ⟨h, upd_ne fun z => S p hp (z ▸ h)⟩, fun _ h => h.elim⟩
mutual
theorem RelD.noB {B B' : Addr → Prop} : ∀ {d : D} {v : V}, RelD K H ⟨w.F, B, w.φ⟩ nx d v → RelD K H ⟨w.F, B', w.φ⟩ nx d v
  | .non, _, h => h
  | .bl _, _, h => h
  | .int _, _, h => h
  | .str _, _, h => h
  | .tup ds, v, h => by
    unfold RelD at h ⊢
    obtain ⟨a, vs, rfl, h1, h2⟩ := h
    exact ⟨a, vs, rfl, h1, RelDs.noB h2⟩
  | .lst ds, v, h => by
    unfold RelD at h ⊢
    obtain ⟨a, vs, rfl, f, q, h2⟩ := h
    exact ⟨a, vs, rfl, f, q, RelDs.noB h2⟩
  | .scr ns, v, h => h
  | .loc n, v, h => h
theorem RelDs.noB {B B' : Addr → Prop} : ∀ {ds : List D} {vs : List V}, RelDs K H ⟨w.F, B, w.φ⟩ nx ds vs → RelDs K H ⟨w.F, B', w.φ⟩ nx ds vs
  | [], _, h => h
  | d :: ds, vs, h => by
    unfold RelDs at h ⊢
    obtain ⟨v, r, rfl, h1, h2⟩ := h
    exact ⟨v, r, rfl, RelD.noB h1, RelDs.noB h2⟩
end
theorem RelD.hid {p : Addr} {o : HO} {d : D} {v : V} (S : ∀ a, w.B a → ¬ w.F a) (hp : w.B p) (r : RelD K H w nx d v) : RelD K (upd H p o) w nx d v := (RelD.noB (B' := fun _ => False) r).mono (hid_rel S hp)
theorem RelDs.hid {p : Addr} {o : HO} {ds : List D} {vs : List V} (S : ∀ a, w.B a → ¬ w.F a) (hp : w.B p) (r : RelDs K H w nx ds vs) : RelDs K (upd H p o) w nx ds vs := (RelDs.noB (B' := fun _ => False) r).mono (hid_rel S hp)
theorem RelKV.hid {κ : Type} {p : Addr} {o : HO} (S : ∀ a, w.B a → ¬ w.F a) (hp : w.B p) : ∀ {kvs : List (κ × D)} {l : List (κ × V)}, RelKV K H w nx kvs l → RelKV K (upd H p o) w nx kvs l
  | [], _, h => h
  | (k, d) :: r, _, h => by
    obtain ⟨v, l', rfl, h2, h3⟩ := h
    exact ⟨v, l', rfl, h2.hid S hp, RelKV.hid S hp h3⟩
theorem RelF.hid {p : Addr} {o : HO} (S : ∀ a, w.B a → ¬ w.F a) (hp : w.B p) : ∀ {fs : List (Str × D)} {l : List (Str × V)}, RelF K H w nx fs l → RelF K (upd H p o) w nx fs l
  | [], _, h => h
  | (x, d) :: r, _, h => by
    obtain ⟨v, l', rfl, h2, h3⟩ := h
    exact ⟨v, l', rfl, h2.hid S hp, RelF.hid S hp h3⟩
theorem RelO.hid {p : Addr} {u : HO} (S : ∀ a, w.B a → ¬ w.F a) (hp : w.B p) : ∀ {o : O} {ho : HO}, RelO K H w nx o ho → RelO K (upd H p u) w nx o ho
  | .lst ds, _, h => let ⟨vs, e, h⟩ := h; ⟨vs, e, h.hid S hp⟩
  | .dk kvs, _, h => let ⟨l, e, h⟩ := h; ⟨l, e, h.hid S hp⟩
  | .dt kvs, _, h => let ⟨l, e, h⟩ := h; ⟨l, e, h.hid S hp⟩
  | .ins c fs, _, h => let ⟨dx, l, e, h⟩ := h; ⟨dx, l, e, h.hid S hp⟩
  | .fdk kvs, _, h => let ⟨ob, l, e, h⟩ := h; ⟨ob, l, e, h.hid S hp⟩
  | .fdt kvs, _, h => let ⟨ob, l, e, h⟩ := h; ⟨ob, l, e, h.hid S hp⟩
theorem StOk.hid {st : Sto} {p : Addr} {o : HO} (S : StOk K H w st) (hp : w.B p) (nt : ∀ vs, o ≠ .tup vs) : StOk K (upd H p o) w st := by
  have nb : ∀ a, w.B a → ¬ w.F a := fun a h => (S.bz a h).2.1
  obtain ⟨p1, p2, p3⟩ := S.bz p hp
  refine ⟨S.inj, fun n hn => ?_, fun n ob q => ?_, fun a h => ?_, fun a h => ?_⟩
  · rw [upd_ne (p3 n hn)]; exact S.used n hn
  · obtain ⟨h1, h2, ho, h3, h4⟩ := S.cell n ob q
    exact ⟨h1, h2, ho, by rw [upd_ne (p3 n h1)]; exact h3, h4.hid nb hp⟩
  · rw [upd_ne (show a ≠ p from fun z => p2 (z ▸ h))]; exact S.fz a h
  · obtain ⟨b1, b2, b3⟩ := S.bz a h
    by_cases z : a = p
    · rw [z, upd_same]; exact ⟨⟨o, rfl, nt⟩, p2, p3⟩
    · rw [upd_ne z]; exact ⟨b1, b2, b3⟩
/-- what was hidden at p is frozen, p is hidden no more -/
def Wd.show (w : Wd) (p : Addr) : Wd := ⟨fun a => w.F a ∨ a = p, fun a => w.B a ∧ a ≠ p, w.φ⟩
theorem RelO.noB {B' : Addr → Prop} : ∀ {o : O} {ho : HO}, RelO K H w nx o ho → RelO K H ⟨w.F, B', w.φ⟩ nx o ho := by
  have kv : ∀ {κ : Type} {kvs : List (κ × D)} {l : List (κ × V)}, RelKV K H w nx kvs l → RelKV K H ⟨w.F, B', w.φ⟩ nx kvs l := by
    intro κ kvs
    induction kvs with
    | nil => intro l h; exact h
    | cons p r ih =>
      obtain ⟨k, d⟩ := p
      intro l h
      obtain ⟨v, l', rfl, h2, h3⟩ := h
      exact ⟨v, l', rfl, RelD.noB (B := w.B) h2, ih h3⟩
  have ff : ∀ {fs : List (Str × D)} {l : List (Str × V)}, RelF K H w nx fs l → RelF K H ⟨w.F, B', w.φ⟩ nx fs l := by
    intro fs
    induction fs with
    | nil => intro l h; exact h
    | cons p r ih =>
      obtain ⟨k, d⟩ := p
      intro l h
      obtain ⟨v, l', rfl, h2, h3⟩ := h
      exact ⟨v, l', rfl, RelD.noB (B := w.B) h2, ih h3⟩
  intro o ho h
  cases o with
  | lst ds => obtain ⟨vs, e, h⟩ := h; exact ⟨vs, e, RelDs.noB (B := w.B) h⟩
  | dk kvs => obtain ⟨l, e, h⟩ := h; exact ⟨l, e, kv h⟩
  | dt kvs => obtain ⟨l, e, h⟩ := h; exact ⟨l, e, kv h⟩
  | ins c fs => obtain ⟨dx, l, e, h⟩ := h; exact ⟨dx, l, e, ff h⟩
  | fdk kvs => obtain ⟨ob, l, e, h⟩ := h; exact ⟨ob, l, e, kv h⟩
  | fdt kvs => obtain ⟨ob, l, e, h⟩ := h; exact ⟨ob, l, e, kv h⟩
theorem show_ext {p : Addr} {H : Hp} {w : Wd} {nx : Nat} : Ext H ⟨w.F, fun _ => False, w.φ⟩ nx H (w.show p) nx := ⟨Nat.le_refl _, fun _ _ => rfl, fun a h => ⟨.inl h, rfl⟩, fun _ h => h.elim⟩
theorem StOk.show_ {st : Sto} {p : Addr} (S : StOk K H w st) (hp : w.B p) : StOk K H (w.show p) st := by
  obtain ⟨p1, p2, p3⟩ := S.bz p hp
  refine ⟨S.inj, S.used, fun n o q => ?_, fun a h => ?_, fun a h => ?_⟩
  · obtain ⟨h1, h2, ho, h3, h4⟩ := S.cell n o q
    exact ⟨h1, ⟨fun z => z.elim h2.1 fun y => absurd y (p3 n h1), fun z => .inl (h2.2 z)⟩, ho, h3, (RelO.noB (B' := fun _ => False) h4).mono show_ext⟩
  · rcases h with h | h
    · exact S.fz a h
    · rw [h]; exact S.bn hp
  · obtain ⟨b1, b2, b3⟩ := S.bz a h.1
    exact ⟨b1, fun z => z.elim b2 h.2, b3⟩
theorem RelD.show_ {p : Addr} {d : D} {v : V} (r : RelD K H w nx d v) : RelD K H (w.show p) nx d v := (RelD.noB (B' := fun _ => False) r).mono show_ext
theorem RelDs.show_ {p : Addr} {ds : List D} {vs : List V} (r : RelDs K H w nx ds vs) : RelDs K H (w.show p) nx ds vs := (RelDs.noB (B' := fun _ => False) r).mono show_ext
end
end Mp
namespace Mp
open PySem PySem.Spec PyProof.Rows L2

theorem pe_imp {X : Cx} {e : Expr} {t t' : TE} (h : PE X e t) (q : ∀ σ H Q, t' σ H Q → t σ H Q) : PE X e t' := ⟨fun pins s σ H Q I k => h.run pins s σ H Q I (q σ H Q k)⟩
theorem pt_imp {X : Cx} {e : Expr} {t t' : TT} (h : PT X e t) (q : ∀ σ H Q, t' σ H Q → t σ H Q) : PT X e t' := ⟨fun pins s σ H Q I k => h.run pins s σ H Q I (q σ H Q k)⟩
theorem pw_imp {X : Cx} {e : Expr} {t t' : TT} (h : PW X e t) (q : ∀ σ H Q, t' σ H Q → t σ H Q) : PW X e t' := ⟨fun wh pins s σ H Q I k => h.run wh pins s σ H Q I (q σ H Q k)⟩
theorem pa_imp {X : Cx} {es : List Expr} {t t' : TA} (h : PA X es t) (q : ∀ σ H Q, t' σ H Q → t σ H Q) : PA X es t' := ⟨fun pos pins s σ H Q I k => h.run pos pins s σ H Q I (q σ H Q k)⟩
theorem po_imp {X : Cx} {e : Option Expr} {t t' : TO} (h : PO X e t) (q : ∀ σ H Q, t' σ H Q → t σ H Q) : PO X e t' := ⟨fun pins s σ H Q I k => h.run pins s σ H Q I (q σ H Q k)⟩
theorem ps_imp {X : Cx} {st : Stmt} {t t' : TS} (h : PS X st t) (q : ∀ D σ H, t' D σ H → t D σ H) : PS X st t' := ⟨fun pins s σ H D I k => h.run pins s σ H D I (q D σ H k)⟩
theorem pss_imp {X : Cx} {st : List Stmt} {t t' : TS} (h : PSs X st t) (q : ∀ D σ H, t' D σ H → t D σ H) : PSs X st t' := ⟨fun pins s σ H D I k => h.run pins s σ H D I (q D σ H k)⟩

/-- an exception as the hand layer sees it -/
def XRel (K : PySem.W.Frag) (H : Hp) (w : Wd) (nx : Nat) (x : Xn) (c : Value) (d : Option Addr) : Prop :=
  c = .ref (He.ga K x.cls) ∧ match x.fs with
    | [] => d = none
    | fs => ∃ a l, d = some a ∧ w.F a ∧ H a = some (.xd l) ∧ RelF K H w nx fs l
def Pst {α : Type} (K : PySem.W.Frag) (E : XK) (H : Hp) (w : Wd) (nx : Nat) (r : R Xn α) (P : α → Wd → Sto → Hp → Prop) : Prop := match r with
  | .ok a st => ∀ w' H', Ext H w nx H' w' st.next → StOk K H' w' st → P a w' st H'
  | .exc x st => ∀ w' H' c d, Ext H w nx H' w' st.next → StOk K H' w' st → XRel K H' w' st.next x c d → E c d H'
  | .no => False
section
variable {α β : Type} {K : PySem.W.Frag} {E : XK} {H : Hp} {w : Wd} {nx : Nat}
theorem Pst.bind {r : R Xn α} {f : α → Sto → R Xn β} {P : β → Wd → Sto → Hp → Prop} (h : Pst K E H w nx (r.bind f) P) :
    Pst K E H w nx r fun a w1 st1 H1 => Pst K E H1 w1 st1.next (f a st1) P := by
  cases r with
  | ok a st =>
    intro w1 H1 e1 S1
    have h : Pst K E H w nx (f a st) P := h
    show Pst K E H1 w1 st.next (f a st) P
    cases q : f a st with
    | ok b st2 =>
      rw [q] at h
      exact fun w2 H2 e2 S2 => h w2 H2 (e1.trans e2) S2
    | exc x st2 =>
      rw [q] at h
      exact fun w2 H2 c d e2 S2 z => h w2 H2 c d (e1.trans e2) S2 z
    | no =>
      rw [q] at h
      exact h
  | exc x st => exact h
  | no => exact h
theorem Pst.mono {r : R Xn α} {P P' : α → Wd → Sto → Hp → Prop} (h : Pst K E H w nx r P) (q : ∀ a w' st H', Ext H w nx H' w' st.next → StOk K H' w' st → P a w' st H' → P' a w' st H') : Pst K E H w nx r P' := by
  cases r with
  | ok a st => exact fun w' H' e S => q a w' st H' e S (h w' H' e S)
  | exc x st => exact h
  | no => exact h
end

/-- what is wanted of a value -/
abbrev PV (K : PySem.W.Frag) (Q : VK) : D → Wd → Sto → Hp → Prop := fun d w st H => ∀ v, RelD K H w st.next d v → Q v H
def cnE (K : PySem.W.Frag) (W : WX) (m : Ev → M D) : TE := fun σ H Q => ∃ w st ρ, StOk K H w st ∧ EvOk K H w st.next ρ σ ∧ Pst K (fun c d H' => W c d σ H') H w st.next (m ρ st) (PV K Q)
def cnT (K : PySem.W.Frag) (W : WX) (m : Ev → M Bool) : TT := fun σ H Q => ∃ w st ρ, StOk K H w st ∧ EvOk K H w st.next ρ σ ∧ Pst K (fun c d H' => W c d σ H') H w st.next (m ρ st) fun b _ _ H' => Q b H'
def cnA (K : PySem.W.Frag) (W : WX) (m : Ev → M (List D)) : TA := fun σ H Q => ∃ w st ρ, StOk K H w st ∧ EvOk K H w st.next ρ σ ∧ Pst K (fun c d H' => W c d σ H') H w st.next (m ρ st) fun ds w' st' H' => ∀ vs, RelDs K H' w' st'.next ds vs → Q vs H'
def cnO (K : PySem.W.Frag) (W : WX) (m : Ev → M (Option Int)) : TO := fun σ H Q => ∃ w st ρ, StOk K H w st ∧ EvOk K H w st.next ρ σ ∧ Pst K (fun c d H' => W c d σ H') H w st.next (m ρ st) fun o _ _ H' => Q o H'

/-- an operation on values is read by r -/
def OpAd (K : PySem.W.Frag) (r : R2) (f : D → D → M D) : Prop := ∀ (E : XK) (H : Hp) (w : Wd) (st : Sto) (x y : D) (v u : V) (Q : VK), StOk K H w st → RelD K H w st.next x v → RelD K H w st.next y u →
  Pst K E H w st.next (f x y st) (PV K Q) → r v u H Q
def UnAd (K : PySem.W.Frag) (r : V → Hp → VK → Prop) (f : D → M D) : Prop := ∀ (E : XK) (H : Hp) (w : Wd) (st : Sto) (x : D) (v : V) (Q : VK), StOk K H w st → RelD K H w st.next x v →
  Pst K E H w st.next (f x st) (PV K Q) → r v H Q
def CallAd (K : PySem.W.Frag) (r : List V → Hp → VK → Prop) (f : List D → M D) : Prop := ∀ (E : XK) (H : Hp) (w : Wd) (st : Sto) (xs : List D) (vs : List V) (Q : VK), StOk K H w st → RelDs K H w st.next xs vs →
  Pst K E H w st.next (f xs st) (PV K Q) → r vs H Q
def MtAd (K : PySem.W.Frag) (r : V → List V → Hp → VK → Prop) (f : D → List D → M D) : Prop := ∀ (E : XK) (H : Hp) (w : Wd) (st : Sto) (x : D) (xs : List D) (v : V) (vs : List V) (Q : VK), StOk K H w st → RelD K H w st.next x v → RelDs K H w st.next xs vs →
  Pst K E H w st.next (f x xs st) (PV K Q) → r v vs H Q
theorem OpAd.or {K : PySem.W.Frag} {r r' : R2} {f : D → D → M D} (g : D → D → Sto → Bool) (h : ∀ E H w st x y v u Q, g x y st = true → StOk K H w st → RelD K H w st.next x v → RelD K H w st.next y u → Pst K E H w st.next (f x y st) (PV K Q) → r v u H Q)
    (h' : ∀ E H w st x y v u Q, g x y st = false → StOk K H w st → RelD K H w st.next x v → RelD K H w st.next y u → Pst K E H w st.next (f x y st) (PV K Q) → r' v u H Q) : OpAd K (fun x y H Q => r x y H Q ∨ r' x y H Q) f := by
  intro E H w st x y v u Q S rx ry h0
  cases q : g x y st with
  | true => exact .inl (h E H w st x y v u Q q S rx ry h0)
  | false => exact .inr (h' E H w st x y v u Q q S rx ry h0)

section
variable {X : Cx} {W : WX}
def evVar (i : Nat) : Ev → M D := fun ρ => match ρ[i]? with
  | some (some d) => M.ret d
  | _ => M.no
theorem ad_var {K : PySem.W.Frag} {W : WX} {i : Nat} {σ : L2.St} {H : Hp} {Q : VK} (h : cnE K W (evVar i) σ H Q) : tVar i σ H Q := by
  obtain ⟨w, st, ρ, S, R, h⟩ := h
  unfold evVar at h
  cases q : ρ[i]? with
  | none => rw [q] at h; exact h.elim
  | some o =>
    cases o with
    | none => rw [q] at h; exact h.elim
    | some d =>
      rw [q] at h
      obtain ⟨v, a, b⟩ := R.at_ i d q
      exact ⟨v, a, h w H Ext.refl S v b⟩
theorem je_var {i : Nat} {x : Str} {pos : Pos} (hN : X.N[i]? = some x) (hv : Vis X.env.scope x) (hd : (x == ("__debug__" : Str)) = false) (hcd : (x == ("__classdict__" : Str)) = false) : PE X (.Name x pos) (cnE X.K W (evVar i)) :=
  pe_imp (pe_var hN hv hd hcd) fun _ _ _ h => ad_var h
/-- a value that needs no heap -/
def plainD : D → Option V
  | .non => some .non
  | .bl b => some (.bl b)
  | .int i => some (.int i)
  | .str s => some (.str s)
  | _ => none
theorem plainD_rel {K : PySem.W.Frag} {H : Hp} {w : Wd} {nx : Nat} {d : D} {v : V} (h : plainD d = some v) : RelD K H w nx d v := by
  cases d <;> first | (cases h; exact rfl) | cases h
def evC (d : D) : Ev → M D := fun _ => M.ret d
theorem ad_c {K : PySem.W.Frag} {W : WX} {d : D} {v : V} {σ : L2.St} {H : Hp} {Q : VK} (hd : plainD d = some v) (h : cnE K W (evC d) σ H Q) : tC v σ H Q := by
  obtain ⟨w, st, ρ, S, R, h⟩ := h
  exact h w H Ext.refl S v (plainD_rel hd)
theorem je_int {i : Int} {j : Nat} {pos : Pos} : PE X (.Constant (.int i) j pos) (cnE X.K W (evC (.int i))) := pe_imp pe_int fun _ _ _ h => ad_c rfl h
theorem je_bl {b : Bool} {j : Nat} {pos : Pos} : PE X (.Constant (.bool b) j pos) (cnE X.K W (evC (.bl b))) := pe_imp pe_bl fun _ _ _ h => ad_c rfl h
theorem je_non {j : Nat} {pos : Pos} : PE X (.Constant .none j pos) (cnE X.K W (evC .non)) := pe_imp pe_non fun _ _ _ h => ad_c rfl h
theorem je_str {s : Str} {j : Nat} {pos : Pos} : PE X (.Constant (.str s) j pos) (cnE X.K W (evC (.str s))) := pe_imp pe_str fun _ _ _ h => ad_c rfl h

/-- from the canonical reading of a and what follows it -/
theorem cn_seq {K : PySem.W.Frag} {W : WX} {α : Type} {σ : L2.St} {H : Hp} {w : Wd} {st : Sto} {ρ : Ev} {ma : Ev → M D} {f : D → M α} {P : α → Wd → Sto → Hp → Prop} {Q : VK} (S : StOk K H w st) (R : EvOk K H w st.next ρ σ)
    (h : Pst K (fun c d H' => W c d σ H') H w st.next ((ma ρ).bind f st) P)
    (hq : ∀ d v w1 st1 H1, Ext H w st.next H1 w1 st1.next → StOk K H1 w1 st1 → EvOk K H1 w1 st1.next ρ σ → RelD K H1 w1 st1.next d v → Pst K (fun c d H' => W c d σ H') H1 w1 st1.next (f d st1) P → Q v H1) : cnE K W ma σ H Q :=
  ⟨w, st, ρ, S, R, (Pst.bind h).mono fun d w1 st1 H1 e1 S1 p v r => hq d v w1 st1 H1 e1 S1 (R.mono e1) r p⟩
def ev2 (f : D → D → M D) (ma mb : Ev → M D) : Ev → M D := fun ρ => (ma ρ).bind fun x => (mb ρ).bind fun y => f x y
theorem ad_op {K : PySem.W.Frag} {W : WX} {r : R2} {f : D → D → M D} {ma mb : Ev → M D} {σ : L2.St} {H : Hp} {Q : VK} (a : OpAd K r f) (h : cnE K W (ev2 f ma mb) σ H Q) : tOp r (cnE K W ma) (cnE K W mb) σ H Q := by
  obtain ⟨w, st, ρ, S, R, h⟩ := h
  refine cn_seq S R h fun x v w1 st1 H1 e1 S1 R1 rx h1 => ?_
  refine cn_seq S1 R1 h1 fun y u w2 st2 H2 e2 S2 R2 ry h2 => ?_
  exact a _ H2 w2 st2 x y v u Q S2 (rx.mono e2) ry h2
theorem je_op {op : Operator} {r : R2} {f : D → D → M D} {ma mb : Ev → M D} {a b : Expr} {pos : Pos} (ho : OpR X (binaryOp op) r) (ad : OpAd X.K r f) (ha : PE X a (cnE X.K W ma)) (hb : PE X b (cnE X.K W mb)) :
    PE X (.BinOp a op b pos) (cnE X.K W (ev2 f ma mb)) := pe_imp (pe_op ho ha hb) fun _ _ _ h => ad_op ad h
def ev1 (f : D → M D) (ma : Ev → M D) : Ev → M D := fun ρ => (ma ρ).bind f
theorem ad_un {K : PySem.W.Frag} {W : WX} {r : V → Hp → VK → Prop} {f : D → M D} {ma : Ev → M D} {σ : L2.St} {H : Hp} {Q : VK} (a : UnAd K r f) (h : cnE K W (ev1 f ma) σ H Q) : tUn r (cnE K W ma) σ H Q := by
  obtain ⟨w, st, ρ, S, R, h⟩ := h
  exact cn_seq S R h fun x v w1 st1 H1 e1 S1 R1 rx h1 => a _ H1 w1 st1 x v Q S1 rx h1
theorem je_un {op : UnaryOp} {r : V → Hp → VK → Prop} {f : D → M D} {ma : Ev → M D} {a : Expr} {pos : Pos} (ho : UnR X (unaryOp op) r) (ad : UnAd X.K r f) (ha : PE X a (cnE X.K W ma)) :
    PE X (.UnaryOp op a pos) (cnE X.K W (ev1 f ma)) := pe_imp (L2.pe_un ho ha) fun _ _ _ h => ad_un ad h
theorem je_cmp {op : CmpOp} {r : R2} {f : D → D → M D} {ma mb : Ev → M D} {a b : Expr} {pos : Pos} (ho : OpR X (compareOp op) r) (ad : OpAd X.K r f) (ha : PE X a (cnE X.K W ma)) (hb : PE X b (cnE X.K W mb)) (hm : behindInMarks op b = false) :
    PE X (.Compare a [op] [b] pos) (cnE X.K W (ev2 f ma mb)) := pe_imp (pe_cmpR ho ha hb hm) fun _ _ _ h => ad_op ad h

def truD (st : Sto) : D → Option Bool
  | .non => some false
  | .bl b => some b
  | .int i => some (i != 0)
  | .str s => if s.length ≤ sizeLine then some ((s.length : Int) != 0) else none
  | .tup xs => some (!xs.isEmpty)
  | .lst xs => some (!xs.isEmpty)
  | .scr xs => some (!xs.isEmpty)
  | .loc n => match st.get n with
    | some (.lst xs) => some (!xs.isEmpty)
    | _ => none
def tru (d : D) : M Bool := fun st => match truD st d with
  | some b => .ok b st
  | none => .no
theorem RelDs.empty {K : PySem.W.Frag} {H : Hp} {w : Wd} {nx : Nat} {ds : List D} {vs : List V} (h : RelDs K H w nx ds vs) : vs.isEmpty = ds.isEmpty := by
  have e := h.length
  cases ds <;> cases vs <;> first | rfl | cases e
theorem RelD.sqT {K : PySem.W.Frag} {H : Hp} {w : Wd} {nx : Nat} {ds : List D} {v : V} (h : RelD K H w nx (.tup ds) v) : ∃ a vs, v = .ref a ∧ SqT K H a vs ∧ RelDs K H w nx ds vs := by
  unfold RelD at h
  obtain ⟨a, vs, rfl, h1, h2⟩ := h
  refine ⟨a, vs, rfl, ?_, h2⟩
  rcases h1 with ⟨_, q⟩ | q
  · exact SqT.of q
  · exact .inr q.1
theorem RelD.sqL {K : PySem.W.Frag} {H : Hp} {w : Wd} {nx : Nat} {ds : List D} {v : V} (h : RelD K H w nx (.lst ds) v) : ∃ a vs, v = .ref a ∧ H a = some (.lst vs) ∧ RelDs K H w nx ds vs := by
  unfold RelD at h
  obtain ⟨a, vs, rfl, _, q, h2⟩ := h
  exact ⟨a, vs, rfl, q, h2⟩
theorem RelD.sqS {K : PySem.W.Frag} {H : Hp} {w : Wd} {nx : Nat} {ns : List Int} {v : V} (h : RelD K H w nx (.scr ns) v) : ∃ a, v = .ref a ∧ SqL K H a (ns.map V.int) := by
  unfold RelD at h
  obtain ⟨a, rfl, h⟩ := h
  rcases h with ⟨o, _, q⟩ | h
  · exact ⟨a, rfl, .inl (.inr ⟨o, q⟩)⟩
  · exact ⟨a, rfl, .inr h⟩
theorem RelD.locL {K : PySem.W.Frag} {H : Hp} {w : Wd} {st : Sto} {n : Nat} {ds : List D} {v : V} (S : StOk K H w st) (h : RelD K H w st.next (.loc n) v) (g : st.get n = some (.lst ds)) : ∃ vs, v = .ref (w.φ n) ∧ H (w.φ n) = some (.lst vs) ∧ RelDs K H w st.next ds vs := by
  unfold RelD at h
  obtain ⟨_, rfl⟩ := h
  obtain ⟨_, _, ho, h1, vs, rfl, h2⟩ := S.cell n _ g
  exact ⟨vs, rfl, h1, h2⟩
/-- a list that is read -/
def lstOf (st : Sto) : D → Option (List D)
  | .lst xs => some xs
  | .loc n => match st.get n with
    | some (.lst xs) => some xs
    | _ => none
  | _ => none
theorem lstOf_rel {K : PySem.W.Frag} {H : Hp} {w : Wd} {st : Sto} {d : D} {ds : List D} {v : V} (S : StOk K H w st) (h : RelD K H w st.next d v) (g : lstOf st d = some ds) : ∃ a vs, v = .ref a ∧ H a = some (.lst vs) ∧ RelDs K H w st.next ds vs := by
  cases d with
  | lst xs => cases g; exact h.sqL
  | loc n =>
    simp only [lstOf] at g
    split at g
    · rename_i xs q
      cases g
      obtain ⟨vs, h1, h2, h3⟩ := RelD.locL S h q
      exact ⟨_, vs, h1, h2, h3⟩
    · cases g
  | _ => cases g
theorem tru_rel {K : PySem.W.Frag} {H : Hp} {w : Wd} {st : Sto} {d : D} {v : V} {b : Bool} (S : StOk K H w st) (r : RelD K H w st.next d v) (h : truD st d = some b) : TruV K v H b := by
  cases d with
  | non => cases r; cases h; exact rfl
  | bl _ => cases r; cases h; exact rfl
  | int _ => cases r; cases h; exact rfl
  | str s =>
    cases r
    simp only [truD] at h
    split at h
    · cases h
      exact ⟨by assumption, rfl⟩
    · cases h
  | tup ds =>
    cases h
    obtain ⟨a, vs, rfl, h1, h2⟩ := r.sqT
    exact .inr (.inl ⟨vs, h1, by rw [h2.empty]⟩)
  | lst ds =>
    cases h
    obtain ⟨a, vs, rfl, h1, h2⟩ := r.sqL
    exact .inl ⟨vs, SqL.of h1, by rw [h2.empty]⟩
  | scr ns =>
    cases h
    obtain ⟨a, rfl, h1⟩ := r.sqS
    exact .inl ⟨_, h1, by cases ns <;> rfl⟩
  | loc n =>
    simp only [truD] at h
    split at h
    · rename_i xs q
      cases h
      obtain ⟨vs, rfl, h2, h3⟩ := RelD.locL S r q
      exact .inl ⟨vs, SqL.of h2, by rw [h3.empty]⟩
    · cases h
def evT (ma : Ev → M D) : Ev → M Bool := fun ρ => (ma ρ).bind tru
theorem tru_ex {K : PySem.W.Frag} {E : XK} {H : Hp} {w : Wd} {st : Sto} {d : D} {α : Type} {f : Bool → M α} {P : α → Wd → Sto → Hp → Prop} (h : Pst K E H w st.next ((tru d).bind f st) P) : ∃ b, truD st d = some b ∧ Pst K E H w st.next (f b st) P := by
  have h : Pst K E H w st.next ((tru d st).bind f) P := h
  unfold tru at h
  split at h
  · rename_i b q
    exact ⟨b, q, h⟩
  · exact h.elim
theorem tru_ex1 {K : PySem.W.Frag} {E : XK} {H : Hp} {w : Wd} {st : Sto} {d : D} {P : Bool → Wd → Sto → Hp → Prop} (h : Pst K E H w st.next (tru d st) P) (S : StOk K H w st) : ∃ b, truD st d = some b ∧ P b w st H := by
  unfold tru at h
  split at h
  · rename_i b q
    exact ⟨b, q, h w H Ext.refl S⟩
  · exact h.elim
theorem jt_of {ma : Ev → M D} {a : Expr} (ha : PE X a (cnE X.K W ma)) (he : ∀ whole, isTrue a X.env whole = (do let v ← whole; standAt a.pos; holding [v] (truthy v))) : PT X a (cnT X.K W (evT ma)) := by
  refine pt_imp (pt_truth ha he) fun σ H Q h => ?_
  obtain ⟨w, st, ρ, S, R, h⟩ := h
  refine cn_seq S R h fun x v w1 st1 H1 e1 S1 R1 rx h1 => ?_
  obtain ⟨b, q, h2⟩ := tru_ex1 h1 S1
  exact ⟨b, tru_rel S1 rx q, h2⟩
theorem jt_cmp {op : CmpOp} {r : R2} {f : D → D → M D} {ma mb : Ev → M D} {a b : Expr} {pos : Pos} (ho : OpR X (compareOp op) r) (ad : OpAd X.K r fun x y => (f x y)) (hb1 : ∀ x y st d st', f x y st = .ok d st' → ∃ b, d = .bl b) (ha : PE X a (cnE X.K W ma)) (hb : PE X b (cnE X.K W mb)) (hm : behindInMarks op b = false) :
    PT X (.Compare a [op] [b] pos) (cnT X.K W (evT (ev2 f ma mb))) := by
  refine pt_imp (pt_cmpR ho ha hb hm) fun σ H Q h => ?_
  obtain ⟨w, st, ρ, S, R, h⟩ := h
  have h := Pst.bind h
  refine ad_op (Q := fun x H' => ∃ k, x = .bl k ∧ Q k H') ad ⟨w, st, ρ, S, R, ?_⟩
  -- the value is a truth
  have key : ∀ d st', ev2 f ma mb ρ st = .ok d st' → ∃ b, d = .bl b := fun d st' q => by
    unfold ev2 M.bind Mp.R.bind at q
    split at q
    · dsimp only at q
      split at q
      · exact hb1 _ _ _ _ _ q
      · cases q
      · cases q
    · cases q
    · cases q
  cases q : ev2 f ma mb ρ st with
  | ok d st' =>
    obtain ⟨b, rfl⟩ := key d st' q
    rw [q] at h
    intro w' H' e' S' v r
    cases r
    exact ⟨b, rfl, (tru_ex1 (h w' H' e' S') S').elim fun b' z => by cases z.1; exact z.2⟩
  | exc x st' => rw [q] at h; exact h
  | no => rw [q] at h; exact h
/-- and, or, not -/
def evAnd (ma mb : Ev → M D) : Ev → M D := fun ρ => (ma ρ).bind fun x => (tru x).bind fun b => if b = true then mb ρ else M.ret x
def evOr (ma mb : Ev → M D) : Ev → M D := fun ρ => (ma ρ).bind fun x => (tru x).bind fun b => if b = true then M.ret x else mb ρ
def evNot (ma : Ev → M D) : Ev → M D := fun ρ => (ma ρ).bind fun x => (tru x).bind fun b => M.ret (.bl (!b))
theorem je_one {op : BoolOp} {ma : Ev → M D} {a : Expr} {pos : Pos} (ha : PE X a (cnE X.K W ma)) : PE X (.BoolOp op [a] pos) (cnE X.K W ma) := pe_one ha
theorem je_and {ma mb : Ev → M D} {a b : Expr} {rest : List Expr} {pos : Pos} (ha : PE X a (cnE X.K W ma)) (hb : PE X (.BoolOp .And (b :: rest) pos) (cnE X.K W mb)) : PE X (.BoolOp .And (a :: b :: rest) pos) (cnE X.K W (evAnd ma mb)) := by
  refine pe_imp (pe_andT ha hb) fun σ H Q h => ?_
  obtain ⟨w, st, ρ, S, R, h⟩ := h
  refine cn_seq S R h fun x v w1 st1 H1 e1 S1 R1 rx h1 => ?_
  obtain ⟨b, q, h2⟩ := tru_ex h1
  refine ⟨b, tru_rel S1 rx q, ?_⟩
  cases b with
  | true => exact ⟨w1, st1, ρ, S1, R1, h2⟩
  | false => exact h2 w1 H1 Ext.refl S1 v rx
theorem je_or {ma mb : Ev → M D} {a b : Expr} {rest : List Expr} {pos : Pos} (ha : PE X a (cnE X.K W ma)) (hb : PE X (.BoolOp .Or (b :: rest) pos) (cnE X.K W mb)) : PE X (.BoolOp .Or (a :: b :: rest) pos) (cnE X.K W (evOr ma mb)) := by
  refine pe_imp (pe_orT ha hb) fun σ H Q h => ?_
  obtain ⟨w, st, ρ, S, R, h⟩ := h
  refine cn_seq S R h fun x v w1 st1 H1 e1 S1 R1 rx h1 => ?_
  obtain ⟨b, q, h2⟩ := tru_ex h1
  refine ⟨b, tru_rel S1 rx q, ?_⟩
  cases b with
  | false => exact ⟨w1, st1, ρ, S1, R1, h2⟩
  | true => exact h2 w1 H1 Ext.refl S1 v rx
theorem je_not {ma : Ev → M D} {a : Expr} {pos : Pos} (ha : PE X a (cnE X.K W ma)) : PE X (.UnaryOp .Not a pos) (cnE X.K W (evNot ma)) := by
  refine pe_imp (pe_notT ha) fun σ H Q h => ?_
  obtain ⟨w, st, ρ, S, R, h⟩ := h
  refine cn_seq S R h fun x v w1 st1 H1 e1 S1 R1 rx h1 => ?_
  obtain ⟨b, q, h2⟩ := tru_ex h1
  exact ⟨b, tru_rel S1 rx q, h2 w1 H1 Ext.refl S1 _ rfl⟩
theorem evT_and (ma mb : Ev → M D) (ρ : Ev) : evT (evAnd ma mb) ρ = (evT ma ρ).bind fun b => if b = true then evT mb ρ else M.ret false := by
  funext st
  show ((ma ρ st).bind fun x => (tru x).bind _).bind tru = ((ma ρ st).bind tru).bind _
  cases ma ρ st with
  | no => rfl
  | exc _ _ => rfl
  | ok x st1 =>
    show ((tru x st1).bind fun b => (if b = true then mb ρ else M.ret x : M D)).bind tru = (tru x st1).bind fun b => (if b = true then evT mb ρ else M.ret false : M Bool)
    have ht : tru x st1 = (match truD st1 x with | some b => .ok b st1 | none => .no) := rfl
    cases q : truD st1 x with
    | none => rw [ht, q]; rfl
    | some b =>
      rw [ht, q]
      cases b with
      | true => rfl
      | false =>
        show tru x st1 = .ok false st1
        rw [ht, q]
theorem evT_or (ma mb : Ev → M D) (ρ : Ev) : evT (evOr ma mb) ρ = (evT ma ρ).bind fun b => if b = true then M.ret true else evT mb ρ := by
  funext st
  show ((ma ρ st).bind fun x => (tru x).bind _).bind tru = ((ma ρ st).bind tru).bind _
  cases ma ρ st with
  | no => rfl
  | exc _ _ => rfl
  | ok x st1 =>
    show ((tru x st1).bind fun b => (if b = true then M.ret x else mb ρ : M D)).bind tru = (tru x st1).bind fun b => (if b = true then M.ret true else evT mb ρ : M Bool)
    have ht : tru x st1 = (match truD st1 x with | some b => .ok b st1 | none => .no) := rfl
    cases q : truD st1 x with
    | none => rw [ht, q]; rfl
    | some b =>
      rw [ht, q]
      cases b with
      | false => rfl
      | true =>
        show tru x st1 = .ok true st1
        rw [ht, q]
theorem evT_not (ma : Ev → M D) (ρ : Ev) : evT (evNot ma) ρ = (evT ma ρ).bind fun b => M.ret (!b) := by
  funext st
  show ((ma ρ st).bind fun x => (tru x).bind _).bind tru = ((ma ρ st).bind tru).bind _
  cases ma ρ st with
  | no => rfl
  | exc _ _ => rfl
  | ok x st1 =>
    show ((tru x st1).bind fun b => (M.ret (.bl (!b)) : M D)).bind tru = (tru x st1).bind fun b => (M.ret (!b) : M Bool)
    have ht : tru x st1 = (match truD st1 x with | some b => .ok b st1 | none => .no) := rfl
    cases q : truD st1 x with
    | none => rw [ht, q]; rfl
    | some b => rw [ht, q]; rfl
/-- a test, then what follows -/
theorem ct_seq {K : PySem.W.Frag} {W : WX} {α : Type} {σ : L2.St} {H : Hp} {w : Wd} {st : Sto} {ρ : Ev} {ma : Ev → M Bool} {f : Bool → M α} {P : α → Wd → Sto → Hp → Prop} {Q : Bool → Hp → Prop} (S : StOk K H w st) (R : EvOk K H w st.next ρ σ)
    (h : Pst K (fun c d H' => W c d σ H') H w st.next ((ma ρ).bind f st) P)
    (hq : ∀ b w1 st1 H1, Ext H w st.next H1 w1 st1.next → StOk K H1 w1 st1 → EvOk K H1 w1 st1.next ρ σ → Pst K (fun c d H' => W c d σ H') H1 w1 st1.next (f b st1) P → Q b H1) : cnT K W ma σ H Q :=
  ⟨w, st, ρ, S, R, (Pst.bind h).mono fun b w1 st1 H1 e1 S1 p => hq b w1 st1 H1 e1 S1 (R.mono e1) p⟩
theorem jw_one {op : BoolOp} {ma : Ev → M D} {a : Expr} {pos : Pos} (ha : PT X a (cnT X.K W (evT ma))) : PW X (.BoolOp op [a] pos) (cnT X.K W (evT ma)) := by
  cases op with
  | And => exact pw_and1 ha
  | Or => exact pw_or1 ha
theorem jw_and {ma mb : Ev → M D} {a b : Expr} {rest : List Expr} {pos : Pos} (ha : PT X a (cnT X.K W (evT ma))) (hb : PW X (.BoolOp .And (b :: rest) pos) (cnT X.K W (evT mb))) : PW X (.BoolOp .And (a :: b :: rest) pos) (cnT X.K W (evT (evAnd ma mb))) := by
  refine pw_imp (pw_and ha hb) fun σ H Q h => ?_
  obtain ⟨w, st, ρ, S, R, h⟩ := h
  rw [evT_and] at h
  refine ct_seq S R h fun b w1 st1 H1 e1 S1 R1 h1 => ?_
  cases b with
  | true => exact ⟨w1, st1, ρ, S1, R1, h1⟩
  | false => exact h1 w1 H1 Ext.refl S1
theorem jw_or {ma mb : Ev → M D} {a b : Expr} {rest : List Expr} {pos : Pos} (ha : PT X a (cnT X.K W (evT ma))) (hb : PW X (.BoolOp .Or (b :: rest) pos) (cnT X.K W (evT mb))) : PW X (.BoolOp .Or (a :: b :: rest) pos) (cnT X.K W (evT (evOr ma mb))) := by
  refine pw_imp (pw_or ha hb) fun σ H Q h => ?_
  obtain ⟨w, st, ρ, S, R, h⟩ := h
  rw [evT_or] at h
  refine ct_seq S R h fun b w1 st1 H1 e1 S1 R1 h1 => ?_
  cases b with
  | false => exact ⟨w1, st1, ρ, S1, R1, h1⟩
  | true => exact h1 w1 H1 Ext.refl S1
theorem jt_not {ma : Ev → M D} {a : Expr} {pos : Pos} (ha : PT X a (cnT X.K W (evT ma))) : PT X (.UnaryOp .Not a pos) (cnT X.K W (evT (evNot ma))) := by
  refine pt_imp (pt_not ha) fun σ H Q h => ?_
  obtain ⟨w, st, ρ, S, R, h⟩ := h
  rw [evT_not] at h
  refine ct_seq S R h fun b w1 st1 H1 e1 S1 R1 h1 => ?_
  exact h1 w1 H1 Ext.refl S1
/-- a if t else b -/
def evIf (mt ma mb : Ev → M D) : Ev → M D := fun ρ => (evT mt ρ).bind fun b => if b = true then ma ρ else mb ρ
theorem je_if {mt ma mb : Ev → M D} {t a b : Expr} {pos : Pos} (ht : PT X t (cnT X.K W (evT mt))) (ha : PE X a (cnE X.K W ma)) (hb : PE X b (cnE X.K W mb)) : PE X (.IfExp t a b pos) (cnE X.K W (evIf mt ma mb)) := by
  refine pe_imp (pe_ifExp ht ha hb) fun σ H Q h => ?_
  obtain ⟨w, st, ρ, S, R, h⟩ := h
  refine ct_seq S R h fun b w1 st1 H1 e1 S1 R1 h1 => ?_
  cases b with
  | true => exact ⟨w1, st1, ρ, S1, R1, h1⟩
  | false => exact ⟨w1, st1, ρ, S1, R1, h1⟩
end
end Mp
namespace Mp
open PySem PySem.Spec PyProof.Rows L2
open PySem.SeqAt (EqAt)
open PySem.MeetsSeq PySem.MeetsSeq2 PySem.MeetsSeq3
open Ob (RcOp lexAt)

/-- the first pair that differs -/
def FirstAt (e : Nat → Bool) (j : Nat) : Prop := (∀ i, i < j → e i = true) ∧ e j = false
theorem pair_at {its its2 : Array Value} {i : Nat} {p : Value × Value} {rest : List (Value × Value)} (hz : p :: rest = (its.toList.zip its2.toList).drop i) :
    ∃ (h1 : i < its.size) (h2 : i < its2.size), p = (its[i], its2[i]) ∧ rest = (its.toList.zip its2.toList).drop (i + 1) := by
  have hl : i < (its.toList.zip its2.toList).length := by
    rcases Nat.lt_or_ge i (its.toList.zip its2.toList).length with q | q
    · exact q
    · rw [List.drop_of_length_le q] at hz
      exact nomatch hz
  have hl2 := hl
  simp only [List.length_zip, Array.length_toList] at hl2
  have h1 : i < its.size := by omega
  have h2 : i < its2.size := by omega
  rw [List.drop_eq_getElem_cons hl] at hz
  injection hz with a b
  exact ⟨h1, h2, by rw [a]; simp, b⟩
theorem none_at {its its2 : Array Value} {i : Nat} (hz : [] = (its.toList.zip its2.toList).drop i) : min its.size its2.size ≤ i := by
  rcases Nat.lt_or_ge i (its.toList.zip its2.toList).length with q | q
  · rw [List.drop_eq_getElem_cons q] at hz
    exact nomatch hz
  · simpa using q
theorem lex_next {e r : Nat → Bool} {z : Bool} {i m : Nat} (h : i < m) : lexAt e r z i (m - i) = if e i = true then lexAt e r z (i + 1) (m - (i + 1)) else r i := by
  have q : m - i = (m - (i + 1)) + 1 := by omega
  rw [q, Ob.lexAt_succ]
/-- what a tuple's comparison is promised -/
def Lexed (op : CmpOp) (z : Bool) (l b : Addr) (its its2 : Array Value) (n n2 : Nat) (dd dd2 : Option Addr) (sl sl2 : Array (Option Value)) (e r : Nat → Bool) (A : Around) (R : Result → Shared → Prop) (s : Shared) : Prop :=
  s.heap.get? l = some ⟨.type "tuple", dd, .seq its n, sl⟩ ∧ s.heap.get? b = some ⟨.type "tuple", dd2, .seq its2 n2, sl2⟩ ∧
    (∀ j (h1 : j < its.size) (h2 : j < its2.size), EqAt A.in1 s its[j] its2[j] (e j)) ∧
    (∀ j (h1 : j < its.size) (h2 : j < its2.size), FirstAt e j → RcOp op A.in1 s its[j] its2[j] (r j)) ∧
    R (.ok (.ret (.bool (lexAt e r z 0 (min its.size its2.size))))) s
/-- between two turns -/
abbrev LexInv (z : Bool) (its its2 : Array Value) (e r : Nat → Bool) (R : Result → Shared → Prop) (s₀ : Shared) (rest : List (Value × Value)) (s' : Shared) : Prop :=
  s' = s₀ ∧ ∃ i, rest = (its.toList.zip its2.toList).drop i ∧ (∀ k, k < i → e k = true) ∧ R (.ok (.ret (.bool (lexAt e r z i (min its.size its2.size - i))))) s₀
section
variable (l b : Addr) (its its2 : Array Value) (n n2 : Nat) (dd dd2 : Option Addr) (sl sl2 : Array (Option Value)) (e r : Nat → Bool)
theorem lexed_lt : Meets (Builtin.«tuple.__lt__» ⟨[.ref l, .ref b], []⟩) (Lexed .Lt (decide (its.size < its2.size)) l b its its2 n n2 dd dd2 sl sl2 e r) := .of_wp fun prog w A R s0 hyp => by
  obtain ⟨hp, g, d, tk, os⟩ := s0
  obtain ⟨o1, o2, eqs, rcs, goal⟩ := hyp
  have f2 := AutoSeq1.sub_tuple_tuple
  wp_walk using AutoSeq1.wpAny_loadPart' o1, AutoSeq1.wpAny_loadPart' o2, wpAny_forIn_list _ (fun rest b s' => b.1 = none ∧ LexInv (decide (its.size < its2.size)) its its2 e r R ⟨hp, g, d, tk, os⟩ rest s') _
  case turn =>
    rintro p rest b s' ⟨b1, rfl, i, hz, pre, hR⟩
    obtain ⟨h1, h2, rfl, hrest⟩ := pair_at hz
    rw [lex_next (show i < min its.size its2.size by omega)] at hR
    refine wpAny_bind (eqs i h1 h2 prog w _ _ ?_)
    cases ei : e i with
    | true =>
      rw [ei, if_pos rfl] at hR
      wp_walk
      exact ⟨rfl, rfl, i + 1, hrest, fun k hk => (Nat.lt_succ_iff_lt_or_eq.mp hk).elim (pre k) (fun q => q ▸ ei), hR⟩
    | false =>
      rw [ei, if_neg Bool.false_ne_true] at hR
      have rc := rcs i h1 h2 ⟨pre, ei⟩ prog w
      wp_walk using rc
      exact ⟨_, rfl, by simpa using hR⟩
  case fin =>
    rintro ⟨b1, b2⟩ s' ⟨eb, rfl, i, hz, pre, hR⟩
    simp only at eb
    subst eb
    rw [Nat.sub_eq_zero_of_le (none_at hz)] at hR
    wp_walk
    exact ⟨_, rfl, by simpa [Builtin.Tuple.tupleCompareSizes, Ob.lexAt_zero] using hR⟩
  case h => exact ⟨rfl, rfl, 0, rfl, fun k hk => absurd hk (Nat.not_lt_zero k), by simpa using goal⟩
theorem lexed_le : Meets (Builtin.«tuple.__le__» ⟨[.ref l, .ref b], []⟩) (Lexed .LtE (decide (its.size ≤ its2.size)) l b its its2 n n2 dd dd2 sl sl2 e r) := .of_wp fun prog w A R s0 hyp => by
  obtain ⟨hp, g, d, tk, os⟩ := s0
  obtain ⟨o1, o2, eqs, rcs, goal⟩ := hyp
  have f2 := AutoSeq1.sub_tuple_tuple
  wp_walk using AutoSeq1.wpAny_loadPart' o1, AutoSeq1.wpAny_loadPart' o2, wpAny_forIn_list _ (fun rest b s' => b.1 = none ∧ LexInv (decide (its.size ≤ its2.size)) its its2 e r R ⟨hp, g, d, tk, os⟩ rest s') _
  case turn =>
    rintro p rest b s' ⟨b1, rfl, i, hz, pre, hR⟩
    obtain ⟨h1, h2, rfl, hrest⟩ := pair_at hz
    rw [lex_next (show i < min its.size its2.size by omega)] at hR
    refine wpAny_bind (eqs i h1 h2 prog w _ _ ?_)
    cases ei : e i with
    | true =>
      rw [ei, if_pos rfl] at hR
      wp_walk
      exact ⟨rfl, rfl, i + 1, hrest, fun k hk => (Nat.lt_succ_iff_lt_or_eq.mp hk).elim (pre k) (fun q => q ▸ ei), hR⟩
    | false =>
      rw [ei, if_neg Bool.false_ne_true] at hR
      have rc := rcs i h1 h2 ⟨pre, ei⟩ prog w
      wp_walk using rc
      exact ⟨_, rfl, by simpa using hR⟩
  case fin =>
    rintro ⟨b1, b2⟩ s' ⟨eb, rfl, i, hz, pre, hR⟩
    simp only at eb
    subst eb
    rw [Nat.sub_eq_zero_of_le (none_at hz)] at hR
    wp_walk
    exact ⟨_, rfl, by simpa [Builtin.Tuple.tupleCompareSizes, Ob.lexAt_zero] using hR⟩
  case h => exact ⟨rfl, rfl, 0, rfl, fun k hk => absurd hk (Nat.not_lt_zero k), by simpa using goal⟩
theorem lexed_gt : Meets (Builtin.«tuple.__gt__» ⟨[.ref l, .ref b], []⟩) (Lexed .Gt (decide (its.size > its2.size)) l b its its2 n n2 dd dd2 sl sl2 e r) := .of_wp fun prog w A R s0 hyp => by
  obtain ⟨hp, g, d, tk, os⟩ := s0
  obtain ⟨o1, o2, eqs, rcs, goal⟩ := hyp
  have f2 := AutoSeq1.sub_tuple_tuple
  wp_walk using AutoSeq1.wpAny_loadPart' o1, AutoSeq1.wpAny_loadPart' o2, wpAny_forIn_list _ (fun rest b s' => b.1 = none ∧ LexInv (decide (its.size > its2.size)) its its2 e r R ⟨hp, g, d, tk, os⟩ rest s') _
  case turn =>
    rintro p rest b s' ⟨b1, rfl, i, hz, pre, hR⟩
    obtain ⟨h1, h2, rfl, hrest⟩ := pair_at hz
    rw [lex_next (show i < min its.size its2.size by omega)] at hR
    refine wpAny_bind (eqs i h1 h2 prog w _ _ ?_)
    cases ei : e i with
    | true =>
      rw [ei, if_pos rfl] at hR
      wp_walk
      exact ⟨rfl, rfl, i + 1, hrest, fun k hk => (Nat.lt_succ_iff_lt_or_eq.mp hk).elim (pre k) (fun q => q ▸ ei), hR⟩
    | false =>
      rw [ei, if_neg Bool.false_ne_true] at hR
      have rc := rcs i h1 h2 ⟨pre, ei⟩ prog w
      wp_walk using rc
      exact ⟨_, rfl, by simpa using hR⟩
  case fin =>
    rintro ⟨b1, b2⟩ s' ⟨eb, rfl, i, hz, pre, hR⟩
    simp only at eb
    subst eb
    rw [Nat.sub_eq_zero_of_le (none_at hz)] at hR
    wp_walk
    exact ⟨_, rfl, by simpa [Builtin.Tuple.tupleCompareSizes, Ob.lexAt_zero] using hR⟩
  case h => exact ⟨rfl, rfl, 0, rfl, fun k hk => absurd hk (Nat.not_lt_zero k), by simpa using goal⟩
theorem lexed_ge : Meets (Builtin.«tuple.__ge__» ⟨[.ref l, .ref b], []⟩) (Lexed .GtE (decide (its.size ≥ its2.size)) l b its its2 n n2 dd dd2 sl sl2 e r) := .of_wp fun prog w A R s0 hyp => by
  obtain ⟨hp, g, d, tk, os⟩ := s0
  obtain ⟨o1, o2, eqs, rcs, goal⟩ := hyp
  have f2 := AutoSeq1.sub_tuple_tuple
  wp_walk using AutoSeq1.wpAny_loadPart' o1, AutoSeq1.wpAny_loadPart' o2, wpAny_forIn_list _ (fun rest b s' => b.1 = none ∧ LexInv (decide (its.size ≥ its2.size)) its its2 e r R ⟨hp, g, d, tk, os⟩ rest s') _
  case turn =>
    rintro p rest b s' ⟨b1, rfl, i, hz, pre, hR⟩
    obtain ⟨h1, h2, rfl, hrest⟩ := pair_at hz
    rw [lex_next (show i < min its.size its2.size by omega)] at hR
    refine wpAny_bind (eqs i h1 h2 prog w _ _ ?_)
    cases ei : e i with
    | true =>
      rw [ei, if_pos rfl] at hR
      wp_walk
      exact ⟨rfl, rfl, i + 1, hrest, fun k hk => (Nat.lt_succ_iff_lt_or_eq.mp hk).elim (pre k) (fun q => q ▸ ei), hR⟩
    | false =>
      rw [ei, if_neg Bool.false_ne_true] at hR
      have rc := rcs i h1 h2 ⟨pre, ei⟩ prog w
      wp_walk using rc
      exact ⟨_, rfl, by simpa using hR⟩
  case fin =>
    rintro ⟨b1, b2⟩ s' ⟨eb, rfl, i, hz, pre, hR⟩
    simp only at eb
    subst eb
    rw [Nat.sub_eq_zero_of_le (none_at hz)] at hR
    wp_walk
    exact ⟨_, rfl, by simpa [Builtin.Tuple.tupleCompareSizes, Ob.lexAt_zero] using hR⟩
  case h => exact ⟨rfl, rfl, 0, rfl, fun k hk => absurd hk (Nat.not_lt_zero k), by simpa using goal⟩
end
/-- the lengths' word -/
def lenOp (op : CmpOp) (m n : Nat) : Bool := match op with
  | .Lt => decide (m < n)
  | .LtE => decide (m ≤ n)
  | .Gt => decide (m > n)
  | .GtE => decide (m ≥ n)
  | _ => false
def isOrd : CmpOp → Bool
  | .Lt | .LtE | .Gt | .GtE => true
  | _ => false
/-- two tuples in order -/
theorem tuples_ord {op : CmpOp} (ho : isOrd op = true) {A : Around} {s : Shared} {l b : Addr} {its its2 : Array Value} {e r : Nat → Bool} (hl : s.heap.IsTuple l its) (hb : s.heap.IsTuple b its2) (hu : A.units < cLine)
    (eqs : ∀ j (h1 : j < its.size) (h2 : j < its2.size), EqAt A.in1 s its[j] its2[j] (e j)) (rcs : ∀ j (h1 : j < its.size) (h2 : j < its2.size), FirstAt e j → RcOp op A.in1 s its[j] its2[j] (r j)) :
    RcOp op A s (.ref l) (.ref b) (lexAt e r (lenOp op its.size its2.size) 0 (min its.size its2.size)) := by
  intro prog w E Q goal
  obtain ⟨⟨c1, dd, da, sl⟩, o1, k1, n, d1⟩ := id hl
  obtain ⟨⟨c2, dd2, da2, sl2⟩, o2, k2, n2, d2⟩ := id hb
  simp only at k1 d1 k2 d2
  subst k1 d1 k2 d2
  cases op with
  | Lt => exact richCompare_meets_room (op := .Lt) ⟨_, o1, rfl⟩ ⟨_, o2, rfl⟩ F.slot_tuple_lt F.entry_tuple_lt (F.args_tuple_lt_2 _ _) (lexed_lt l b its its2 n n2 dd dd2 sl sl2 e r) ⟨o1, o2, eqs, rcs, (fun q => nomatch q), goal⟩ hu
  | LtE => exact richCompare_meets_room (op := .LtE) ⟨_, o1, rfl⟩ ⟨_, o2, rfl⟩ F.slot_tuple_le F.entry_tuple_le (F.args_tuple_le_2 _ _) (lexed_le l b its its2 n n2 dd dd2 sl sl2 e r) ⟨o1, o2, eqs, rcs, (fun q => nomatch q), goal⟩ hu
  | Gt => exact richCompare_meets_room (op := .Gt) ⟨_, o1, rfl⟩ ⟨_, o2, rfl⟩ F.slot_tuple_gt F.entry_tuple_gt (F.args_tuple_gt_2 _ _) (lexed_gt l b its its2 n n2 dd dd2 sl sl2 e r) ⟨o1, o2, eqs, rcs, (fun q => nomatch q), goal⟩ hu
  | GtE => exact richCompare_meets_room (op := .GtE) ⟨_, o1, rfl⟩ ⟨_, o2, rfl⟩ F.slot_tuple_ge F.entry_tuple_ge (F.args_tuple_ge_2 _ _) (lexed_ge l b its its2 n n2 dd dd2 sl sl2 e r) ⟨o1, o2, eqs, rcs, (fun q => nomatch q), goal⟩ hu
  | _ => cases ho
end Mp
namespace Mp
open PySem PySem.Spec PyProof.Rows L2
open PySem.SeqAt (EqAt)
open Ob (RcOp lexAt)

section
variable {K : PySem.W.Frag} {E : XK} {H : Hp} {w : Wd} {st : Sto} {Q : VK}
theorem post_here {d : D} {v : V} (S : StOk K H w st) (h : Pst K E H w st.next (.ok d st) (PV K Q)) (r : RelD K H w st.next d v) : Q v H := h w H Ext.refl S v r
theorem post_lst {ds : List D} {vs : List V} {p : Addr} (S : StOk K H w st) (h : Pst K E H w st.next (.ok (.lst ds) st) (PV K Q)) (r : RelDs K H w st.next ds vs) (hp : H p = none) : Q (.ref p) (upd H p (.lst vs)) := by
  refine h (w.addF p) _ (ext_imm S hp) (S.imm hp) (.ref p) ?_
  unfold RelD
  exact ⟨p, vs, rfl, .inr rfl, upd_same, r.mono (ext_imm S hp)⟩
theorem post_tup {ds : List D} {vs : List V} {p : Addr} (S : StOk K H w st) (h : Pst K E H w st.next (.ok (.tup ds) st) (PV K Q)) (r : RelDs K H w st.next ds vs) (hp : H p = none) : Q (.ref p) (upd H p (.tup vs)) := by
  refine h (w.addF p) _ (ext_imm S hp) (S.imm hp) (.ref p) ?_
  unfold RelD
  exact ⟨p, vs, rfl, .inl ⟨.inr rfl, upd_same⟩, r.mono (ext_imm S hp)⟩
/-- a new thing that may change -/
theorem post_new {o : O} {ho : HO} {p : Addr} (S : StOk K H w st) (h : Pst K E H w st.next (.ok (.loc st.next) (st.new o)) (PV K Q)) (r : RelO K H w st.next o ho) (hp : H p = none) (hl : o.lk = false := by rfl) : Q (.ref p) (upd H p ho) := by
  refine h (w.at st.next p) _ (ext_new S hp) (S.new hp r hl) (.ref p) ?_
  unfold RelD
  exact ⟨Nat.lt_succ_self _, by rw [show (w.at st.next p).φ st.next = p from if_pos rfl]⟩
theorem post_set {n : Nat} {u o : O} {ho : HO} {d : D} {v : V} (S : StOk K H w st) (q : st.get n = some u) (h : Pst K E H w st.next (.ok d (st.set n o)) (PV K Q)) (r : RelO K H w st.next o ho) (rd : RelD K H w st.next d v) (hl : u.lk = false := by rfl) (hl2 : o.lk = false := by rfl) : Q v (upd H (w.φ n) ho) :=
  h w _ (ext_set S q hl) (S.set q r hl hl2) v (rd.mono (ext_set (ho := ho) S q hl))
end

mutual
def toP : D → Option PyData
  | .non => some .none
  | .bl b => some (.bool b)
  | .int i => some (.int i)
  | .str s => some (.str s)
  | .tup xs => (toPs xs).map PyData.tuple
  | .lst xs => (toPs xs).map PyData.list
  | .scr _ => none
  | .loc _ => none
def toPs : List D → Option (List PyData)
  | [] => some []
  | d :: ds => match toP d, toPs ds with
    | some p, some ps => some (p :: ps)
    | _, _ => none
end
/-- a list of the store is looked into -/
def toPd (st : Sto) (d : D) : Option PyData := match d with
  | .loc n => (match st.get n with
    | some (.lst xs) => (toPs xs).map PyData.list
    | _ => none)
  | d => toP d
section
variable {K : PySem.W.Frag} {H : Hp} {w : Wd} {nx : Nat}
mutual
theorem toP_rel : ∀ {d : D} {v : V} {p : PyData}, RelD K H w nx d v → toP d = some p → Dp K H v p
  | .non, _, _, r, e => by cases r; cases e; exact .non
  | .bl b, _, _, r, e => by cases r; cases e; exact .bl b
  | .int i, _, _, r, e => by cases r; cases e; exact .int i
  | .str s, _, _, r, e => by cases r; cases e; exact .str s
  | .tup xs, v, p, r, e => by
    obtain ⟨a, vs, rfl, h1, h2⟩ := r.sqT
    unfold toP at e
    obtain ⟨ps, q, rfl⟩ := Option.map_eq_some_iff.mp e
    exact .tup h1 (toPs_rel h2 q)
  | .lst xs, v, p, r, e => by
    obtain ⟨a, vs, rfl, h1, h2⟩ := r.sqL
    unfold toP at e
    obtain ⟨ps, q, rfl⟩ := Option.map_eq_some_iff.mp e
    exact .lst (SqL.of h1) (toPs_rel h2 q)
  | .scr _, _, _, _, e => by cases e
  | .loc _, _, _, _, e => by cases e
theorem toPs_rel : ∀ {ds : List D} {vs : List V} {ps : List PyData}, RelDs K H w nx ds vs → toPs ds = some ps → DpAll K H vs ps
  | [], _, _, r, e => by cases r; cases e; exact .nil
  | d :: ds, vs, ps, r, e => by
    unfold RelDs at r
    obtain ⟨v, us, rfl, h1, h2⟩ := r
    unfold toPs at e
    cases q1 : toP d with
    | none => rw [q1] at e; exact nomatch e
    | some p =>
      cases q2 : toPs ds with
      | none => rw [q1, q2] at e; exact nomatch e
      | some qs =>
        rw [q1, q2] at e
        cases e
        exact .cons (toP_rel h1 q1) (toPs_rel h2 q2)
end
end
theorem toPd_rel {K : PySem.W.Frag} {H : Hp} {w : Wd} {st : Sto} {d : D} {v : V} {p : PyData} (S : StOk K H w st) (r : RelD K H w st.next d v) (e : toPd st d = some p) : Dp K H v p := by
  unfold toPd at e
  split at e
  · split at e
    · rename_i n xs q
      obtain ⟨ps, q2, rfl⟩ := Option.map_eq_some_iff.mp e
      obtain ⟨vs, rfl, h2, h3⟩ := RelD.locL S r q
      exact .lst (SqL.of h2) (toPs_rel h3 q2)
    · cases e
  · exact toP_rel r e

def eqOk (p q : PyData) : Bool := p.canLay0 && q.canLay0 && decide (min p.depth q.depth ≤ 64)
def eqM (neg : Bool) (x y : D) : M D := fun st => match toPd st x, toPd st y with
  | some p, some q => if eqOk p q = true then .ok (.bl (PyData.eqv p q != neg)) st else .no
  | _, _ => .no
def rEqM (K : PySem.W.Frag) (neg : Bool) : R2 := fun x y H Q => ∃ p q, Dp K H x p ∧ Dp K H y q ∧ eqOk p q = true ∧ Q (.bl (PyData.eqv p q != neg)) H
theorem eqOk_room {p q : PyData} {A : Around} (h : eqOk p q = true) (hu : A.units + 64 < cLine) : p.canLay0 = true ∧ q.canLay0 = true ∧ A.units + min p.depth q.depth < cLine := by
  unfold eqOk at h
  simp only [Bool.and_eq_true, decide_eq_true_eq] at h
  exact ⟨h.1.1, h.1.2, by omega⟩
theorem op_eqM {X : Cx} (hu : X.A.units + 64 < cLine) : OpR X (compareOp .Eq) (rEqM X.K false) := by
  intro pins s σ H x y v u Q I rx ry h
  obtain ⟨p, q, hp, hq, k, z⟩ := h
  obtain ⟨as, r1⟩ := Dp.reads I p x v hp rx
  obtain ⟨bs, r2⟩ := Dp.reads I q y u hq ry
  obtain ⟨k1, k2, k3⟩ := eqOk_room k hu
  rw [Bool.bne_false] at z
  exact SeqAt.compareEq_reads r1 r2 k1 k2 k3 ⟨.bl _, H, I, rfl, z⟩
theorem op_neM {X : Cx} (hu : X.A.units + 64 < cLine) : OpR X (compareOp .NotEq) (rEqM X.K true) := by
  intro pins s σ H x y v u Q I rx ry h
  obtain ⟨p, q, hp, hq, k, z⟩ := h
  obtain ⟨as, r1⟩ := Dp.reads I p x v hp rx
  obtain ⟨bs, r2⟩ := Dp.reads I q y u hq ry
  obtain ⟨k1, k2, k3⟩ := eqOk_room k hu
  rw [Bool.bne_true] at z
  exact SeqAt.compareNe_reads r1 r2 k1 k2 k3 ⟨.bl _, H, I, rfl, z⟩
theorem ad_eq {K : PySem.W.Frag} {neg : Bool} : OpAd K (rEqM K neg) (eqM neg) := by
  intro E H w st x y v u Q S rx ry h
  unfold eqM at h
  split at h
  · rename_i p q hp hq
    split at h
    · rename_i k
      exact ⟨p, q, toPd_rel S rx hp, toPd_rel S ry hq, k, post_here S h rfl⟩
    · exact h.elim
  · exact h.elim

def ordI (op : CmpOp) (i j : Int) : Bool := match op with
  | .Lt => decide (i < j)
  | .LtE => decide (i ≤ j)
  | .Gt => decide (j < i)
  | .GtE => decide (j ≤ i)
  | _ => false
def ordS (op : CmpOp) (a b : Str) : Bool := match op with
  | .Lt => decide (a.cps.toList < b.cps.toList)
  | .LtE => !decide (b.cps.toList < a.cps.toList)
  | .Gt => decide (b.cps.toList < a.cps.toList)
  | .GtE => !decide (a.cps.toList < b.cps.toList)
  | _ => false
def ordP (op : CmpOp) : PyData → PyData → Option Bool
  | .int i, .int j => some (ordI op i j)
  | .str a, .str b => some (ordS op a b)
  | _, _ => none
/-- from the first pair that differs -/
def lexP (op : CmpOp) : List PyData → List PyData → Option Bool
  | p :: ps, q :: qs => if PyData.eqv p q = true then lexP op ps qs else ordP op p q
  | [], qs => some (lenOp op 0 qs.length)
  | p :: ps, [] => some (lenOp op (ps.length + 1) 0)
theorem rc_int {op : CmpOp} (ho : isOrd op = true) {A : Around} {s : Shared} (i j : Int) (t u : Tok) : RcOp op A s (.int i t) (.int j u) (ordI op i j) := by
  cases op with
  | Lt => exact RcOp.lt_int i j t u
  | LtE => exact RcOp.le_int i j t u
  | Gt => exact RcOp.gt_int i j t u
  | GtE => exact RcOp.ge_int i j t u
  | _ => cases ho
theorem rc_str {op : CmpOp} (ho : isOrd op = true) {A : Around} {s : Shared} (a b : Str) (t u : Tok) : RcOp op A s (.str a t) (.str b u) (ordS op a b) := by
  intro prog w E Q h
  cases op with
  | Lt => exact PySem.P.lt_str h
  | LtE => exact PySem.P.le_str h
  | Gt => exact PySem.P.gt_str h
  | GtE => exact PySem.P.ge_str h
  | _ => cases ho
/-- the pair at a place -/
def eAt (ps qs : List PyData) (j : Nat) : Bool := match ps[j]?, qs[j]? with
  | some p, some q => PyData.eqv p q
  | _, _ => true
def rAt (op : CmpOp) (ps qs : List PyData) (j : Nat) : Bool := match ps[j]?, qs[j]? with
  | some p, some q => (ordP op p q).getD false
  | _, _ => false
theorem lexAt_shift {e r : Nat → Bool} {z : Bool} : ∀ (k i : Nat), lexAt e r z (i + 1) k = lexAt (fun j => e (j + 1)) (fun j => r (j + 1)) z i k
  | 0, _ => rfl
  | k + 1, i => by
    rw [Ob.lexAt_succ, Ob.lexAt_succ, lexAt_shift k (i + 1)]
theorem lexP_at {op : CmpOp} : ∀ {ps qs : List PyData} {b : Bool}, lexP op ps qs = some b → lexAt (eAt ps qs) (rAt op ps qs) (lenOp op ps.length qs.length) 0 (min ps.length qs.length) = b
  | [], qs, b, h => by
    have h : some (lenOp op 0 qs.length) = some b := h
    rw [show min ([] : List PyData).length qs.length = 0 from Nat.zero_min _]
    exact Option.some.inj h
  | p :: ps, [], b, h => by
    have h : some (lenOp op (ps.length + 1) 0) = some b := h
    rw [show min (p :: ps).length ([] : List PyData).length = 0 from Nat.min_zero _]
    exact Option.some.inj h
  | p :: ps, q :: qs, b, h => by
    have h : (if PyData.eqv p q = true then lexP op ps qs else ordP op p q) = some b := h
    have em : min (p :: ps).length (q :: qs).length = min ps.length qs.length + 1 := by simp only [List.length_cons]; omega
    have el : lenOp op (p :: ps).length (q :: qs).length = lenOp op ps.length qs.length := by
      cases op <;> simp [lenOp]
    rw [em, Ob.lexAt_succ, el]
    have e0 : eAt (p :: ps) (q :: qs) 0 = PyData.eqv p q := rfl
    have r0 : rAt op (p :: ps) (q :: qs) 0 = (ordP op p q).getD false := rfl
    rw [e0]
    by_cases k : PyData.eqv p q = true
    · rw [if_pos k] at h
      rw [if_pos k, lexAt_shift]
      exact lexP_at h
    · rw [if_neg k] at h
      rw [if_neg k, r0, h] <;> rfl
theorem lexP_first {op : CmpOp} : ∀ {ps qs : List PyData} {b : Bool} {j : Nat}, lexP op ps qs = some b → FirstAt (eAt ps qs) j → ∃ p q, ps[j]? = some p ∧ qs[j]? = some q ∧ ordP op p q = some (rAt op ps qs j)
  | [], qs, b, j, h, f => by
    have z : eAt [] qs j = true := by unfold eAt; simp
    have := f.2
    rw [z] at this
    exact nomatch this
  | p :: ps, [], b, j, h, f => by
    have z : eAt (p :: ps) [] j = true := by
      unfold eAt
      cases (p :: ps)[j]? <;> simp
    have := f.2
    rw [z] at this
    exact nomatch this
  | p :: ps, q :: qs, b, j, h, f => by
    have h : (if PyData.eqv p q = true then lexP op ps qs else ordP op p q) = some b := h
    cases j with
    | zero =>
      have e0 : PyData.eqv p q = false := f.2
      rw [e0, if_neg Bool.false_ne_true] at h
      refine ⟨p, q, rfl, rfl, ?_⟩
      have r0 : rAt op (p :: ps) (q :: qs) 0 = (ordP op p q).getD false := rfl
      rw [r0, h] <;> rfl
    | succ j =>
      have e0 : PyData.eqv p q = true := f.1 0 (Nat.succ_pos j)
      rw [if_pos e0] at h
      obtain ⟨p', q', h1, h2, h3⟩ := lexP_first (j := j) h ⟨fun i hi => f.1 (i + 1) (Nat.succ_lt_succ hi), f.2⟩
      exact ⟨p', q', by simpa using h1, by simpa using h2, h3⟩
def ordM (op : CmpOp) (x y : D) : M D := fun st => match x, y with
  | .int i, .int j => .ok (.bl (ordI op i j)) st
  | .str a, .str b => .ok (.bl (ordS op a b)) st
  | .tup xs, .tup ys => (match toPs xs, toPs ys with
    | some ps, some qs => if ((ps.zip qs).all fun z => eqOk z.1 z.2) = true then (match lexP op ps qs with
      | some b => .ok (.bl b) st
      | none => .no) else .no
    | _, _ => .no)
  | _, _ => .no
/-- what is asked of two values in order -/
inductive OrdV (K : PySem.W.Frag) (H : Hp) (op : CmpOp) : V → V → Bool → Prop
  | int (i j : Int) : OrdV K H op (.int i) (.int j) (ordI op i j)
  | str (a b : Str) : OrdV K H op (.str a) (.str b) (ordS op a b)
  | tup {a b : Addr} {xs ys : List V} {ps qs : List PyData} {k : Bool} : SqT K H a xs → SqT K H b ys → DpAll K H xs ps → DpAll K H ys qs → ((ps.zip qs).all fun z => eqOk z.1 z.2) = true → lexP op ps qs = some k → OrdV K H op (.ref a) (.ref b) k
def rOrd (K : PySem.W.Frag) (op : CmpOp) : R2 := fun x y H Q => ∃ k, OrdV K H op x y k ∧ Q (.bl k) H
theorem readsAll_at {h : Heap} : ∀ {vs : List Value} {ps : List PyData} {as : List Addr} {j : Nat} {v : Value} {p : PyData}, ReadsAll h vs ps as → vs[j]? = some v → ps[j]? = some p → ∃ bs, Reads h v p bs
  | [], ps, as, j, v, p, r, e1, e2 => by simp at e1
  | v0 :: vs, ps, as, j, v, p, r, e1, e2 => by
    cases r with
    | cons r1 r2 =>
      cases j with
      | zero =>
        simp at e1 e2
        subst e1 e2
        exact ⟨_, r1⟩
      | succ j => exact readsAll_at (j := j) r2 (by simpa using e1) (by simpa using e2)
theorem readsAll_len {h : Heap} : ∀ {vs : List Value} {ps : List PyData} {as : List Addr}, ReadsAll h vs ps as → vs.length = ps.length
  | _, _, _, .nil => rfl
  | _, _, _, .cons _ r => by simp [readsAll_len r]
theorem zip_at {ps qs : List PyData} (h : ((ps.zip qs).all fun z => eqOk z.1 z.2) = true) {j : Nat} {p q : PyData} (h1 : ps[j]? = some p) (h2 : qs[j]? = some q) : eqOk p q = true := by
  have z : (ps.zip qs)[j]? = some (p, q) := by
    rw [List.getElem?_zip_eq_some]
    exact ⟨h1, h2⟩
  exact (List.all_eq_true.mp h) (p, q) (List.mem_of_getElem? z)
theorem op_ord {X : Cx} {op : CmpOp} (ho : isOrd op = true) (hu : X.A.units + 65 < cLine) : OpR X (compareOp op) (rOrd X.K op) := by
  intro pins s σ H x y v u Q I rx ry h
  obtain ⟨k, o, q⟩ := h
  have fin : ∀ {v u : Value}, RcOp op X.A s v u k → wpAny (model X.prog X.w) X.A (compareOp op v u) (EP X pins σ Q) X.xe s := fun {v u} R => by
    have z := R X.prog X.w X.xe (EP X pins σ Q) ⟨.bl k, H, I, rfl, q⟩
    cases op with
    | Lt => exact z
    | LtE => exact z
    | Gt => exact z
    | GtE => exact z
    | _ => cases ho
  cases o with
  | int i j =>
    obtain ⟨t, rfl⟩ := rx
    obtain ⟨t', rfl⟩ := ry
    exact fin (rc_int ho i j t t')
  | str a b =>
    obtain ⟨t, rfl⟩ := rx
    obtain ⟨t', rfl⟩ := ry
    exact fin (rc_str ho a b t t')
  | @tup a b xs ys ps qs _ ha hb da db al lx =>
    cases rx
    cases ry
    obtain ⟨its, r1, p1, _⟩ := I.tuple ha
    obtain ⟨its2, r2, p2, _⟩ := I.tuple hb
    obtain ⟨as, q1⟩ := Dp.readsAll I ps xs its da r1
    obtain ⟨bs, q2⟩ := Dp.readsAll I qs ys its2 db r2
    have l1 := readsAll_len q1
    have l2 := readsAll_len q2
    have e := lexP_at lx
    have R := tuples_ord (op := op) ho (A := X.A) (s := s) (e := eAt ps qs) (r := rAt op ps qs) p1 p2 (by omega) (fun j h1 h2 => ?_) (fun j h1 h2 f => ?_)
    · simp only [List.size_toArray, l1, l2] at R
      rw [e] at R
      exact fin R
    · have g1 : its[j]? = some its.toArray[j] := by simp at h1; simp [h1]
      have g2 : its2[j]? = some its2.toArray[j] := by simp at h2; simp [h2]
      have k1 : j < ps.length := by simp at h1; omega
      have k2 : j < qs.length := by simp at h2; omega
      have m1 : ps[j]? = some ps[j] := List.getElem?_eq_getElem k1
      have m2 : qs[j]? = some qs[j] := List.getElem?_eq_getElem k2
      obtain ⟨_, z1⟩ := readsAll_at q1 g1 m1
      obtain ⟨_, z2⟩ := readsAll_at q2 g2 m2
      have ok := zip_at al m1 m2
      have ee : eAt ps qs j = PyData.eqv ps[j] qs[j] := by unfold eAt; rw [m1, m2]
      rw [ee]
      unfold eqOk at ok
      simp only [Bool.and_eq_true, decide_eq_true_eq] at ok
      exact SeqAt.eqAt_reads _ _ _ _ _ _ _ _ z1 z2 ok.1.1 ok.1.2 (by show X.A.units + 1 + min _ _ < cLine; omega)
    · obtain ⟨p, q, m1, m2, oq⟩ := lexP_first lx f
      have g1 : its[j]? = some its.toArray[j] := by simp at h1; simp [h1]
      have g2 : its2[j]? = some its2.toArray[j] := by simp at h2; simp [h2]
      obtain ⟨_, z1⟩ := readsAll_at q1 g1 m1
      obtain ⟨_, z2⟩ := readsAll_at q2 g2 m2
      generalize rAt op ps qs j = rr at oq ⊢
      unfold ordP at oq
      split at oq
      · cases oq
        generalize its.toArray[j] = v1 at z1
        generalize its2.toArray[j] = v2 at z2
        cases z1
        cases z2
        exact rc_int ho _ _ _ _
      · cases oq
        generalize its.toArray[j] = v1 at z1
        generalize its2.toArray[j] = v2 at z2
        cases z1
        cases z2
        exact rc_str ho _ _ _ _
      · cases oq
theorem ad_ord {K : PySem.W.Frag} {op : CmpOp} : OpAd K (rOrd K op) (ordM op) := by
  intro E H w st x y v u Q S rx ry h
  unfold ordM at h
  split at h
  · cases rx; cases ry
    exact ⟨_, .int _ _, post_here S h rfl⟩
  · cases rx; cases ry
    exact ⟨_, .str _ _, post_here S h rfl⟩
  · split at h
    · rename_i ps qs hp hq
      split at h
      · rename_i al
        split at h
        · rename_i b lx
          obtain ⟨a, vs, rfl, h1, h2⟩ := rx.sqT
          obtain ⟨a', vs', rfl, h1', h2'⟩ := ry.sqT
          exact ⟨b, .tup h1 h1' (toPs_rel h2 hp) (toPs_rel h2' hq) al lx, post_here S h rfl⟩
        · exact h.elim
      · exact h.elim
    · exact h.elim
  · exact h.elim
end Mp
namespace Mp
open PySem PySem.Spec PyProof.Rows L2

def addM (x y : D) : M D := fun st => match x, y with
  | .int i, .int j => .ok (.int (i + j)) st
  | .str a, .str b => if a.length + b.length ≤ sizeLine then .ok (.str (a ++ b)) st else .no
  | .tup xs, .tup ys => if xs.length + ys.length ≤ sizeLine then .ok (.tup (xs ++ ys)) st else .no
  | x, y => match lstOf st x, lstOf st y with
    | some xs, some ys => if xs.length + ys.length ≤ sizeLine then .ok (.lst (xs ++ ys)) st else .no
    | _, _ => .no
abbrev rStrCat : R2 := fun x y H Q => ∃ i j, x = .str i ∧ y = .str j ∧ i.length + j.length ≤ sizeLine ∧ Q (.str (i ++ j)) H
def rAddM (K : PySem.W.Frag) : R2 := fun x y H Q => (rI0 fun i j => .int (i + j)) x y H Q ∨ (rStrCat x y H Q ∨ (rCatA K x y H Q ∨ rCat x y H Q))
theorem op_addM {X : Cx} : OpR X (binaryOp .Add) (rAddM X.K) := op_add.or (op_add_str.or (op_catA.or op_cat))
theorem ad_add {K : PySem.W.Frag} : OpAd K (rAddM K) addM := by
  intro E H w st x y v u Q S rx ry h
  unfold addM at h
  split at h
  · cases rx; cases ry
    exact .inl ⟨_, _, rfl, rfl, post_here S h rfl⟩
  · cases rx; cases ry
    split at h
    · rename_i z
      exact .inr (.inl ⟨_, _, rfl, rfl, z, post_here S h rfl⟩)
    · exact h.elim
  · split at h
    · rename_i xs ys z
      obtain ⟨a, vs, rfl, h1, h2⟩ := id rx.sqT
      obtain ⟨b, us, rfl, k1, k2⟩ := id ry.sqT
      refine .inr (.inr (.inl ⟨a, b, vs, us, rfl, rfl, h1, k1, by rw [← h2.length, ← k2.length]; exact z, fun e => ?_, fun e1 e => ?_, fun e1 e2 p hp => post_tup S h (h2.append k2) hp⟩))
      · subst e
        have q : xs = [] := List.length_eq_zero_iff.mp h2.length
        subst q
        exact post_here S h ry
      · subst e
        have q : ys = [] := List.length_eq_zero_iff.mp k2.length
        subst q
        rw [List.append_nil] at h
        exact post_here S h rx
    · exact h.elim
  · split at h
    · rename_i xs ys q1 q2
      split at h
      · rename_i z
        obtain ⟨a, vs, rfl, h1, h2⟩ := lstOf_rel S rx q1
        obtain ⟨b, us, rfl, k1, k2⟩ := lstOf_rel S ry q2
        exact .inr (.inr (.inr ⟨a, b, vs, us, rfl, rfl, h1, k1, by rw [← h2.length, ← k2.length]; exact z, fun p hp => post_lst S h (h2.append k2) hp⟩))
      · exact h.elim
    · exact h.elim
def subM (x y : D) : M D := fun st => match x, y with
  | .int i, .int j => .ok (.int (i - j)) st
  | _, _ => .no
theorem ad_sub {K : PySem.W.Frag} : OpAd K (rI0 fun i j => .int (i - j)) subM := by
  intro E H w st x y v u Q S rx ry h
  unfold subM at h
  split at h
  · cases rx; cases ry
    exact ⟨_, _, rfl, rfl, post_here S h rfl⟩
  · exact h.elim
/-- a text so many times -/
def repStr (a : Str) (n : Int) : Str := if n < 1 then Str.empty else if (n == 1 || a.length == 0) = true then a else ⟨(List.replicate n.toNat a.cps).foldl (· ++ ·) #[]⟩
def repOk (a : Str) (n : Int) : Bool := decide (n < 2 ^ 63) && decide (-(2 ^ 63) ≤ n) && decide (a.length * n.toNat ≤ sizeLine) && decide (a.length ≤ sizeLine)
theorem fold_len (a : Array Nat) : ∀ (k : Nat) (b : Array Nat), ((List.replicate k a).foldl (· ++ ·) b).size = b.size + a.size * k
  | 0, b => by simp
  | k + 1, b => by
    rw [List.replicate_succ, List.foldl_cons, fold_len a k, Array.size_append, Nat.mul_succ]
    omega
theorem op_repS {X : Cx} : OpR X (binaryOp .Mult) (fun x y H Q => ∃ a n, x = .str a ∧ y = .int n ∧ repOk a n = true ∧ Q (.str (repStr a n)) H) := by
  intro pins s σ H x y v u Q I rx ry h
  obtain ⟨a, n, rfl, rfl, k, q⟩ := h
  obtain ⟨t, rfl⟩ := rx
  obtain ⟨t', rfl⟩ := ry
  unfold repOk at k
  simp only [Bool.and_eq_true, decide_eq_true_eq] at k
  obtain ⟨⟨⟨k1, k2⟩, k3⟩, k4⟩ := k
  have zl := sizeLine_eq
  refine PySem.P.mul_str ?_ ?_ ?_ ?_
  · rw [decide_eq_false (show ¬ n < -(2 ^ 63) by omega), decide_eq_false (show ¬ n ≥ 2 ^ 63 by omega)]
    rfl
  · intro hn _
    have hq : ((a.length * n.toNat : Nat) : Int) ≤ 2 ^ 63 - 1 := by omega
    have e : ((a.length * n.toNat : Nat) : Int) = (a.length : Int) * n := by
      rw [Int.natCast_mul]
      congr 1
      omega
    rw [e] at hq
    have := Int.le_ediv_of_mul_le (show (0 : Int) < n by omega) hq
    omega
  · intro _ _
    unfold Builtin.Str.tooLong
    simp only [decide_eq_false_iff_not]
    omega
  · unfold repStr at q
    by_cases c1 : n < 1
    · rw [if_pos c1] at q ⊢
      exact ⟨by decide, ⟨.str _, H, I.tok _, ⟨_, rfl⟩, q⟩⟩
    · rw [if_neg c1] at q ⊢
      by_cases c2 : (n == 1 || a.length == 0) = true
      · rw [if_pos c2] at q ⊢
        exact ⟨.str _, H, I, ⟨_, rfl⟩, q⟩
      · rw [if_neg c2] at q ⊢
        refine ⟨?_, ⟨.str _, H, I.tok _, ⟨_, rfl⟩, q⟩⟩
        show (_ : Array Nat).size ≤ sizeLine
        rw [fold_len]
        have : a.cps.size = a.length := rfl
        rw [this]
        simpa using k3
instance (i j : Int) : Decidable (CMul i j) := by unfold CMul; infer_instance
instance (i j : Int) : Decidable (CDiv i j) := by unfold CDiv; infer_instance
instance (i j : Int) : Decidable (CDivN i j) := by unfold CDivN; infer_instance
instance (i j : Int) : Decidable (CPow i j) := by unfold CPow; infer_instance
def mulM (x y : D) : M D := fun st => match x, y with
  | .int i, .int j => if CMul i j then .ok (.int (i * j)) st else .no
  | .str a, .int n => if repOk a n = true then .ok (.str (repStr a n)) st else .no
  | x, .int n => match lstOf st x with
    | some xs => if -(2 ^ 63) ≤ n ∧ n < 2 ^ 63 ∧ xs.length * n.toNat ≤ sizeLine then .ok (.lst (List.replicate n.toNat xs).flatten) st else .no
    | none => .no
  | _, _ => .no
def rMulM : R2 := fun x y H Q => (rI CMul fun i j => .int (i * j)) x y H Q ∨ ((∃ a n, x = .str a ∧ y = .int n ∧ repOk a n = true ∧ Q (.str (repStr a n)) H) ∨ rRep x y H Q)
theorem op_mulM {X : Cx} : OpR X (binaryOp .Mult) rMulM := op_mul.or (op_repS.or op_rep)
theorem ad_mul {K : PySem.W.Frag} : OpAd K rMulM mulM := by
  intro E H w st x y v u Q S rx ry h
  unfold mulM at h
  split at h
  · cases rx; cases ry
    split at h
    · rename_i z
      exact .inl ⟨_, _, rfl, rfl, z, post_here S h rfl⟩
    · exact h.elim
  · cases rx; cases ry
    split at h
    · rename_i z
      exact .inr (.inl ⟨_, _, rfl, rfl, z, post_here S h rfl⟩)
    · exact h.elim
  · cases ry
    split at h
    · rename_i xs q1
      split at h
      · rename_i z
        obtain ⟨a, vs, rfl, h1, h2⟩ := lstOf_rel S rx q1
        exact .inr (.inr ⟨a, _, vs, rfl, rfl, h1, z.1, z.2.1, by rw [← h2.length]; exact z.2.2, fun p hp => post_lst S h (h2.rep _) hp⟩)
      · exact h.elim
    · exact h.elim
  · exact h.elim
def fdivM (x y : D) : M D := fun st => match x, y with
  | .int i, .int j => if CDiv i j then .ok (.int (i / j)) st else .no
  | _, _ => .no
theorem ad_fdiv {K : PySem.W.Frag} : OpAd K (rI CDiv fun i j => .int (i / j)) fdivM := by
  intro E H w st x y v u Q S rx ry h
  unfold fdivM at h
  split at h
  · cases rx; cases ry
    split at h
    · rename_i z
      exact ⟨_, _, rfl, rfl, z, post_here S h rfl⟩
    · exact h.elim
  · exact h.elim
def modM (x y : D) : M D := fun st => match x, y with
  | .int i, .int j => if 0 < j then .ok (.int (i % j)) st else .no
  | _, _ => .no
theorem ad_mod {K : PySem.W.Frag} : OpAd K (rI (fun _ j => 0 < j) fun i j => .int (i % j)) modM := by
  intro E H w st x y v u Q S rx ry h
  unfold modM at h
  split at h
  · cases rx; cases ry
    split at h
    · rename_i z
      exact ⟨_, _, rfl, rfl, z, post_here S h rfl⟩
    · exact h.elim
  · exact h.elim
def powM (x y : D) : M D := fun st => match x, y with
  | .int i, .int j => if CPow i j then .ok (.int (i ^ j.toNat)) st else .no
  | _, _ => .no
theorem ad_pow {K : PySem.W.Frag} : OpAd K (rI CPow fun i j => .int (i ^ j.toNat)) powM := by
  intro E H w st x y v u Q S rx ry h
  unfold powM at h
  split at h
  · cases rx; cases ry
    split at h
    · rename_i z
      exact ⟨_, _, rfl, rfl, z, post_here S h rfl⟩
    · exact h.elim
  · exact h.elim
def negM (x : D) : M D := fun st => match x with
  | .int i => .ok (.int (-i)) st
  | _ => .no
theorem ad_neg {K : PySem.W.Frag} : UnAd K (rU fun i => .int (-i)) negM := by
  intro E H w st x v Q S rx h
  unfold negM at h
  split at h
  · cases rx
    exact ⟨_, rfl, post_here S h rfl⟩
  · exact h.elim
def isNon : D → Bool
  | .non => true
  | _ => false
def isNM (neg : Bool) (x y : D) : M D := fun st => match y with
  | .non => .ok (.bl (isNon x != neg)) st
  | _ => .no
theorem isN_rel {K : PySem.W.Frag} {H : Hp} {w : Wd} {nx : Nat} {d : D} {v : V} (r : RelD K H w nx d v) : decide (v = .non) = isNon d := by
  cases d with
  | non => cases r; rfl
  | bl _ => cases r; rfl
  | int _ => cases r; rfl
  | str _ => cases r; rfl
  | tup _ => obtain ⟨a, vs, rfl, _⟩ := r.sqT; rfl
  | lst _ => obtain ⟨a, vs, rfl, _⟩ := r.sqL; rfl
  | scr _ => obtain ⟨a, rfl, _⟩ := r.sqS; rfl
  | loc n => unfold RelD at r; obtain ⟨_, rfl⟩ := r; rfl
theorem ad_isN {K : PySem.W.Frag} : OpAd K (fun x y H Q => y = .non ∧ Q (.bl (decide (x = .non))) H) (isNM false) := by
  intro E H w st x y v u Q S rx ry h
  unfold isNM at h
  split at h
  · cases ry
    refine ⟨rfl, ?_⟩
    rw [isN_rel rx]
    exact post_here S h (by rw [Bool.bne_false]; exact rfl)
  · exact h.elim
theorem ad_notN {K : PySem.W.Frag} : OpAd K (fun x y H Q => y = .non ∧ Q (.bl (!decide (x = .non))) H) (isNM true) := by
  intro E H w st x y v u Q S rx ry h
  unfold isNM at h
  split at h
  · cases ry
    refine ⟨rfl, ?_⟩
    rw [isN_rel rx]
    exact post_here S h (by rw [Bool.bne_true]; exact rfl)
  · exact h.elim

section
variable {κ : Type} [DecidableEq κ]
def valD (kvs : List (κ × D)) (k : κ) : Option D := (kvs.find? fun kv => decide (kv.1 = k)).map (·.2)
def putD (kvs : List (κ × D)) (k : κ) (v : D) : List (κ × D) :=
  if (kvs.any fun kv => decide (kv.1 = k)) = true then kvs.map (fun kv => if kv.1 = k then (kv.1, v) else kv) else kvs ++ [(k, v)]
variable {K : PySem.W.Frag} {H : Hp} {w : Wd} {nx : Nat}
theorem RelKV.len : ∀ {kvs : List (κ × D)} {l : List (κ × V)}, RelKV K H w nx kvs l → kvs.length = l.length
  | [], _, h => by cases h; rfl
  | (k, d) :: r, _, h => by
    obtain ⟨v, l', rfl, _, h3⟩ := h
    simp [RelKV.len h3]
theorem RelKV.val (k : κ) : ∀ {kvs : List (κ × D)} {l : List (κ × V)}, RelKV K H w nx kvs l → (valD kvs k = none ∧ valV l k = none) ∨ ∃ d v, valD kvs k = some d ∧ valV l k = some v ∧ RelD K H w nx d v
  | [], _, h => by cases h; exact .inl ⟨rfl, rfl⟩
  | (k0, d) :: r, _, h => by
    obtain ⟨v, l', rfl, h2, h3⟩ := h
    by_cases e : k0 = k
    · refine .inr ⟨d, v, ?_, valV_pos e, h2⟩
      simp [valD, List.find?_cons, e]
    · have e1 : valD ((k0, d) :: r) k = valD r k := by simp [valD, List.find?_cons, e]
      rw [e1, valV_neg (p := (k0, v)) e]
      exact RelKV.val k h3
theorem RelKV.any (k : κ) : ∀ {kvs : List (κ × D)} {l : List (κ × V)}, RelKV K H w nx kvs l → (kvs.any fun kv => decide (kv.1 = k)) = (l.any fun kv => decide (kv.1 = k))
  | [], _, h => by cases h; rfl
  | (k0, d) :: r, _, h => by
    obtain ⟨v, l', rfl, _, h3⟩ := h
    simp only [List.any_cons, RelKV.any k h3]
theorem RelKV.updA {k : κ} {d : D} {v : V} (q : RelD K H w nx d v) : ∀ {kvs : List (κ × D)} {l : List (κ × V)}, RelKV K H w nx kvs l → RelKV K H w nx (kvs.map fun kv => if kv.1 = k then (kv.1, d) else kv) (l.map fun kv => if kv.1 = k then (kv.1, v) else kv)
  | [], _, h => by cases h; exact rfl
  | (k0, d0) :: r, _, h => by
    obtain ⟨v0, l', rfl, h2, h3⟩ := h
    simp only [List.map_cons]
    by_cases e : k0 = k
    · simp only [if_pos e]
      exact ⟨v, _, rfl, q, RelKV.updA q h3⟩
    · simp only [if_neg e]
      exact ⟨v0, _, rfl, h2, RelKV.updA q h3⟩
theorem RelKV.snoc {k : κ} {d : D} {v : V} (q : RelD K H w nx d v) : ∀ {kvs : List (κ × D)} {l : List (κ × V)}, RelKV K H w nx kvs l → RelKV K H w nx (kvs ++ [(k, d)]) (l ++ [(k, v)])
  | [], _, h => by cases h; exact ⟨v, [], rfl, q, rfl⟩
  | (k0, d0) :: r, _, h => by
    obtain ⟨v0, l', rfl, h2, h3⟩ := h
    exact ⟨v0, _, rfl, h2, RelKV.snoc q h3⟩
theorem RelKV.put {k : κ} {d : D} {v : V} {kvs : List (κ × D)} {l : List (κ × V)} (h : RelKV K H w nx kvs l) (q : RelD K H w nx d v) : RelKV K H w nx (putD kvs k d) (putK l k v) := by
  unfold putD putK
  rw [h.any k]
  split
  · exact h.updA q
  · exact h.snoc q
end
theorem keyD_rel {K : PySem.W.Frag} {H : Hp} {w : Wd} {nx : Nat} {d : D} {v : V} {k : Key} (r : RelD K H w nx d v) (h : keyD d = some k) : v = kV k := by
  cases d <;> first | (cases h; cases r; rfl) | cases h
theorem keysDs_rel {K : PySem.W.Frag} {H : Hp} {w : Wd} {nx : Nat} : ∀ {ds : List D} {vs : List V} {ks : List Key}, RelDs K H w nx ds vs → keysDs ds = some ks → vs = ks.map kV
  | [], _, _, r, h => by cases r; cases h; rfl
  | d :: ds, _, ks, r, h => by
    unfold RelDs at r
    obtain ⟨v, us, rfl, h1, h2⟩ := r
    unfold keysDs at h
    cases q1 : keyD d with
    | none => rw [q1] at h; exact nomatch h
    | some k =>
      cases q2 : keysDs ds with
      | none => rw [q1, q2] at h; exact nomatch h
      | some ks' =>
        rw [q1, q2] at h
        cases h
        rw [keyD_rel h1 q1, keysDs_rel h2 q2]
        rfl
theorem keyT_rel {K : PySem.W.Frag} {H : Hp} {w : Wd} {nx : Nat} {d : D} {v : V} {k : List Key} (r : RelD K H w nx d v) (h : keyT d = some k) : ∃ a, v = .ref a ∧ H a = some (.tup (k.map kV)) := by
  unfold keyT at h
  split at h
  · rename_i i ds
    unfold RelD at r
    obtain ⟨a, vs, rfl, h1, h2⟩ := r
    have e := keysDs_rel h2 h
    subst e
    refine ⟨a, rfl, ?_⟩
    rcases h1 with ⟨_, q⟩ | ⟨_, x, r, q⟩
    · exact q
    · unfold RelDs at h2
      obtain ⟨v0, _, e0, r0, _⟩ := h2
      cases r0
      rw [q] at e0
      cases e0
  · cases h
/-- what a dict of the store holds at a key -/
def dictAt (st : Sto) (x y : D) : Option (Option D) := match x with
  | .loc n => (match st.get n with
    | some (.dk kvs) => (keyD y).map (valD kvs)
    | some (.dt kvs) => (keyT y).map (valD kvs)
    | some (.fdk kvs) => (keyD y).map (valD kvs)
    | some (.fdt kvs) => (keyT y).map (valD kvs)
    | _ => none)
  | _ => none
theorem dictAt_rel {K : PySem.W.Frag} {H : Hp} {w : Wd} {st : Sto} {x y : D} {v u : V} {o : Option D} (S : StOk K H w st) (rx : RelD K H w st.next x v) (ry : RelD K H w st.next y u) (h : dictAt st x y = some o) :
    ∃ a r, v = .ref a ∧ DGet H a u r ∧ ((o = none ∧ r = none) ∨ ∃ d z, o = some d ∧ r = some z ∧ RelD K H w st.next d z) := by
  unfold dictAt at h
  split at h
  · rename_i n
    unfold RelD at rx
    obtain ⟨_, rfl⟩ := rx
    split at h
    · rename_i kvs q
      obtain ⟨_, _, ho, h1, l, rfl, h2⟩ := S.cell n _ q
      obtain ⟨k, e1, rfl⟩ := Option.map_eq_some_iff.mp h
      rw [keyD_rel ry e1]
      exact ⟨_, _, rfl, DGet.k h1, h2.val k⟩
    · rename_i kvs q
      obtain ⟨_, _, ho, h1, l, rfl, h2⟩ := S.cell n _ q
      obtain ⟨k, e1, rfl⟩ := Option.map_eq_some_iff.mp h
      obtain ⟨b, rfl, hb⟩ := keyT_rel ry e1
      exact ⟨_, _, rfl, DGet.t h1 hb, h2.val k⟩
    · rename_i kvs q
      obtain ⟨_, _, ho, h1, ob, l, rfl, h2⟩ := S.cell n _ q
      obtain ⟨k, e1, rfl⟩ := Option.map_eq_some_iff.mp h
      rw [keyD_rel ry e1]
      exact ⟨_, _, rfl, .inl ⟨l, k, .inr ⟨ob, h1⟩, rfl, rfl⟩, h2.val k⟩
    · rename_i kvs q
      obtain ⟨_, _, ho, h1, ob, l, rfl, h2⟩ := S.cell n _ q
      obtain ⟨k, e1, rfl⟩ := Option.map_eq_some_iff.mp h
      obtain ⟨b, rfl, hb⟩ := keyT_rel ry e1
      exact ⟨_, _, rfl, .inr ⟨l, k, b, .inr ⟨ob, h1⟩, rfl, hb, rfl⟩, h2.val k⟩
    · cases h
  · cases h

def inM (neg : Bool) (x y : D) : M D := fun st => match y with
  | .str b => (match x with
    | .str a => .ok (.bl ((!(Builtin.Str.occurrences b a 0 b.length 1).isEmpty) != neg)) st
    | _ => .no)
  | y => match dictAt st y x with
    | some o => .ok (.bl (o.isSome != neg)) st
    | none => (match toPd st x, toPd st y with
      | some p, some (.list qs) => if p.canLay0 = true ∧ PyData.canLayAll0 qs = true ∧ p.depth ≤ 64 then .ok (.bl ((qs.any fun z => PyData.eqv z p) != neg)) st else .no
      | some p, some (.tuple qs) => if p.canLay0 = true ∧ PyData.canLayAll0 qs = true ∧ p.depth ≤ 64 then .ok (.bl ((qs.any fun z => PyData.eqv z p) != neg)) st else .no
      | _, _ => .no)
inductive InV (K : PySem.W.Frag) (H : Hp) : V → V → Bool → Prop
  | str (a b : Str) : InV K H (.str a) (.str b) (!(Builtin.Str.occurrences b a 0 b.length 1).isEmpty)
  | dct {x : V} {a : Addr} {r : Option V} : DGet H a x r → InV K H x (.ref a) r.isSome
  | lst {x y : V} {p : PyData} {qs : List PyData} : Dp K H x p → Dp K H y (.list qs) → p.canLay0 = true → PyData.canLayAll0 qs = true → p.depth ≤ 64 → InV K H x y (qs.any fun z => PyData.eqv z p)
  | tup {x y : V} {p : PyData} {qs : List PyData} : Dp K H x p → Dp K H y (.tuple qs) → p.canLay0 = true → PyData.canLayAll0 qs = true → p.depth ≤ 64 → InV K H x y (qs.any fun z => PyData.eqv z p)
def rInM (K : PySem.W.Frag) (neg : Bool) : R2 := fun x y H Q => ∃ k, InV K H x y k ∧ Q (.bl (k != neg)) H
theorem op_inM {X : Cx} (hu : X.A.units + 65 < cLine) : OpR X (compareOp .In) (rInM X.K false) := by
  intro pins s σ H x y v u Q I rx ry h
  obtain ⟨k, o, q⟩ := h
  rw [Bool.bne_false] at q
  cases o with
  | str a b => exact op_in_str pins s σ H _ _ v u Q I rx ry ⟨a, b, rfl, rfl, q⟩
  | @dct _ a r g =>
    obtain rfl : u = Value.ref a := ry
    exact d_in (by omega) I g rx fun s' I' => ⟨.bl _, H, I', rfl, q⟩
  | @lst _ _ p qs h1 h2 k1 k2 k3 =>
    obtain ⟨as, r1⟩ := Dp.reads I p x v h1 rx
    obtain ⟨bs, r2⟩ := Dp.reads I (.list qs) y u h2 ry
    exact SeqAt.in_list_reads r2 r1 k2 k1 (by have := Nat.min_le_right (PyData.depthAll qs) p.depth; omega) ⟨.bl _, H, I, rfl, q⟩
  | @tup _ _ p qs h1 h2 k1 k2 k3 =>
    obtain ⟨as, r1⟩ := Dp.reads I p x v h1 rx
    obtain ⟨bs, r2⟩ := Dp.reads I (.tuple qs) y u h2 ry
    exact SeqAt.in_tuple_reads r2 r1 k2 k1 (by have := Nat.min_le_right (PyData.depthAll qs) p.depth; omega) ⟨.bl _, H, I, rfl, q⟩
theorem op_notInM {X : Cx} (hu : X.A.units + 65 < cLine) : OpR X (compareOp .NotIn) (rInM X.K true) := by
  intro pins s σ H x y v u Q I rx ry h
  obtain ⟨k, o, q⟩ := h
  rw [Bool.bne_true] at q
  cases o with
  | str a b => exact op_notin_str pins s σ H _ _ v u Q I rx ry ⟨a, b, rfl, rfl, q⟩
  | @dct _ a r g =>
    obtain rfl : u = Value.ref a := ry
    exact d_notIn (by omega) I g rx fun s' I' => ⟨.bl _, H, I', rfl, q⟩
  | @lst _ _ p qs h1 h2 k1 k2 k3 =>
    obtain ⟨as, r1⟩ := Dp.reads I p x v h1 rx
    obtain ⟨bs, r2⟩ := Dp.reads I (.list qs) y u h2 ry
    exact SeqAt.notIn_list_reads r2 r1 k2 k1 (by have := Nat.min_le_right (PyData.depthAll qs) p.depth; omega) ⟨.bl _, H, I, rfl, q⟩
  | @tup _ _ p qs h1 h2 k1 k2 k3 =>
    obtain ⟨as, r1⟩ := Dp.reads I p x v h1 rx
    obtain ⟨bs, r2⟩ := Dp.reads I (.tuple qs) y u h2 ry
    exact SeqAt.notIn_tuple_reads r2 r1 k2 k1 (by have := Nat.min_le_right (PyData.depthAll qs) p.depth; omega) ⟨.bl _, H, I, rfl, q⟩
theorem ad_in {K : PySem.W.Frag} {neg : Bool} : OpAd K (rInM K neg) (inM neg) := by
  intro E H w st x y v u Q S rx ry h
  unfold inM at h
  split at h
  · split at h
    · cases rx; cases ry
      exact ⟨_, .str _ _, post_here S h rfl⟩
    · exact h.elim
  · split at h
    · rename_i o q
      obtain ⟨a, r, rfl, g, z⟩ := dictAt_rel S ry rx q
      refine ⟨_, .dct g, post_here S h ?_⟩
      rcases z with ⟨rfl, rfl⟩ | ⟨d, z, rfl, rfl, _⟩
      · rfl
      · rfl
    · split at h
      · rename_i p qs hp hq
        split at h
        · rename_i z
          exact ⟨_, .lst (toPd_rel S rx hp) (toPd_rel S ry hq) z.1 z.2.1 z.2.2, post_here S h rfl⟩
        · exact h.elim
      · rename_i p qs hp hq
        split at h
        · rename_i z
          exact ⟨_, .tup (toPd_rel S rx hp) (toPd_rel S ry hq) z.1 z.2.1 z.2.2, post_here S h rfl⟩
        · exact h.elim
      · exact h.elim

def idxM (x y : D) : M D := fun st => match x, y with
  | .tup xs, .int i => (match atI xs i with
    | some d => .ok d st
    | none => .no)
  | .str s, .int i => if s.length ≤ sizeLine then (match atI s.cps.toList i with
    | some c => .ok (.str ⟨#[c]⟩) st
    | none => .no) else .no
  | x, y => match dictAt st x y with
    | some (some d) => .ok d st
    | _ => (match lstOf st x, y with
      | some xs, .int i => (match atI xs i with
        | some d => .ok d st
        | none => .no)
      | _, _ => .no)
theorem atI_rel {K : PySem.W.Frag} {H : Hp} {w : Wd} {nx : Nat} {ds : List D} {vs : List V} {i : Int} {d : D} (r : RelDs K H w nx ds vs) (h : atI ds i = some d) : ∃ v, atI vs i = some v ∧ RelD K H w nx d v := by
  unfold atI at h ⊢
  rw [← r.length]
  cases q : ixN ds.length i with
  | none => rw [q] at h; exact nomatch h
  | some j =>
    rw [q] at h
    exact r.get h
def rIxD : R2 := fun x y H Q => ∃ a v, x = .ref a ∧ DGet H a y (some v) ∧ Q v H
theorem ix_dict {X : Cx} (hu : X.A.units + 1 < cLine) : IxR X rIxD := by
  intro value slice pins s σ H x y v u Q I rx ry h hs
  obtain ⟨a, z, rfl, g, q⟩ := h
  obtain rfl : v = Value.ref a := rx
  exact tail_any (dict_typeIs I g) PySem.F.slot_dict_getitem.lookup (d_getItem hu I g ry fun w' s' I' r' => ⟨z, H, I', r', q⟩) hs
def rIxM (K : PySem.W.Frag) : R2 := fun x y H Q => rIx K x y H Q ∨ rIxD x y H Q
theorem ix_M {X : Cx} (hu : X.A.units + 1 < cLine) : IxR X (rIxM X.K) := ix_seq.or (ix_dict hu)
theorem ad_idx {K : PySem.W.Frag} : OpAd K (rIxM K) idxM := by
  intro E H w st x y v u Q S rx ry h
  unfold idxM at h
  split at h
  · split at h
    · rename_i d q
      cases ry
      obtain ⟨a, vs, rfl, h1, h2⟩ := rx.sqT
      obtain ⟨z, e, r⟩ := atI_rel h2 q
      exact .inl (.inr (.inl ⟨a, vs, _, z, rfl, rfl, h1, e, post_here S h r⟩))
    · exact h.elim
  · split at h
    · rename_i z
      split at h
      · rename_i c q
        cases rx; cases ry
        exact .inl (.inr (.inr ⟨_, _, c, rfl, rfl, z, q, post_here S h rfl⟩))
      · exact h.elim
    · exact h.elim
  · split at h
    · rename_i d q
      obtain ⟨a, r, rfl, g, z⟩ := dictAt_rel S rx ry q
      rcases z with ⟨e, _⟩ | ⟨d', z, e, rfl, rz⟩
      · cases e
      · cases e
        exact .inr ⟨a, z, rfl, g, post_here S h rz⟩
    · split at h
      · rename_i xs i q1 q
        split at h
        · rename_i d e
          cases ry
          obtain ⟨a, vs, rfl, h1, h2⟩ := lstOf_rel S rx (by assumption)
          obtain ⟨z, e, r⟩ := atI_rel h2 e
          exact .inl (.inl ⟨a, vs, _, z, rfl, rfl, SqL.of h1, e, post_here S h r⟩)
        · exact h.elim
      · exact h.elim
section
variable {X : Cx} {W : WX}
theorem je_idx {ma mb : Ev → M D} {a b : Expr} {pos : Pos} (hu : X.A.units + 1 < cLine) (ha : PE X a (cnE X.K W ma)) (hb : PE X b (cnE X.K W mb)) (hs : PlainIx b) : PE X (.Subscript a b pos) (cnE X.K W (ev2 idxM ma mb)) :=
  pe_imp (pe_ix (ix_M hu) ha hb hs) fun _ _ _ h => ad_op ad_idx h
end

def cutD (xs : List D) (lo hi : Option Int) : List D := (xs.drop (HT.sIx xs.length 0 lo)).take (HT.sIx xs.length xs.length hi - HT.sIx xs.length 0 lo)
theorem cutD_rel {K : PySem.W.Frag} {H : Hp} {w : Wd} {nx : Nat} {ds : List D} {vs : List V} (r : RelDs K H w nx ds vs) (lo hi : Option Int) : RelDs K H w nx (cutD ds lo hi) (cutV vs lo hi) := by
  unfold cutD cutV
  rw [r.length]
  exact (r.drop _).take _
theorem cutD_whole {xs : List D} {lo hi : Option Int} (h : HT.sIx xs.length 0 lo = 0 ∧ HT.sIx xs.length xs.length hi = xs.length) : cutD xs lo hi = xs := by
  unfold cutD
  rw [h.1, h.2]
  simp
def sliM (x : D) (lo hi : Option Int) : M D := fun st => match x with
  | .tup xs => .ok (.tup (cutD xs lo hi)) st
  | .str s => if s.length ≤ sizeLine then .ok (.str (cutS s lo hi)) st else .no
  | .scr ns => .ok (.lst (cutD (ns.map D.int) lo hi)) st
  | x => match lstOf st x with
    | some xs => .ok (.lst (cutD xs lo hi)) st
    | none => .no
def rSlM (K : PySem.W.Frag) : V → Option Int → Option Int → Hp → VK → Prop := fun x lo hi H Q => rSlA K x lo hi H Q ∨ (rSlS x lo hi H Q ∨ rSlL K x lo hi H Q)
theorem sl_M {X : Cx} : SlR X (rSlM X.K) := sl_tupA.or (sl_str.or sl_list)
theorem RelDs.ints {K : PySem.W.Frag} {H : Hp} {w : Wd} {nx : Nat} : ∀ {ns : List Int} {vs : List V}, vs = ns.map V.int → RelDs K H w nx (ns.map D.int) vs
  | [], _, e => e
  | n :: r, _, e => by
    show RelDs K H w nx (.int n :: r.map D.int) _
    unfold RelDs
    exact ⟨.int n, r.map V.int, e, rfl, RelDs.ints rfl⟩
theorem ad_sli {K : PySem.W.Frag} {E : XK} {H : Hp} {w : Wd} {st : Sto} {x : D} {v : V} {lo hi : Option Int} {Q : VK} (S : StOk K H w st) (rx : RelD K H w st.next x v) (h : Pst K E H w st.next (sliM x lo hi st) (PV K Q)) : rSlM K v lo hi H Q := by
  unfold sliM at h
  split at h
  · rename_i xs
    obtain ⟨a, vs, rfl, h1, h2⟩ := id rx.sqT
    refine .inl ⟨a, vs, rfl, h1, fun e => ?_, fun e p hp => post_tup S h (cutD_rel h2 lo hi) hp⟩
    rw [← h2.length] at e
    rw [cutD_whole e] at h
    exact post_here S h rx
  · cases rx
    split at h
    · rename_i z
      exact .inr (.inl ⟨_, rfl, z, post_here S h rfl⟩)
    · exact h.elim
  · obtain ⟨a, rfl, h1⟩ := rx.sqS
    exact .inr (.inr ⟨a, _, rfl, h1, fun p hp => post_lst S h (cutD_rel (RelDs.ints rfl) lo hi) hp⟩)
  · split at h
    · rename_i xs q
      obtain ⟨a, vs, rfl, h1, h2⟩ := lstOf_rel S rx q
      exact .inr (.inr ⟨a, vs, rfl, SqL.of h1, fun p hp => post_lst S h (cutD_rel h2 lo hi) hp⟩)
    · exact h.elim
/-- an end of a slice -/
def evPart (m : Option (Ev → M D)) : Ev → M (Option Int) := fun ρ => match m with
  | none => M.ret none
  | some m => (m ρ).bind fun d => match d with
    | .int i => M.ret (some i)
    | _ => M.no
section
variable {X : Cx} {W : WX}
theorem jo_none : PO X none (cnO X.K W (evPart none)) := by
  refine po_imp po_none fun σ H Q h => ?_
  obtain ⟨w, st, ρ, S, R, h⟩ := h
  exact h w H Ext.refl S
theorem jo_some {e : Expr} {m : Ev → M D} (he : PE X e (cnE X.K W m)) : PO X (some e) (cnO X.K W (evPart (some m))) := by
  refine po_imp (po_some he) fun σ H Q h => ?_
  obtain ⟨w, st, ρ, S, R, h⟩ := h
  refine cn_seq S R h fun x v w1 st1 H1 e1 S1 R1 rx h1 => ?_
  cases x with
  | int i =>
    cases rx
    exact ⟨i, rfl, h1 w1 H1 Ext.refl S1⟩
  | _ => exact h1.elim
def evSli (ma : Ev → M D) (ml mh : Option (Ev → M D)) : Ev → M D := fun ρ => (ma ρ).bind fun x => (evPart ml ρ).bind fun lo => (evPart mh ρ).bind fun hi => sliM x lo hi
theorem co_seq {K : PySem.W.Frag} {W : WX} {α : Type} {σ : L2.St} {H : Hp} {w : Wd} {st : Sto} {ρ : Ev} {ma : Ev → M (Option Int)} {f : Option Int → M α} {P : α → Wd → Sto → Hp → Prop} {Q : Option Int → Hp → Prop} (S : StOk K H w st) (R : EvOk K H w st.next ρ σ)
    (h : Pst K (fun c d H' => W c d σ H') H w st.next ((ma ρ).bind f st) P)
    (hq : ∀ b w1 st1 H1, Ext H w st.next H1 w1 st1.next → StOk K H1 w1 st1 → EvOk K H1 w1 st1.next ρ σ → Pst K (fun c d H' => W c d σ H') H1 w1 st1.next (f b st1) P → Q b H1) : cnO K W ma σ H Q :=
  ⟨w, st, ρ, S, R, (Pst.bind h).mono fun b w1 st1 H1 e1 S1 p => hq b w1 st1 H1 e1 S1 (R.mono e1) p⟩
theorem je_sli {ma : Ev → M D} {ml mh : Option (Ev → M D)} {a : Expr} {lo hi : Option Expr} {p2 pos : Pos} (ha : PE X a (cnE X.K W ma)) (hl : PO X lo (cnO X.K W (evPart ml))) (hh : PO X hi (cnO X.K W (evPart mh))) :
    PE X (.Subscript a (.Slice lo hi none p2) pos) (cnE X.K W (evSli ma ml mh)) := by
  refine pe_imp (pe_slice sl_M ha hl hh) fun σ H Q h => ?_
  obtain ⟨w, st, ρ, S, R, h⟩ := h
  refine cn_seq S R h fun x v w1 st1 H1 e1 S1 R1 rx h1 => ?_
  refine co_seq S1 R1 h1 fun l w2 st2 H2 e2 S2 R2 h2 => ?_
  refine co_seq S2 R2 h2 fun u w3 st3 H3 e3 S3 R3 h3 => ?_
  exact ad_sli S3 ((rx.mono e2).mono e3) h3
end
end Mp
namespace Mp
open PySem PySem.Spec PyProof.Rows L2

def evNil : Ev → M (List D) := fun _ => M.ret []
def evCons (m : Ev → M D) (ms : Ev → M (List D)) : Ev → M (List D) := fun ρ => (m ρ).bind fun d => (ms ρ).bind fun ds => M.ret (d :: ds)
section
variable {X : Cx} {W : WX}
theorem ja_nil : PA X [] (cnA X.K W evNil) := by
  refine pa_imp pa_nil fun σ H Q h => ?_
  obtain ⟨w, st, ρ, S, R, h⟩ := h
  exact h w H Ext.refl S [] rfl
theorem ca_seq {K : PySem.W.Frag} {W : WX} {α : Type} {σ : L2.St} {H : Hp} {w : Wd} {st : Sto} {ρ : Ev} {ma : Ev → M (List D)} {f : List D → M α} {P : α → Wd → Sto → Hp → Prop} {Q : List V → Hp → Prop} (S : StOk K H w st) (R : EvOk K H w st.next ρ σ)
    (h : Pst K (fun c d H' => W c d σ H') H w st.next ((ma ρ).bind f st) P)
    (hq : ∀ ds vs w1 st1 H1, Ext H w st.next H1 w1 st1.next → StOk K H1 w1 st1 → EvOk K H1 w1 st1.next ρ σ → RelDs K H1 w1 st1.next ds vs → Pst K (fun c d H' => W c d σ H') H1 w1 st1.next (f ds st1) P → Q vs H1) : cnA K W ma σ H Q :=
  ⟨w, st, ρ, S, R, (Pst.bind h).mono fun ds w1 st1 H1 e1 S1 p vs r => hq ds vs w1 st1 H1 e1 S1 (R.mono e1) r p⟩
theorem ja_cons {e : Expr} {es : List Expr} {m : Ev → M D} {ms : Ev → M (List D)} (he : PE X e (cnE X.K W m)) (hs : PA X es (cnA X.K W ms)) (hst : starEach (e :: es) X.env = (false, eval e X.env) :: starEach es X.env) : PA X (e :: es) (cnA X.K W (evCons m ms)) := by
  refine pa_imp (pa_cons he hs hst) fun σ H Q h => ?_
  obtain ⟨w, st, ρ, S, R, h⟩ := h
  refine cn_seq S R h fun x v w1 st1 H1 e1 S1 R1 rx h1 => ?_
  refine ca_seq S1 R1 h1 fun ds vs w2 st2 H2 e2 S2 R2 rs h2 => ?_
  refine h2 w2 H2 Ext.refl S2 (v :: vs) ?_
  unfold RelDs
  exact ⟨v, vs, rfl, rx.mono e2, rs⟩
def tupM (ds : List D) : M D := fun st => if ds.length ≤ sizeLine then .ok (.tup ds) st else .no
def lstM (ds : List D) : M D := fun st => if ds.length ≤ sizeLine then .ok (.lst ds) st else .no
/-- a list that will change -/
def lstN (ds : List D) : M D := fun st => if ds.length ≤ sizeLine then .ok (.loc st.next) (st.new (.lst ds)) else .no
def evL (f : List D → M D) (ms : Ev → M (List D)) : Ev → M D := fun ρ => (ms ρ).bind f
theorem je_tup {es : List Expr} {k : Nat} {pos : Pos} {ms : Ev → M (List D)} (hs : PA X es (cnA X.K W ms)) : PE X (.Tuple es k pos) (cnE X.K W (evL tupM ms)) := by
  refine pe_imp (pe_tup hs) fun σ H Q h => ?_
  obtain ⟨w, st, ρ, S, R, h⟩ := h
  refine ca_seq S R h fun ds vs w1 st1 H1 e1 S1 R1 rs h1 => ?_
  unfold tupM at h1
  split at h1
  · rename_i z
    exact ⟨by rw [← rs.length]; exact z, fun p hp => post_tup S1 h1 rs hp⟩
  · exact h1.elim
theorem je_lst {es : List Expr} {pos : Pos} {ms : Ev → M (List D)} (hs : PA X es (cnA X.K W ms)) : PE X (.List es pos) (cnE X.K W (evL lstM ms)) := by
  refine pe_imp (pe_lst hs) fun σ H Q h => ?_
  obtain ⟨w, st, ρ, S, R, h⟩ := h
  refine ca_seq S R h fun ds vs w1 st1 H1 e1 S1 R1 rs h1 => ?_
  unfold lstM at h1
  split at h1
  · rename_i z
    exact ⟨by rw [← rs.length]; exact z, fun p hp => post_lst S1 h1 rs hp⟩
  · exact h1.elim
theorem je_lstN {es : List Expr} {pos : Pos} {ms : Ev → M (List D)} (hs : PA X es (cnA X.K W ms)) : PE X (.List es pos) (cnE X.K W (evL lstN ms)) := by
  refine pe_imp (pe_lst hs) fun σ H Q h => ?_
  obtain ⟨w, st, ρ, S, R, h⟩ := h
  refine ca_seq S R h fun ds vs w1 st1 H1 e1 S1 R1 rs h1 => ?_
  unfold lstN at h1
  split at h1
  · rename_i z
    exact ⟨by rw [← rs.length]; exact z, fun p hp => post_new S1 h1 ⟨vs, rfl, rs⟩ hp⟩
  · exact h1.elim
/-- the pairs, flat: key, value, key, value .. -/
def pairsD : List D → Option (List (Key × D))
  | [] => some []
  | k :: d :: r => (match keyD k, pairsD r with
    | some k, some l => some ((k, d) :: l)
    | _, _ => none)
  | _ => none
def mergeD (kvs : List (Key × D)) : List (Key × D) := kvs.foldl (fun acc kv => putD acc kv.1 kv.2) []
/-- the canonical readings of the pairs -/
def evP : List ((Ev → M D) × (Ev → M D)) → Ev → M (List D)
  | [] => evNil
  | (mk, mv) :: r => evCons mk (evCons mv (evP r))
def cnPs (K : PySem.W.Frag) (W : WX) (l : List ((Ev → M D) × (Ev → M D))) : List (TE × TE) := l.map fun p => (cnE K W p.1, cnE K W p.2)
theorem pairsD_rel {K : PySem.W.Frag} {H : Hp} {w : Wd} {nx : Nat} : ∀ {ds : List D} {ps : List (V × V)} {l : List (Key × D)}, RelDs K H w nx ds (ps.flatMap fun p => [p.1, p.2]) → pairsD ds = some l → ∃ l' : List (Key × V), ps = l'.map (fun kv => (kV kv.1, kv.2)) ∧ RelKV K H w nx l l'
  | [], [], l, r, h => by cases h; exact ⟨[], rfl, rfl⟩
  | [], p :: ps, l, r, h => by cases r
  | [d], ps, l, r, h => by cases h
  | k :: d :: ds, [], l, r, h => by
    unfold RelDs at r
    obtain ⟨v, r', e, _⟩ := r
    cases e
  | k :: d :: ds, p :: ps, l, r, h => by
    unfold RelDs at r
    obtain ⟨v, r', e, r1, r2⟩ := r
    have e : p.1 :: p.2 :: (ps.flatMap fun p => [p.1, p.2]) = v :: r' := e
    injection e with e1 e2
    unfold RelDs at r2
    obtain ⟨v2, r3, e3, r4, r5⟩ := r2
    rw [← e2] at e3
    injection e3 with e4 e5
    unfold pairsD at h
    cases q1 : keyD k with
    | none => rw [q1] at h; exact nomatch h
    | some k' =>
      cases q2 : pairsD ds with
      | none => rw [q1, q2] at h; exact nomatch h
      | some l2 =>
        rw [q1, q2] at h
        cases h
        rw [← e5] at r5
        obtain ⟨l', z1, z2⟩ := pairsD_rel r5 q2
        refine ⟨(k', p.2) :: l', ?_, p.2, l', rfl, by rw [e4]; exact r4, z2⟩
        rw [z1]
        have : p.1 = kV k' := by rw [e1]; exact keyD_rel r1 q1
        simp [← this]
theorem merge_rel {K : PySem.W.Frag} {H : Hp} {w : Wd} {nx : Nat} : ∀ {l : List (Key × D)} {l' : List (Key × V)} {acc : List (Key × D)} {acc' : List (Key × V)}, RelKV K H w nx l l' → RelKV K H w nx acc acc' → RelKV K H w nx (l.foldl (fun a kv => putD a kv.1 kv.2) acc) (mergeK acc' l')
  | [], _, _, _, h, q => by cases h; exact q
  | (k, d) :: r, _, acc, acc', h, q => by
    obtain ⟨v, l', rfl, h1, h2⟩ := h
    show RelKV K H w nx (r.foldl (fun a kv => putD a kv.1 kv.2) (putD acc k d)) (mergeK (putK acc' k v) l')
    exact merge_rel h2 (q.put h1)
theorem cn_pairs {K : PySem.W.Frag} {W : WX} {σ : L2.St} {ρ : Ev} : ∀ {l : List ((Ev → M D) × (Ev → M D))} {H : Hp} {w : Wd} {st : Sto} {α : Type} {f : List D → M α} {P : α → Wd → Sto → Hp → Prop} {Q : List (V × V) → Hp → Prop}, StOk K H w st → EvOk K H w st.next ρ σ →
    Pst K (fun c d H' => W c d σ H') H w st.next ((evP l ρ).bind f st) P →
    (∀ ds ps w1 st1 H1, Ext H w st.next H1 w1 st1.next → StOk K H1 w1 st1 → EvOk K H1 w1 st1.next ρ σ → RelDs K H1 w1 st1.next ds (ps.flatMap fun p => [p.1, p.2]) → Pst K (fun c d H' => W c d σ H') H1 w1 st1.next (f ds st1) P → Q ps H1) → tPairs (cnPs K W l) σ H Q
  | [], H, w, st, _, f, P, Q, S, R, h, k => k [] [] w st H Ext.refl S R rfl h
  | (mk, mv) :: l, H, w, st, _, f, P, Q, S, R, h, k => by
    have e : ∀ st, (evP ((mk, mv) :: l) ρ).bind f st = ((mk ρ).bind fun x => (mv ρ).bind fun y => (evP l ρ).bind fun ds => f (x :: y :: ds)) st := fun st => by
      show ((mk ρ st).bind _).bind f = (mk ρ st).bind _
      cases mk ρ st with
      | no => rfl
      | exc _ _ => rfl
      | ok x s1 =>
        show (((mv ρ s1).bind _).bind _).bind f = (mv ρ s1).bind _
        cases mv ρ s1 with
        | no => rfl
        | exc _ _ => rfl
        | ok y s2 =>
          show (((evP l ρ s2).bind _).bind _).bind f = (evP l ρ s2).bind _
          cases evP l ρ s2 <;> rfl
    rw [e] at h
    refine cn_seq S R h fun x v w1 st1 H1 e1 S1 R1 rx h1 => ?_
    refine cn_seq S1 R1 h1 fun y u w2 st2 H2 e2 S2 R2 ry h2 => ?_
    refine cn_pairs S2 R2 h2 fun ds ps w3 st3 H3 e3 S3 R3 rs h3 => ?_
    refine k (x :: y :: ds) ((v, u) :: ps) w3 st3 H3 ((e1.trans e2).trans e3) S3 R3 ?_ h3
    show RelDs K H3 w3 st3.next (x :: y :: ds) (v :: u :: ps.flatMap fun p => [p.1, p.2])
    unfold RelDs
    refine ⟨v, _, rfl, (rx.mono e2).mono e3, ?_⟩
    unfold RelDs
    exact ⟨u, _, rfl, ry.mono e3, rs⟩
/-- {k: v, ..}: the dict's object is there ahead of its parts, empty -/
def dispEnd (n : Nat) (ds : List D) : M D := fun st => match st.get n, pairsD ds with
  | some (.dk []), some l => if l.length ≤ 15 then .ok (.loc n) (st.set n (.dk (mergeD l))) else .no
  | _, _ => .no
def evDisp (l : List ((Ev → M D) × (Ev → M D))) : Ev → M D := fun ρ st => (evP l ρ).bind (dispEnd st.next) (st.new (.dk []))
theorem je_disp {pos : Pos} {keys : List (Option Expr)} {values : List Expr} {l : List ((Ev → M D) × (Ev → M D))} (h : PPs X pos keys values (cnPs X.K W l)) (hall : keys.all (·.isSome) = true) (hl : keys.length = values.length) (h0 : keys ≠ []) (h15 : keys.length ≤ 15) :
    PE X (.Dict keys values pos) (cnE X.K W (evDisp l)) := by
  refine pe_imp (pe_disp h hall hl h0 h15) fun σ H Q h => ?_
  obtain ⟨w, st, ρ, S, R, h⟩ := h
  intro p hp
  have S1 : StOk X.K (upd H p (.dK [])) (w.at st.next p) (st.new (.dk [])) := S.new hp ⟨[], rfl, rfl⟩
  have e1 : Ext H w st.next (upd H p (.dK [])) (w.at st.next p) (st.new (.dk [])).next := ext_new S hp
  -- the wish from there
  have h' : Pst X.K (fun c d H' => W c d σ H') (upd H p (.dK [])) (w.at st.next p) (st.new (.dk [])).next ((evP l ρ).bind (dispEnd st.next) (st.new (.dk []))) (PV X.K Q) := by
    have h : Pst X.K (fun c d H' => W c d σ H') H w st.next ((evP l ρ).bind (dispEnd st.next) (st.new (.dk []))) (PV X.K Q) := h
    cases q : (evP l ρ).bind (dispEnd st.next) (st.new (.dk [])) with
    | ok a s2 => rw [q] at h; exact fun w2 H2 e2 S2 => h w2 H2 (e1.trans e2) S2
    | exc x s2 => rw [q] at h; exact fun w2 H2 c d e2 S2 z => h w2 H2 c d (e1.trans e2) S2 z
    | no => rw [q] at h; exact h
  refine cn_pairs S1 (R.mono e1) h' fun ds ps w2 st2 H2 e2 S2 R2 rs h2 => ?_
  have at1 : (w.at st.next p).φ st.next = p := if_pos rfl
  have at2 : w2.φ st.next = p := (e2.φ st.next (Nat.lt_succ_self _)).trans at1
  unfold dispEnd at h2
  split at h2
  · rename_i kvs g q
    split at h2
    · rename_i z
      obtain ⟨hn, _, ho, g1, l0, rfl, g2⟩ := S2.cell st.next _ g
      have el : l0 = [] := List.length_eq_zero_iff.mp g2.len.symm
      subst el
      rw [at2] at g1
      obtain ⟨l', z1, z2⟩ := pairsD_rel rs q
      refine ⟨g1, l', z1, by rw [← z2.len]; exact z, ?_⟩
      have fin := post_set (ho := .dK (mergeK [] l')) (v := .ref p) S2 g h2 ⟨_, rfl, merge_rel z2 rfl⟩ (by unfold RelD; exact ⟨hn, by rw [at2]⟩)
      rw [at2] at fin
      exact fin
    · exact h2.elim
  · exact h2.elim
theorem je_dnew {pos : Pos} : PE X (.Dict [] [] pos) (cnE X.K W fun _ st => .ok (.loc st.next) (st.new (.dk []))) := by
  refine pe_imp pe_dnewK fun σ H Q h => ?_
  obtain ⟨w, st, ρ, S, R, h⟩ := h
  exact fun p hp => post_new S h ⟨[], rfl, rfl⟩ hp
theorem je_dnewT {pos : Pos} : PE X (.Dict [] [] pos) (cnE X.K W fun _ st => .ok (.loc st.next) (st.new (.dt []))) := by
  refine pe_imp pe_dnewT fun σ H Q h => ?_
  obtain ⟨w, st, ρ, S, R, h⟩ := h
  exact fun p hp => post_new S h ⟨[], rfl, rfl⟩ hp

theorem ad_cb {K : PySem.W.Frag} {W : WX} {r : List V → Hp → VK → Prop} {f : List D → M D} {ms : Ev → M (List D)} {σ : L2.St} {H : Hp} {Q : VK} (a : CallAd K r f) (h : cnE K W (evL f ms) σ H Q) : tCB r (cnA K W ms) σ H Q := by
  obtain ⟨w, st, ρ, S, R, h⟩ := h
  exact ca_seq S R h fun ds vs w1 st1 H1 e1 S1 R1 rs h1 => a _ H1 w1 st1 ds vs Q S1 rs h1
theorem je_callB {id : String} {r : List V → Hp → VK → Prop} {f : List D → M D} {x : Str} {e : Expr} {es : List Expr} {p pos : Pos} {ms : Ev → M (List D)} (hc : CallR X (.builtin id) r) (ad : CallAd X.K r f) (hg : Gl X x) (hm : X.mg x = none) (hv : bootBuiltins x = some (.builtin id)) (ha : PA X (e :: es) (cnA X.K W ms))
    (hn : x ≠ "__name__") (hdb : (x == ("__debug__" : Str)) = false) (he : starEach (e :: es) X.env = (false, eval e X.env) :: starEach es X.env) (hpl : (backTo pos (starEach es X.env)).any (·.1) = false) : PE X (.Call (.Name x p) (e :: es) [] pos) (cnE X.K W (evL f ms)) :=
  pe_imp (pe_callB hc hg hm hv ha hn hdb he hpl) fun _ _ _ h => ad_cb ad h
theorem je_callTy {T : String} {r : List V → Hp → VK → Prop} {f : List D → M D} {x : Str} {e : Expr} {es : List Expr} {p pos : Pos} {ms : Ev → M (List D)} (hc : CallR X (.type T) r) (ad : CallAd X.K r f) (hg : Gl X x) (hm : X.mg x = none) (hv : bootBuiltins x = some (.type T)) (ha : PA X (e :: es) (cnA X.K W ms))
    (hn : x ≠ "__name__") (hdb : (x == ("__debug__" : Str)) = false) (he : starEach (e :: es) X.env = (false, eval e X.env) :: starEach es X.env) (hpl : (backTo pos (starEach es X.env)).any (·.1) = false) : PE X (.Call (.Name x p) (e :: es) [] pos) (cnE X.K W (evL f ms)) :=
  pe_imp (pe_callTy hc hg hm hv ha hn hdb he hpl) fun _ _ _ h => ad_cb ad h
end
section
variable {K : PySem.W.Frag} {H : Hp} {w : Wd} {nx : Nat}
theorem rel1 {d : D} {vs : List V} (r : RelDs K H w nx [d] vs) : ∃ v, vs = [v] ∧ RelD K H w nx d v := by
  unfold RelDs at r
  obtain ⟨v, t, rfl, h1, h2⟩ := r
  cases h2
  exact ⟨v, rfl, h1⟩
theorem rel2 {d e : D} {vs : List V} (r : RelDs K H w nx [d, e] vs) : ∃ v u, vs = [v, u] ∧ RelD K H w nx d v ∧ RelD K H w nx e u := by
  unfold RelDs at r
  obtain ⟨v, t, rfl, h1, h2⟩ := r
  obtain ⟨u, rfl, h3⟩ := rel1 h2
  exact ⟨v, u, rfl, h1, h3⟩
end
/-- len -/
def lenM (ds : List D) : M D := fun st => match ds with
  | [.str s] => if s.length ≤ sizeLine then .ok (.int s.length) st else .no
  | [.tup xs] => .ok (.int xs.length) st
  | [.scr xs] => .ok (.int xs.length) st
  | [d] => (match lstOf st d with
    | some xs => .ok (.int xs.length) st
    | none => .no)
  | _ => .no
theorem ad_len {K : PySem.W.Frag} : CallAd K (fun xs H Q => ∃ x n, xs = [x] ∧ LenV K x H n ∧ Q (.int n) H) lenM := by
  intro E H w st xs vs Q S rs h
  unfold lenM at h
  split at h
  · obtain ⟨v, rfl, r⟩ := rel1 rs
    cases r
    split at h
    · rename_i z
      exact ⟨_, _, rfl, ⟨z, rfl⟩, post_here S h rfl⟩
    · exact h.elim
  · obtain ⟨v, rfl, r⟩ := rel1 rs
    obtain ⟨a, vs, rfl, h1, h2⟩ := r.sqT
    exact ⟨_, _, rfl, .inr ⟨vs, h1, h2.length⟩, post_here S h rfl⟩
  · obtain ⟨v, rfl, r⟩ := rel1 rs
    obtain ⟨a, rfl, h1⟩ := r.sqS
    exact ⟨_, _, rfl, .inl ⟨_, h1, by rw [List.length_map]⟩, post_here S h rfl⟩
  · obtain ⟨v, rfl, r⟩ := rel1 rs
    split at h
    · rename_i ys q
      obtain ⟨a, vs, rfl, h1, h2⟩ := lstOf_rel S r q
      exact ⟨_, _, rfl, .inl ⟨vs, SqL.of h1, h2.length⟩, post_here S h rfl⟩
    · exact h.elim
  · exact h.elim
/-- abs, int, str -/
def absM (ds : List D) : M D := fun st => match ds with
  | [.int i] => .ok (.int (if i < 0 then -i else i)) st
  | _ => .no
theorem ad_abs {K : PySem.W.Frag} : CallAd K (fun xs H Q => ∃ i, xs = [.int i] ∧ Q (.int (if i < 0 then -i else i)) H) absM := by
  intro E H w st xs vs Q S rs h
  unfold absM at h
  split at h
  · obtain ⟨v, rfl, r⟩ := rel1 rs
    cases r
    exact ⟨_, rfl, post_here S h rfl⟩
  · exact h.elim
def intM (ds : List D) : M D := fun st => match ds with
  | [.int i] => .ok (.int i) st
  | [.bl b] => .ok (.int (if b then 1 else 0)) st
  | _ => .no
theorem ad_int {K : PySem.W.Frag} : CallAd K (fun xs H Q => (∃ i, xs = [.int i] ∧ Q (.int i) H) ∨ ∃ k, xs = [.bl k] ∧ Q (.int (if k then 1 else 0)) H) intM := by
  intro E H w st xs vs Q S rs h
  unfold intM at h
  split at h
  · obtain ⟨v, rfl, r⟩ := rel1 rs
    cases r
    exact .inl ⟨_, rfl, post_here S h rfl⟩
  · obtain ⟨v, rfl, r⟩ := rel1 rs
    cases r
    exact .inr ⟨_, rfl, post_here S h rfl⟩
  · exact h.elim
def strM (ds : List D) : M D := fun st => match ds with
  | [.int i] => if i.natAbs.log2 < 1920 then .ok (.str (toString i)) st else .no
  | [.str s] => .ok (.str s) st
  | _ => .no
def rStrM : List V → Hp → VK → Prop := fun xs H Q => (∃ i, xs = [.int i] ∧ i.natAbs.log2 < 1920 ∧ Q (.str (toString i)) H) ∨ ∃ a, xs = [.str a] ∧ Q (.str a) H
theorem cr_strM {X : Cx} : CallR X (.type "str") rStrM := call_str_int.or SkE.call_str_str
theorem ad_str {K : PySem.W.Frag} : CallAd K rStrM strM := by
  intro E H w st xs vs Q S rs h
  unfold strM at h
  split at h
  · obtain ⟨v, rfl, r⟩ := rel1 rs
    cases r
    split at h
    · rename_i z
      exact .inl ⟨_, rfl, z, post_here S h rfl⟩
    · exact h.elim
  · obtain ⟨v, rfl, r⟩ := rel1 rs
    cases r
    exact .inr ⟨_, rfl, post_here S h rfl⟩
  · exact h.elim
/-- list(..), tuple(..) -/
def seqOf (st : Sto) : D → Option (List D)
  | .tup xs => some xs
  | d => lstOf st d
def listM (ds : List D) : M D := fun st => match ds with
  | [d] => (match seqOf st d with
    | some xs => .ok (.lst xs) st
    | none => .no)
  | _ => .no
/-- a list that will change -/
def listN (ds : List D) : M D := fun st => match ds with
  | [d] => (match seqOf st d with
    | some xs => .ok (.loc st.next) (st.new (.lst xs))
    | none => .no)
  | _ => .no
theorem seqOf_rel {K : PySem.W.Frag} {H : Hp} {w : Wd} {st : Sto} {d : D} {ds : List D} {v : V} (S : StOk K H w st) (r : RelD K H w st.next d v) (g : seqOf st d = some ds) : ∃ a vs, v = .ref a ∧ (SqL K H a vs ∨ SqT K H a vs) ∧ RelDs K H w st.next ds vs := by
  unfold seqOf at g
  split at g
  · cases g
    obtain ⟨a, vs, rfl, h1, h2⟩ := r.sqT
    exact ⟨a, vs, rfl, .inr h1, h2⟩
  · obtain ⟨a, vs, rfl, h1, h2⟩ := lstOf_rel S r g
    exact ⟨a, vs, rfl, .inl (SqL.of h1), h2⟩
abbrev rListOf (K : PySem.W.Frag) : List V → Hp → VK → Prop := fun xs H Q => ∃ p ys, xs = [.ref p] ∧ (SqL K H p ys ∨ SqT K H p ys) ∧ ∀ l, H l = none → Q (.ref l) (upd H l (.lst ys))
theorem ad_list {K : PySem.W.Frag} : CallAd K (rListOf K) listM := by
  intro E H w st xs vs Q S rs h
  unfold listM at h
  split at h
  · obtain ⟨v, rfl, r⟩ := rel1 rs
    split at h
    · rename_i ys q
      obtain ⟨a, us, rfl, h1, h2⟩ := seqOf_rel S r q
      exact ⟨a, us, rfl, h1, fun l hl => post_lst S h h2 hl⟩
    · exact h.elim
  · exact h.elim
theorem ad_listN {K : PySem.W.Frag} : CallAd K (rListOf K) listN := by
  intro E H w st xs vs Q S rs h
  unfold listN at h
  split at h
  · obtain ⟨v, rfl, r⟩ := rel1 rs
    split at h
    · rename_i ys q
      obtain ⟨a, us, rfl, h1, h2⟩ := seqOf_rel S r q
      exact ⟨a, us, rfl, h1, fun l hl => post_new S h ⟨us, rfl, h2⟩ hl⟩
    · exact h.elim
  · exact h.elim
def tupleM (ds : List D) : M D := fun st => match ds with
  | [.tup xs] => .ok (.tup xs) st
  | [d] => (match lstOf st d with
    | some xs => .ok (.tup xs) st
    | none => .no)
  | _ => .no
theorem ad_tuple {K : PySem.W.Frag} : CallAd K (fun xs H Q => ∃ p ys, xs = [.ref p] ∧ ((SqL K H p ys ∧ ∀ l, H l = none → Q (.ref l) (upd H l (.tup ys))) ∨ (SqT K H p ys ∧ Q (.ref p) H))) tupleM := by
  intro E H w st xs vs Q S rs h
  unfold tupleM at h
  split at h
  · obtain ⟨v, rfl, r⟩ := rel1 rs
    obtain ⟨a, us, rfl, h1, h2⟩ := id r.sqT
    exact ⟨a, us, rfl, .inr ⟨h1, post_here S h r⟩⟩
  · obtain ⟨v, rfl, r⟩ := rel1 rs
    split at h
    · rename_i ys q
      obtain ⟨a, us, rfl, h1, h2⟩ := lstOf_rel S r q
      exact ⟨a, us, rfl, .inl ⟨SqL.of h1, fun l hl => post_tup S h h2 hl⟩⟩
    · exact h.elim
  · exact h.elim
/-- min, max of two -/
def max2M (ds : List D) : M D := fun st => match ds with
  | [.int i, .int j] => .ok (.int (if j > i then j else i)) st
  | _ => .no
def min2M (ds : List D) : M D := fun st => match ds with
  | [.int i, .int j] => .ok (.int (if j < i then j else i)) st
  | _ => .no
theorem ad_max2 {K : PySem.W.Frag} : CallAd K (fun xs H Q => ∃ i j, xs = [.int i, .int j] ∧ Q (.int (if j > i then j else i)) H) max2M := by
  intro E H w st xs vs Q S rs h
  unfold max2M at h
  split at h
  · obtain ⟨v, u, rfl, r1, r2⟩ := rel2 rs
    cases r1; cases r2
    exact ⟨_, _, rfl, post_here S h rfl⟩
  · exact h.elim
theorem ad_min2 {K : PySem.W.Frag} : CallAd K (fun xs H Q => ∃ i j, xs = [.int i, .int j] ∧ Q (.int (if j < i then j else i)) H) min2M := by
  intro E H w st xs vs Q S rs h
  unfold min2M at h
  split at h
  · obtain ⟨v, u, rfl, r1, r2⟩ := rel2 rs
    cases r1; cases r2
    exact ⟨_, _, rfl, post_here S h rfl⟩
  · exact h.elim

def tyOfD (st : Sto) : D → Option String
  | .non => some "NoneType"
  | .bl _ => some "bool"
  | .int _ => some "int"
  | .str _ => some "str"
  | .tup _ => some "tuple"
  | .lst _ => some "list"
  | .scr _ => none
  | .loc n => match st.get n with
    | some (.lst _) => some "list"
    | some (.dk _) => some "dict"
    | some (.dt _) => some "dict"
    | _ => none
def isiB (t c : String) : Bool := (t == c) || (t == "bool" && c == "int")
def isiM (c : String) (d : D) : M D := fun st => match tyOfD st d with
  | some t => .ok (.bl (isiB t c)) st
  | none => .no
/-- the classes that are asked -/
def askedTys : List String := ["int", "bool", "str", "tuple", "list", "dict"]
theorem isi_tab : ∀ t ∈ ["NoneType", "bool", "int", "str", "tuple", "list", "dict"], ∀ c ∈ askedTys, kitB t c = some (isiB t c) := by decide +kernel
theorem tyOfD_mem {st : Sto} {d : D} {t : String} (h : tyOfD st d = some t) : t ∈ ["NoneType", "bool", "int", "str", "tuple", "list", "dict"] := by
  cases d with
  | loc n =>
    simp only [tyOfD] at h
    split at h <;> first | (cases h; decide) | cases h
  | scr _ => cases h
  | _ => cases h; decide
theorem tyOfD_rel {K : PySem.W.Frag} {H : Hp} {w : Wd} {st : Sto} {d : D} {v : V} {t : String} (S : StOk K H w st) (r : RelD K H w st.next d v) (h : tyOfD st d = some t) : TyX K H v (.type t) := by
  cases d with
  | non => cases r; cases h; exact .base .non
  | bl b => cases r; cases h; exact .base (.bl b)
  | int i => cases r; cases h; exact .base (.int i)
  | str s => cases r; cases h; exact .base (.str s)
  | tup ds =>
    cases h
    unfold RelD at r
    obtain ⟨a, vs, rfl, h1, _⟩ := r
    rcases h1 with ⟨_, q⟩ | ⟨⟨o, its, n, q, c, _⟩, _⟩
    · exact .base (.tup q)
    · exact .kTuple q c
  | lst ds =>
    cases h
    obtain ⟨a, vs, rfl, q, _⟩ := r.sqL
    exact .base (.lst q)
  | scr ns => cases h
  | loc n =>
    unfold RelD at r
    obtain ⟨_, rfl⟩ := r
    simp only [tyOfD] at h
    split at h
    · rename_i q
      cases h
      obtain ⟨_, _, ho, h1, vs, rfl, _⟩ := S.cell n _ q
      exact .base (.lst h1)
    · rename_i q
      cases h
      obtain ⟨_, _, ho, h1, vs, rfl, _⟩ := S.cell n _ q
      exact .base (.dK h1)
    · rename_i q
      cases h
      obtain ⟨_, _, ho, h1, vs, rfl, _⟩ := S.cell n _ q
      exact .base (.dT h1)
    · cases h
section
variable {X : Cx} {W : WX}
theorem je_isi {e : Expr} {c : String} {x : Str} {m : Ev → M D} {p p2 pos : Pos} (hg : Gl X "isinstance") (hm : X.mg "isinstance" = none) (hgc : Gl X x) (hmc : X.mg x = none) (hv : bootBuiltins x = some (.type c)) (hc : c ∈ askedTys) (he : PE X e (cnE X.K W m))
    (hn : x ≠ "__name__") (hdb : (x == ("__debug__" : Str)) = false) (hst : starEach [e, .Name x p2] X.env = (false, eval e X.env) :: starEach [.Name x p2] X.env) : PE X (.Call (.Name "isinstance" p) [e, .Name x p2] [] pos) (cnE X.K W (ev1 (isiM c) m)) := by
  have pn : PE X (.Name x p2) (tC (.ty c)) := pe_bltn hgc hmc hv rfl hn hdb
  refine pe_imp (pe_callB call_isi hg hm (by decide +kernel) (pa_cons he (pa_cons pn pa_nil) hst) (by decide) (by decide) hst) fun σ H Q h => ?_
  obtain ⟨w, st, ρ, S, R, h⟩ := h
  refine cn_seq S R h fun x v w1 st1 H1 e1 S1 R1 rx h1 => ?_
  unfold isiM at h1
  split at h1
  · rename_i t q
    exact ⟨v, .ty c, .type t, .type c, _, rfl, .ty c, tyOfD_rel S1 rx q, kit_ty (isi_tab t (tyOfD_mem q) c hc), post_here S1 h1 rfl⟩
  · exact h1.elim
end
end Mp
namespace Mp
open PySem PySem.Spec PyProof.Rows L2

def spM (K : PySem.W.Frag) (f : List D → M D) : Sp := fun vs H Q E => ∃ w st ds, StOk K H w st ∧ RelDs K H w st.next ds vs ∧ Pst K E H w st.next (f ds st) (PV K Q)
section
variable {X : Cx} {W : WX}
theorem je_call {f : List D → M D} {k : Nat} {fa : Addr} {fd : FuncData} {ps : List Str} {x : Str} {p pos : Pos} {e : Expr} {es : List Expr} {ms : Ev → M (List D)} (F : FnOk X.prog X.w X.K X.mg X.base (L2.CX X.prog X.w) k fa fd ps (spM X.K f)) (hr : Room k X.A) (hg : Gl X x) (hm : X.mg x = some (.ref fa)) (hk : PySem.W.keepIn X.K (.ref fa) = true)
    (hb : Binds X.K fd ps []) (tk : Takes X W) (ha : PA X (e :: es) (cnA X.K W ms)) (hdb : (x == ("__debug__" : Str)) = false) (he : starEach (e :: es) X.env = (false, eval e X.env) :: starEach es X.env) (hpl : (backTo pos (starEach es X.env)).any (·.1) = false) :
    PE X (.Call (.Name x p) (e :: es) [] pos) (cnE X.K W (evL f ms)) := by
  refine pe_imp (pe_callS F hr hg hm hk hb (fun σ => passAt tk σ) ha hdb he hpl) fun σ H Q h => ?_
  obtain ⟨w, st, ρ, S, R, h⟩ := h
  exact ca_seq S R h fun ds vs w1 st1 H1 e1 S1 R1 rs h1 => ⟨w1, st1, ds, S1, rs, h1⟩
/-- the defaults fill up -/
theorem je_callD {f : List D → M D} {k : Nat} {fa : Addr} {fd : FuncData} {ps : List Str} {x : Str} {p pos : Pos} {e : Expr} {es : List Expr} {ms : Ev → M (List D)} {dd : List D} {dvs : List V} {ds : List Value} (F : FnOk X.prog X.w X.K X.mg X.base (L2.CX X.prog X.w) k fa fd ps (spM X.K f)) (hr : Room k X.A) (hg : Gl X x) (hm : X.mg x = some (.ref fa)) (hk : PySem.W.keepIn X.K (.ref fa) = true)
    (hb : Binds X.K fd ps ds) (hd : Vals dvs ds) (hdd : ∀ H w nx, RelDs X.K H w nx dd dvs) (tk : Takes X W) (ha : PA X (e :: es) (cnA X.K W ms)) (hdb : (x == ("__debug__" : Str)) = false) (he : starEach (e :: es) X.env = (false, eval e X.env) :: starEach es X.env) (hpl : (backTo pos (starEach es X.env)).any (·.1) = false) :
    PE X (.Call (.Name x p) (e :: es) [] pos) (cnE X.K W (evL (fun xs => f (xs ++ dd)) ms)) := by
  refine pe_imp (pe_callSD F hr hg hm hk hb hd (fun σ => passAt tk σ) ha hdb he hpl) fun σ H Q h => ?_
  obtain ⟨w, st, ρ, S, R, h⟩ := h
  exact ca_seq S R h fun ds vs w1 st1 H1 e1 S1 R1 rs h1 => ⟨w1, st1, _, S1, rs.append (hdd _ _ _), h1⟩
end

inductive Fl where
  | nx | rt (d : D) | bk | ct
abbrev SR := R (Xn × Ev) (Fl × Ev)
abbrev SM := Ev → Sto → SR
def PFl (K : PySem.W.Frag) (E : Ends) (f : Fl) (ρ : Ev) (w : Wd) (st : Sto) (H : Hp) : Prop := match f with
  | .nx => ∀ σ, EvOk K H w st.next ρ σ → E.nx σ H
  | .rt d => ∀ v, RelD K H w st.next d v → E.rt v H
  | .bk => ∀ σ, EvOk K H w st.next ρ σ → E.bk σ H
  | .ct => ∀ σ, EvOk K H w st.next ρ σ → E.ct σ H
def PstS (K : PySem.W.Frag) (W : WX) (H : Hp) (w : Wd) (nx : Nat) (r : SR) (E : Ends) : Prop := match r with
  | .ok a st => ∀ w' H', Ext H w nx H' w' st.next → StOk K H' w' st → PFl K E a.1 a.2 w' st H'
  | .exc a st => ∀ w' H' c d σ, Ext H w nx H' w' st.next → StOk K H' w' st → XRel K H' w' st.next a.1 c d → EvOk K H' w' st.next a.2 σ → W c d σ H'
  | .no => False
def cnS (K : PySem.W.Frag) (W : WX) (m : SM) : TS := fun E σ H => ∃ w st ρ, StOk K H w st ∧ EvOk K H w st.next ρ σ ∧ PstS K W H w st.next (m ρ st) E
section
variable {K : PySem.W.Frag} {W : WX} {H H1 : Hp} {w w1 : Wd} {nx n1 : Nat}
theorem PstS.rebase {r : SR} {E : Ends} (h : PstS K W H w nx r E) (e : Ext H w nx H1 w1 n1) : PstS K W H1 w1 n1 r E := by
  cases r with
  | ok a st => exact fun w' H' e' S' => h w' H' (e.trans e') S'
  | exc a st => exact fun w' H' c d σ e' S' x q => h w' H' c d σ (e.trans e') S' x q
  | no => exact h
theorem PstS.ends {r : SR} {E E' : Ends} (h : PstS K W H w nx r E) (hn : ∀ σ H, E.nx σ H → E'.nx σ H) (hr : ∀ v H, E.rt v H → E'.rt v H) (hb : ∀ σ H, E.bk σ H → E'.bk σ H) (hc : ∀ σ H, E.ct σ H → E'.ct σ H) : PstS K W H w nx r E' := by
  cases r with
  | ok a st =>
    intro w' H' e' S'
    have q := h w' H' e' S'
    obtain ⟨f, ρ⟩ := a
    cases f with
    | nx => exact fun σ z => hn _ _ (q σ z)
    | rt d => exact fun v z => hr _ _ (q v z)
    | bk => exact fun σ z => hb _ _ (q σ z)
    | ct => exact fun σ z => hc _ _ (q σ z)
  | exc a st => exact h
  | no => exact h
/-- an expression's run, then a statement's -/
def thenS {α : Type} (r : R Xn α) (ρ : Ev) (f : α → Sto → SR) : SR := match r with
  | .ok a st => f a st
  | .exc x st => .exc (x, ρ) st
  | .no => .no
theorem PstS.then_ {α : Type} {r : R Xn α} {ρ : Ev} {f : α → Sto → SR} {E : Ends} {σ : L2.St} (R : EvOk K H w nx ρ σ) (h : PstS K W H w nx (thenS r ρ f) E) : Pst K (fun c d H' => W c d σ H') H w nx r fun a w1 st1 H1 => PstS K W H1 w1 st1.next (f a st1) E := by
  cases r with
  | ok a st => exact fun w1 H1 e1 S1 => PstS.rebase (show PstS K W H w nx (f a st) E from h) e1
  | exc x st => exact fun w1 H1 c d e1 S1 z => h w1 H1 c d σ e1 S1 z (R.mono e1)
  | no => exact h
end
section
variable {X : Cx} {W : WX}
/-- an expression's value, then the rest -/
theorem cs_seq {K : PySem.W.Frag} {σ : L2.St} {H : Hp} {w : Wd} {st : Sto} {ρ : Ev} {ma : Ev → M D} {f : D → Sto → SR} {E : Ends} {Q : VK} (S : StOk K H w st) (R : EvOk K H w st.next ρ σ) (h : PstS K W H w st.next (thenS (ma ρ st) ρ f) E)
    (hq : ∀ d v w1 st1 H1, Ext H w st.next H1 w1 st1.next → StOk K H1 w1 st1 → EvOk K H1 w1 st1.next ρ σ → RelD K H1 w1 st1.next d v → PstS K W H1 w1 st1.next (f d st1) E → Q v H1) : cnE K W ma σ H Q :=
  ⟨w, st, ρ, S, R, (PstS.then_ R h).mono fun d w1 st1 H1 e1 S1 p v r => hq d v w1 st1 H1 e1 S1 (R.mono e1) r p⟩
def sNil : SM := fun ρ st => .ok (.nx, ρ) st
def sSeq (m n : SM) : SM := fun ρ st => match m ρ st with
  | .ok (.nx, ρ') st' => n ρ' st'
  | r => r
theorem js_nil : PSs X [] (cnS X.K W sNil) := by
  refine pss_imp pss_nil fun E σ H h => ?_
  obtain ⟨w, st, ρ, S, R, h⟩ := h
  exact h w H Ext.refl S σ R
theorem seq_nx {K : PySem.W.Frag} {H : Hp} {w : Wd} {st : Sto} {ρ : Ev} {m n : SM} {E : Ends} {nx : Nat} (h : PstS K W H w nx (sSeq m n ρ st) E) : PstS K W H w nx (m ρ st) { E with nx := cnS K W n E } := by
  unfold sSeq at h
  cases q : m ρ st with
  | ok a st' =>
    obtain ⟨f, ρ'⟩ := a
    rw [q] at h
    cases f with
    | nx => exact fun w1 H1 e1 S1 σ R => ⟨w1, st', ρ', S1, R, PstS.rebase h e1⟩
    | rt d => exact h
    | bk => exact h
    | ct => exact h
  | exc a st' => rw [q] at h; exact h
  | no => rw [q] at h; exact h
theorem js_cons {s : Stmt} {r : List Stmt} {m n : SM} (h1 : PS X s (cnS X.K W m)) (h2 : PSs X r (cnS X.K W n)) : PSs X (s :: r) (cnS X.K W (sSeq m n)) := by
  refine pss_imp (pss_cons h1 h2) fun E σ H h => ?_
  obtain ⟨w, st, ρ, S, R, h⟩ := h
  exact ⟨w, st, ρ, S, R, seq_nx h⟩
theorem js_one {s : Stmt} {m : SM} (h1 : PS X s (cnS X.K W m)) : PSs X [s] (cnS X.K W m) := pss_one h1
def sPass : SM := sNil
theorem js_pass {pos : Pos} : PS X (.Pass pos) (cnS X.K W sPass) := by
  refine ps_imp ps_pass fun E σ H h => ?_
  obtain ⟨w, st, ρ, S, R, h⟩ := h
  exact h w H Ext.refl S σ R
def sExpr (m : Ev → M D) : SM := fun ρ st => thenS (m ρ st) ρ fun _ st => .ok (.nx, ρ) st
theorem js_expr {e : Expr} {m : Ev → M D} {pos : Pos} (he : PE X e (cnE X.K W m)) (hs : swapsWith e none pos.line X.env = pure false) : PS X (.Expr e pos) (cnS X.K W (sExpr m)) := by
  refine ps_imp (ps_expr he hs) fun E σ H h => ?_
  obtain ⟨w, st, ρ, S, R, h⟩ := h
  exact cs_seq S R h fun d v w1 st1 H1 e1 S1 R1 rd h1 => h1 w1 H1 Ext.refl S1 σ R1
def sAsg (i : Nat) (m : Ev → M D) : SM := fun ρ st => thenS (m ρ st) ρ fun d st => .ok (.nx, ρ.set i (some d)) st
theorem js_asg {i : Nat} {x : Str} {e : Expr} {m : Ev → M D} {pos pos' : Pos} (hN : X.N.Nodup) (hi : X.N[i]? = some x) (hx : Loc X.env.scope x) (he : PE X e (cnE X.K W m)) (hs : swapsWith e (some (.Name x pos')) pos.line X.env = pure false) (hf : X.fn x = true ∨ X.env.scope.names.lookup x = some .local) :
    PS X (.Assign [.Name x pos'] e pos) (cnS X.K W (sAsg i m)) := by
  refine ps_imp (ps_set hN hi hx he hs hf) fun E σ H h => ?_
  obtain ⟨w, st, ρ, S, R, h⟩ := h
  exact cs_seq S R h fun d v w1 st1 H1 e1 S1 R1 rd h1 => h1 w1 H1 Ext.refl S1 _ (R1.set rd i)
/-- a list of the store that is handed back becomes a plain one -/
def frzM (d : D) : M D := fun st => match d with
  | .loc n => (match st.get n with
    | some (.lst xs) => .ok (.lst xs) (st.del n)
    | _ => .ok d st)
  | d => .ok d st
def sRet (fr : Bool) (m : Ev → M D) : SM := fun ρ st => thenS (m ρ st) ρ fun d st => match fr with
  | true => thenS (frzM d st) ρ fun d st => .ok (.rt d, ρ) st
  | false => .ok (.rt d, ρ) st
theorem js_ret {e : Expr} {fr : Bool} {m : Ev → M D} {pos : Pos} (he : PE X e (cnE X.K W m)) : PS X (.Return (some e) pos) (cnS X.K W (sRet fr m)) := by
  refine ps_imp (ps_ret he) fun E σ H h => ?_
  obtain ⟨w, st, ρ, S, R, h⟩ := h
  refine cs_seq S R h fun d v w1 st1 H1 e1 S1 R1 rd h1 => ?_
  cases fr with
  | false => exact h1 w1 H1 Ext.refl S1 v rd
  | true =>
    dsimp only at h1
    unfold frzM at h1
    cases d with
    | loc n =>
      dsimp only at h1
      split at h1
      · rename_i xs q
        obtain ⟨w2, e2, S2, r2⟩ := S1.frz q
        exact h1 w2 H1 e2 S2 v (r2 v rd)
      · exact h1 w1 H1 Ext.refl S1 v rd
    | _ => exact h1 w1 H1 Ext.refl S1 v rd
def sRetN : SM := fun ρ st => .ok (.rt .non, ρ) st
theorem js_retN {pos : Pos} : PS X (.Return none pos) (cnS X.K W sRetN) := by
  refine ps_imp ps_retN fun E σ H h => ?_
  obtain ⟨w, st, ρ, S, R, h⟩ := h
  exact h w H Ext.refl S _ rfl
def sIf (mt : Ev → M D) (a b : SM) : SM := fun ρ st => thenS (evT mt ρ st) ρ fun c st => if c = true then a ρ st else b ρ st
theorem js_if {t : Expr} {a b : List Stmt} {mt : Ev → M D} {ma mb : SM} {pos : Pos} (ht : PT X t (cnT X.K W (evT mt))) (ha : PSs X a (cnS X.K W ma)) (hb : PSs X b (cnS X.K W mb)) : PS X (.If t a b pos) (cnS X.K W (sIf mt ma mb)) := by
  refine ps_imp (ps_if ht ha hb) fun E σ H h => ?_
  obtain ⟨w, st, ρ, S, R, h⟩ := h
  refine ⟨w, st, ρ, S, R, (PstS.then_ R h).mono fun c w1 st1 H1 e1 S1 p => ?_⟩
  cases c with
  | true => exact ⟨w1, st1, ρ, S1, R.mono e1, p⟩
  | false => exact ⟨w1, st1, ρ, S1, R.mono e1, p⟩

/-- o[i] = e: lists and dicts -/
def setM (o i v : D) (st : Sto) : Option Sto := match o with
  | .loc n => (match st.get n with
    | some (.lst xs) => (match i with
      | .int k => (match ixN xs.length k with
        | some j => some (st.set n (.lst (xs.set j v)))
        | none => none)
      | _ => none)
    | some (.dk kvs) => (match keyD i with
      | some k => if kvs.length < sizeLine then some (st.set n (.dk (putD kvs k v))) else none
      | none => none)
    | some (.dt kvs) => (match keyT i with
      | some k => if kvs.length < sizeLine then some (st.set n (.dt (putD kvs k v))) else none
      | none => none)
    | _ => none)
  | _ => none
def rSetM : TSet := fun o i v H Q => rSetL o i v H Q ∨ ∃ a H', o = .ref a ∧ DPut H a i v H' ∧ Q H'
theorem set_M (hu : X.A.units + 1 < cLine) : PSet X rSetM := by
  intro pins s σ H o i v ov iv u Q I ro ri rv h
  rcases h with h | ⟨a, H', rfl, g, q⟩
  · exact set_list pins s σ H o i v ov iv u Q I ro ri rv h
  · obtain rfl : ov = Value.ref a := ro
    exact d_setItem hu I g ri rv fun s' I' => ⟨H', I', q⟩
theorem set_rel {K : PySem.W.Frag} {H : Hp} {w : Wd} {st st' : Sto} {o i d : D} {ov iv v : V} {Q : Hp → Prop} (S : StOk K H w st) (ro : RelD K H w st.next o ov) (ri : RelD K H w st.next i iv) (rd : RelD K H w st.next d v) (h : setM o i d st = some st')
    (q : ∀ H', Ext H w st.next H' w st'.next → StOk K H' w st' → Q H') : rSetM ov iv v H Q := by
  unfold setM at h
  split at h
  · rename_i n
    unfold RelD at ro
    obtain ⟨_, rfl⟩ := ro
    split at h
    · rename_i xs g
      split at h
      · cases ri
        split at h
        · rename_i k j e
          cases h
          obtain ⟨_, _, ho, h1, vs, rfl, h2⟩ := S.cell n _ g
          exact .inl ⟨_, vs, _, j, rfl, rfl, h1, by rw [← h2.length]; exact e, q _ (ext_set S g) (S.set g ⟨_, rfl, h2.set rd j⟩)⟩
        · cases h
      · cases h
    · rename_i kvs g
      split at h
      · rename_i k e
        split at h
        · rename_i z
          cases h
          obtain ⟨_, _, ho, h1, l, rfl, h2⟩ := S.cell n _ g
          rw [keyD_rel ri e]
          exact .inr ⟨_, _, rfl, DPut.k h1 (by rw [← h2.len]; exact z), q _ (ext_set S g) (S.set g ⟨_, rfl, h2.put rd⟩)⟩
        · cases h
      · cases h
    · rename_i kvs g
      split at h
      · rename_i k e
        split at h
        · rename_i z
          cases h
          obtain ⟨_, _, ho, h1, l, rfl, h2⟩ := S.cell n _ g
          obtain ⟨b, rfl, hb⟩ := keyT_rel ri e
          exact .inr ⟨_, _, rfl, DPut.t h1 hb (by rw [← h2.len]; exact z), q _ (ext_set S g) (S.set g ⟨_, rfl, h2.put rd⟩)⟩
        · cases h
      · cases h
    · cases h
  · cases h
def sSub (mo mi me : Ev → M D) : SM := fun ρ st => thenS (me ρ st) ρ fun d st => thenS (mo ρ st) ρ fun o st => thenS (mi ρ st) ρ fun i st => match setM o i d st with
  | some st' => .ok (.nx, ρ) st'
  | none => .no
theorem js_sub {o i e : Expr} {mo mi me : Ev → M D} {pos pos' : Pos} (hu : X.A.units + 1 < cLine) (ho : PE X o (cnE X.K W mo)) (hi : PE X i (cnE X.K W mi)) (he : PE X e (cnE X.K W me)) (hs : swapsWithSole [.Subscript o i pos'] e pos.line X.env = pure false) (hw : swappedStores [.Subscript o i pos'] e X.env = pure none)
    (h1 : (assignEach [.Subscript o i pos'] X.env).map (·.2) = [assign (.Subscript o i pos') X.env])
    (hasg : ∀ v, assign (.Subscript o i pos') X.env v = (do
      let ov ← holding [v] (eval o X.env)
      let iv ← holding [v, ov] (eval i X.env)
      standAt pos'
      holding [v, ov, iv] (setItem ov iv v)
      release [v, ov, iv] [])) : PS X (.Assign [.Subscript o i pos'] e pos) (cnS X.K W (sSub mo mi me)) := by
  refine ps_imp (ps_asg he (pg_sub ho hi (set_M hu) hasg) hs hw h1) fun E σ H h => ?_
  obtain ⟨w, st, ρ, S, R, h⟩ := h
  refine cs_seq S R h fun d v w1 st1 H1 e1 S1 R1 rd h1 => ?_
  refine cs_seq S1 R1 h1 fun o ov w2 st2 H2 e2 S2 R2 ro h2 => ?_
  refine cs_seq S2 R2 h2 fun i iv w3 st3 H3 e3 S3 R3 ri h3 => ?_
  split at h3
  · rename_i st' q
    exact set_rel S3 (ro.mono e3) ri ((rd.mono e2).mono e3) q fun H' e' S' => h3 w3 H' e' S' σ (R3.mono e')
  · exact h3.elim
end
end Mp
namespace Mp
open PySem PySem.Spec PyProof.Rows L2

/-- the iterator J yields the things xs, as long as what is frozen stands -/
structure Walked (K : PySem.W.Frag) (H : Hp) (w : Wd) (nx : Nat) (xs : List D) (J : It) : Prop where
  go : ∀ H1 w1 n1, Ext H w nx H1 w1 n1 → ∀ i, i < xs.length → J.go i H1
  stop : ∀ H1 w1 n1, Ext H w nx H1 w1 n1 → ∀ i, xs.length ≤ i → J.stop i H1
  yld : ∀ H1 w1 (st : Sto), Ext H w nx H1 w1 st.next → StOk K H1 w1 st → ∀ i x H2, i < xs.length → J.yld i H1 x H2 → ∃ w2 d, xs[i]? = some d ∧ Ext H1 w1 st.next H2 w2 st.next ∧ StOk K H2 w2 st ∧ RelD K H2 w2 st.next d x
theorem Walked.mono {K : PySem.W.Frag} {H H' : Hp} {w w' : Wd} {nx nx' : Nat} {xs : List D} {J : It} (h : Walked K H w nx xs J) (e : Ext H w nx H' w' nx') : Walked K H' w' nx' xs J :=
  ⟨fun H1 w1 n1 e1 => h.go H1 w1 n1 (e.trans e1), fun H1 w1 n1 e1 => h.stop H1 w1 n1 (e.trans e1), fun H1 w1 st e1 S => h.yld H1 w1 st (e.trans e1) S⟩
section
variable {K : PySem.W.Frag} {H : Hp} {w : Wd} {nx : Nat}
theorem walked_lst {a : Addr} {ds : List D} {vs : List V} (hF : w.F a) (h : H a = some (.lst vs)) (r : RelDs K H w nx ds vs) : Walked K H w nx ds (Itl K a) where
  go := fun H1 w1 n1 e i hi => by
    have q : H1 a = some (.lst vs) := (e.F a hF).2.trans h
    have hl : i < vs.length := by rw [← r.length]; exact hi
    exact ⟨vs, vs[i], SqL.of q, List.getElem?_eq_getElem hl⟩
  stop := fun H1 w1 n1 e i hi => ⟨vs, SqL.of ((e.F a hF).2.trans h), by rw [← r.length]; exact hi⟩
  yld := fun H1 w1 st e S i x H2 hi y => by
    obtain ⟨rfl, y⟩ := y
    have q : H2 a = some (.lst vs) := (e.F a hF).2.trans h
    have e1 := y vs (SqL.of q)
    obtain ⟨v, g1, g2⟩ := r.get (List.getElem?_eq_getElem hi)
    rw [e1] at g1
    cases g1
    exact ⟨w1, ds[i], List.getElem?_eq_getElem hi, Ext.refl, S, g2.mono e⟩
theorem walked_scr {a : Addr} {ns : List Int} (h : (∃ o, w.F a ∧ H a = some (.frz o (.lst (ns.map V.int)))) ∨ KLst K a (ns.map V.int)) : Walked K H w nx (ns.map D.int) (Itl K a) :=
  have sq : ∀ {H1 : Hp} {w1 : Wd} {n1 : Nat}, Ext H w nx H1 w1 n1 → SqL K H1 a (ns.map V.int) := fun e => by
    rcases h with ⟨o, f, q⟩ | h
    · exact .inl (.inr ⟨o, (e.F a f).2.trans q⟩)
    · exact .inr h
  { go := fun H1 w1 n1 e i hi => by
      have hl : i < (ns.map V.int).length := by simpa using hi
      exact ⟨ns.map V.int, (ns.map V.int)[i], sq e, List.getElem?_eq_getElem hl⟩
    stop := fun H1 w1 n1 e i hi => ⟨ns.map V.int, sq e, by simpa using hi⟩
    yld := fun H1 w1 st e S i x H2 hi y => by
      obtain ⟨rfl, y⟩ := y
      have e1 := y _ (sq e)
      obtain ⟨v, g1, g2⟩ := (RelDs.ints (K := K) (H := H) (w := w) (nx := nx) (ns := ns) rfl).get (List.getElem?_eq_getElem hi)
      rw [e1] at g1
      cases g1
      exact ⟨w1, _, List.getElem?_eq_getElem hi, Ext.refl, S, g2.mono e⟩ }
theorem walked_tup {a : Addr} {ds : List D} {vs : List V} (h : (w.F a ∧ H a = some (.tup vs)) ∨ (KTup K a vs ∧ ∃ x r, vs = .str x :: r)) (r : RelDs K H w nx ds vs) (inj : ∀ {H1 : Hp} {us : List V}, SqT K H1 a vs → SqT K H1 a us → True) : Walked K H w nx ds (Itt K a) where
  go := fun H1 w1 n1 e i hi => by
    have q : SqT K H1 a vs := by
      rcases h with ⟨hF, h⟩ | h
      · exact SqT.of ((e.F a hF).2.trans h)
      · exact .inr h.1
    have hl : i < vs.length := by rw [← r.length]; exact hi
    exact ⟨vs, vs[i], q, List.getElem?_eq_getElem hl⟩
  stop := fun H1 w1 n1 e i hi => by
    have q : SqT K H1 a vs := by
      rcases h with ⟨hF, h⟩ | h
      · exact SqT.of ((e.F a hF).2.trans h)
      · exact .inr h.1
    exact ⟨vs, q, by rw [← r.length]; exact hi⟩
  yld := fun H1 w1 st e S i x H2 hi y => by
    obtain ⟨rfl, y⟩ := y
    have q : SqT K H2 a vs := by
      rcases h with ⟨hF, h⟩ | h
      · exact SqT.of ((e.F a hF).2.trans h)
      · exact .inr h.1
    have e1 := y vs q
    obtain ⟨v, g1, g2⟩ := r.get (List.getElem?_eq_getElem hi)
    rw [e1] at g1
    cases g1
    exact ⟨w1, ds[i], List.getElem?_eq_getElem hi, Ext.refl, S, g2.mono e⟩
/-- the signs of a text -/
def signsD (s : Str) : List D := s.cps.toList.map fun c => .str ⟨#[c]⟩
theorem walked_str (s : Str) : Walked K H w nx (signsD s) (Its s) where
  go := fun H1 w1 n1 e i hi => show i < s.cps.size by simpa [signsD] using hi
  stop := fun H1 w1 n1 e i hi => show s.cps.size ≤ i by simpa [signsD] using hi
  yld := fun H1 w1 st e S i x H2 hi y => by
    obtain ⟨rfl, c, hc, rfl⟩ := y
    refine ⟨w1, .str ⟨#[c]⟩, ?_, Ext.refl, S, rfl⟩
    unfold signsD
    rw [List.getElem?_map, Array.getElem?_toList, hc]
    rfl
def rangeD (lo : Int) (n : Nat) : List D := (List.range n).map fun i => .int (lo + (i : Nat))
theorem walked_rng (lo : Int) (n : Nat) : Walked K H w nx (rangeD lo n) (Itr lo n) where
  go := fun H1 w1 n1 e i hi => show i < n by simpa [rangeD] using hi
  stop := fun H1 w1 n1 e i hi => show n ≤ i by simpa [rangeD] using hi
  yld := fun H1 w1 st e S i x H2 hi y => by
    obtain ⟨rfl, rfl⟩ := y
    refine ⟨w1, .int (lo + (i : Nat)), ?_, Ext.refl, S, rfl⟩
    have hi' : i < n := by simpa [rangeD] using hi
    simp [rangeD, hi']
/-- a tuple that is told by the heap is frozen -/
theorem StOk.freeze {st : Sto} {q : Addr} {vs : List V} (S : StOk K H w st) (h : H q = some (.tup vs)) : Ext H w st.next H (w.addF q) st.next ∧ StOk K H (w.addF q) st := by
  have e : Ext H w st.next H (w.addF q) st.next := ⟨Nat.le_refl _, fun _ _ => rfl, fun a h => ⟨.inl h, rfl⟩, fun a h => ⟨h, rfl⟩⟩
  refine ⟨e, S.inj, S.used, fun n o g => ?_, fun a z => ?_, fun a z => ?_⟩
  · obtain ⟨k1, k2, ho, k3, k4⟩ := S.cell n o g
    refine ⟨k1, ⟨fun z => z.elim k2.1 fun z => ?_, fun z => .inl (k2.2 z)⟩, ho, k3, k4.mono e⟩
    have z : w.φ n = q := z
    rw [z, h] at k3
    cases k3
    cases o with
    | lst _ => obtain ⟨_, y, _⟩ := k4; cases y
    | dk _ => obtain ⟨_, y, _⟩ := k4; cases y
    | dt _ => obtain ⟨_, y, _⟩ := k4; cases y
    | ins _ _ => obtain ⟨_, _, y, _⟩ := k4; cases y
    | fdk _ => rfl
    | fdt _ => rfl
  · rcases z with z | z
    · exact S.fz a z
    · rw [z, h]; simp
  · obtain ⟨⟨o, b0, b1⟩, b2, b3⟩ := S.bz a z
    refine ⟨⟨o, b0, b1⟩, fun y => y.elim b2 fun y => ?_, b3⟩
    rw [y, h] at b0
    cases b0
    exact b1 vs rfl
def ktD (k : List Key) : D := .tup (k.map kD)
theorem RelDs.keys : ∀ {k : List Key} {vs : List V}, vs = k.map kV → RelDs K H w nx (k.map kD) vs
  | [], _, e => e
  | k :: r, _, e => by
    show RelDs K H w nx (kD k :: r.map kD) _
    unfold RelDs
    refine ⟨kV k, r.map kV, e, ?_, RelDs.keys rfl⟩
    cases k <;> exact rfl
theorem RelKV.get {κ : Type} {kvs : List (κ × D)} {l : List (κ × V)} (h : RelKV K H w nx kvs l) : ∀ {i : Nat} {k : κ} {v : V}, l[i]? = some (k, v) → ∃ d, kvs[i]? = some (k, d) := by
  induction kvs generalizing l with
  | nil => intro i k v e; cases h; simp at e
  | cons p r ih =>
    obtain ⟨k0, d0⟩ := p
    obtain ⟨v0, l', rfl, _, h3⟩ := h
    intro i k v e
    cases i with
    | zero => simp at e; exact ⟨d0, by simp [e.1]⟩
    | succ i =>
      obtain ⟨d, q⟩ := ih h3 (i := i) (by simpa using e)
      exact ⟨d, by simpa using q⟩
theorem walked_keys {d : Addr} {o : Obj} {kvs : List (Key × D)} {l : List (Key × V)} (hF : w.F d) (h : H d = some (.frz o (.dK l))) (r : RelKV K H w nx kvs l) : Walked K H w nx (kvs.map fun kv => kD kv.1) (Itk d o l) where
  go := fun H1 w1 n1 e i hi => ⟨(e.F d hF).2.trans h, by rw [← r.len]; simpa using hi⟩
  stop := fun H1 w1 n1 e i hi => ⟨(e.F d hF).2.trans h, by rw [← r.len]; simpa using hi⟩
  yld := fun H1 w1 st e S i x H2 hi y => by
    obtain ⟨rfl, k, v, g, rfl⟩ := y
    obtain ⟨d', q⟩ := r.get g
    refine ⟨w1, kD k, by rw [List.getElem?_map, q]; rfl, Ext.refl, S, ?_⟩
    cases k <;> exact rfl
theorem walked_keysT {d : Addr} {o : Obj} {kvs : List (List Key × D)} {l : List (List Key × V)} (hF : w.F d) (h : H d = some (.frz o (.dT l))) (r : RelKV K H w nx kvs l) : Walked K H w nx (kvs.map fun kv => ktD kv.1) (Itkt d o l) where
  go := fun H1 w1 n1 e i hi => ⟨(e.F d hF).2.trans h, by rw [← r.len]; simpa using hi⟩
  stop := fun H1 w1 n1 e i hi => ⟨(e.F d hF).2.trans h, by rw [← r.len]; simpa using hi⟩
  yld := fun H1 w1 st e S i x H2 hi y => by
    obtain ⟨rfl, k, v, q, g, rfl, hq⟩ := y
    obtain ⟨d', z⟩ := r.get g
    obtain ⟨e2, S2⟩ := S.freeze hq
    refine ⟨_, ktD k, by rw [List.getElem?_map, z]; rfl, e2, S2, ?_⟩
    unfold ktD RelD
    exact ⟨q, _, rfl, .inl ⟨.inr rfl, hq⟩, RelDs.keys rfl⟩
end

def cnI (K : PySem.W.Frag) (W : WX) (m : Ev → M (List D)) : TI := fun σ H Rw => ∃ w st ρ, StOk K H w st ∧ EvOk K H w st.next ρ σ ∧ Pst K (fun c d H' => W c d σ H') H w st.next (m ρ st) fun xs w' st' H' => ∀ J, Walked K H' w' st'.next xs J → Rw J H'
/-- a list, a tuple, a text, the script -/
def walkM (d : D) : M (List D) := fun st => match d with
  | .tup xs => .ok xs st
  | .lst xs => .ok xs st
  | .scr ns => .ok (ns.map D.int) st
  | .str s => .ok (signsD s) st
  | .loc n => (match st.get n with
    | some (.lst xs) => .ok xs (st.del n)
    | some (.fdk kvs) => .ok (kvs.map fun kv => kD kv.1) st
    | some (.fdt kvs) => .ok (kvs.map fun kv => ktD kv.1) st
    | _ => .no)
  | _ => .no
def evWalk (m : Ev → M D) : Ev → M (List D) := fun ρ => (m ρ).bind walkM
/-- by values -/
inductive WkV (K : PySem.W.Frag) (H : Hp) : V → It → Prop
  | lst {a : Addr} {xs : List V} : SqL K H a xs → WkV K H (.ref a) (Itl K a)
  | tup {a : Addr} {xs : List V} : SqT K H a xs → WkV K H (.ref a) (Itt K a)
  | str (s : Str) : WkV K H (.str s) (Its s)
  | keys {d : Addr} {o : Obj} {l : List (Key × V)} : H d = some (.frz o (.dK l)) → WkV K H (.ref d) (Itk d o l)
  | keysT {d : Addr} {o : Obj} {l : List (List Key × V)} : H d = some (.frz o (.dT l)) → WkV K H (.ref d) (Itkt d o l)
section
variable {X : Cx} {W : WX} {tg : Expr}
theorem iter_val {pins : List (Addr × Obj)} {s : Shared} {σ : L2.St} {H : Hp} {x : V} {v : Value} {J : It} {Rw : It → Hp → Prop} (I : Inv X pins σ H s) (r : RelV x v) (k : WkV X.K H x J) (q : Rw J H) : wpAny (model X.prog X.w) X.A (pyIter v) (PIE X pins σ tg Rw) X.xe s := by
  cases k with
  | @lst a xs hs =>
    obtain rfl : v = Value.ref a := r
    obtain ⟨its, rv, p, hz⟩ := I.list hs
    exact wpAny_pyIter_list p.isList (pi_one (tk := s.toks) I _ (turn_list a _) ⟨_, Heap.get?_push_size _ rfl, rfl, rfl⟩ q)
  | @tup a xs hs =>
    obtain rfl : v = Value.ref a := r
    obtain ⟨its, rv, p, hz⟩ := I.tuple hs
    exact wpAny_pyIter_tuple p (pi_one (tk := s.toks) I _ (turn_tuple a _) ⟨_, Heap.get?_push_size _ rfl, rfl, rfl⟩ q)
  | str z =>
    obtain ⟨t, rfl⟩ := r
    cases ha : z.cps.all (· < 128) with
    | false => exact wpAny_pyIter_wide ha (pi_one (tk := s.toks) I _ (turn_str _ z t "str_iterator" (.inr rfl)) ⟨_, Heap.get?_push_size _ rfl, rfl, rfl⟩ q)
    | true => exact wpAny_pyIter_ascii ha (pi_one (tk := s.toks) I _ (turn_str _ z t "str_ascii_iterator" (.inl rfl)) ⟨_, Heap.get?_push_size _ rfl, rfl, rfl⟩ q)
  | @keys d o l hd =>
    obtain rfl : v = Value.ref d := r
    obtain ⟨hs, hgd, hx, es, ep, vs, hdt, hsz, kv, hm⟩ := I.frzK hd
    refine iter_keys hs hgd hx hdt (pi_one (tk := s.toks) I _ (turn_keys _ hdt) ⟨_, Heap.get?_push_size _ rfl, rfl, ?_⟩ q)
    rw [hsz] <;> rfl
  | @keysT d o l hd =>
    obtain rfl : v = Value.ref d := r
    obtain ⟨hs, hgd, hx, es, ep, hdt, hsz, ent⟩ := I.frzT hd
    refine iter_keys hs hgd hx hdt (pi_one (tk := s.toks) I _ (turn_keysT _ hdt) ⟨_, Heap.get?_push_size _ rfl, rfl, ?_⟩ q)
    rw [hsz] <;> rfl
theorem ji_walk {e : Expr} {m : Ev → M D} (he : PE X e (cnE X.K W m)) : PI X tg e (cnI X.K W (evWalk m)) := by
  refine ⟨fun pins s σ H Rw I h => ?_⟩
  have key : cnE X.K W m σ H fun x H1 => ∃ H2 J, (∀ s1, Inv X pins σ H1 s1 → Inv X pins σ H2 s1) ∧ WkV X.K H2 x J ∧ Rw J H2 := by
    obtain ⟨w, st, ρ, S, R, h⟩ := h
    refine cn_seq S R h fun x v w1 st1 H1 e1 S1 R1 rx h1 => ⟨H1, ?_⟩
    cases x with
    | tup ds =>
      unfold RelD at rx
      obtain ⟨a, vs, rfl, k, r⟩ := rx
      have sq : SqT X.K H1 a vs := by
        rcases k with ⟨_, k⟩ | k
        · exact SqT.of k
        · exact .inr k.1
      exact ⟨_, fun _ z => z, .tup sq, h1 w1 H1 Ext.refl S1 _ (walked_tup k r fun _ _ => trivial)⟩
    | lst ds =>
      unfold RelD at rx
      obtain ⟨a, vs, rfl, f, k, r⟩ := rx
      exact ⟨_, fun _ z => z, .lst (SqL.of k), h1 w1 H1 Ext.refl S1 _ (walked_lst f k r)⟩
    | scr ns =>
      unfold RelD at rx
      have sq := RelD.sqS (K := X.K) (H := H1) (w := w1) (nx := st1.next) (ns := ns) (by unfold RelD; exact rx)
      obtain ⟨a, rfl, k⟩ := rx
      obtain ⟨a', e, sq⟩ := sq
      cases e
      exact ⟨_, fun _ z => z, .lst (xs := ns.map V.int) sq, h1 w1 H1 Ext.refl S1 _ (walked_scr k)⟩
    | str z =>
      cases rx
      exact ⟨_, fun _ z => z, .str z, h1 w1 H1 Ext.refl S1 _ (walked_str z)⟩
    | loc n =>
      have h1 : Pst X.K (fun c d H' => W c d σ H') H1 w1 st1.next (match st1.get n with
        | some (.lst xs) => .ok xs (st1.del n)
        | some (.fdk kvs) => .ok (kvs.map fun kv => kD kv.1) st1
        | some (.fdt kvs) => .ok (kvs.map fun kv => ktD kv.1) st1
        | _ => .no) fun xs w' st' H' => ∀ J, Walked X.K H' w' st'.next xs J → Rw J H' := h1
      split at h1
      · rename_i xs q
        obtain ⟨w2, e2, S2, r2⟩ := S1.frz q
        have r3 := r2 v rx
        unfold RelD at r3
        obtain ⟨a, vs, rfl, f, k, r⟩ := r3
        exact ⟨_, fun _ z => z, .lst (SqL.of k), h1 w2 H1 e2 S2 _ (walked_lst f k r)⟩
      · rename_i kvs q
        unfold RelD at rx
        obtain ⟨_, rfl⟩ := rx
        obtain ⟨_, k2, ho, k3, ob, l, rfl, k4⟩ := S1.cell n _ q
        exact ⟨_, fun _ z => z, .keys k3, h1 w1 H1 Ext.refl S1 _ (walked_keys (k2.2 rfl) k3 k4)⟩
      · rename_i kvs q
        unfold RelD at rx
        obtain ⟨_, rfl⟩ := rx
        obtain ⟨_, k2, ho, k3, ob, l, rfl, k4⟩ := S1.cell n _ q
        exact ⟨_, fun _ z => z, .keysT k3, h1 w1 H1 Ext.refl S1 _ (walked_keysT (k2.2 rfl) k3 k4)⟩
      · exact h1.elim
    | _ => exact h1.elim
  refine thn (he.run pins s σ H _ I key) fun v s1 ⟨x, H1, I1, r1, H2, J, k1, k2, q⟩ => ?_
  exact iter_val (k1 s1 I1) r1 k2 q
/-- range(n), range(a, b) -/
def rngM (ds : List D) : M (List D) := fun st => match ds with
  | [.int j] => if -(2 ^ 62) ≤ j ∧ j < 2 ^ 62 then .ok (rangeD 0 j.toNat) st else .no
  | [.int i, .int j] => if -(2 ^ 62) ≤ i ∧ i < 2 ^ 62 ∧ -(2 ^ 62) ≤ j ∧ j < 2 ^ 62 then .ok (rangeD i (j - i).toNat) st else .no
  | _ => .no
def evRng (ms : Ev → M (List D)) : Ev → M (List D) := fun ρ => (ms ρ).bind rngM
theorem ji_range1 {a : Expr} {ms : Ev → M (List D)} {p pos : Pos} (hg : Gl X "range") (hm : X.mg "range" = none) (ha : PA X [a] (cnA X.K W ms)) (hl : ∀ ρ st ds st', ms ρ st = .ok ds st' → ds.length = 1) (hs : starEach [a] X.env = [(false, eval a X.env)]) : PI X tg (.Call (.Name "range" p) [a] [] pos) (cnI X.K W (evRng ms)) := by
  refine ⟨fun pins s σ H Rw I h => (pi_range1 hg hm ha hs).run pins s σ H Rw I ?_⟩
  obtain ⟨w, st, ρ, S, R, h⟩ := h
  refine ⟨w, st, ρ, S, R, ?_⟩
  have h := Pst.bind h
  cases q : ms ρ st with
  | no => rw [q] at h; exact h
  | exc _ _ => rw [q] at h; exact h
  | ok ds st1 =>
    rw [q] at h
    have hl1 := hl ρ st ds st1 q
    intro w1 H1 e1 S1 vs rs
    have h1 := h w1 H1 e1 S1
    dsimp only at h1
    unfold rngM at h1
    split at h1
    · split at h1
      · rename_i j z
        obtain ⟨v, rfl, rv⟩ := rel1 rs
        cases rv
        exact ⟨j, rfl, z.1, z.2, h1 w1 H1 Ext.refl S1 _ (walked_rng _ _)⟩
      · exact h1.elim
    · simp at hl1
    · exact h1.elim
theorem ji_range2 {a b : Expr} {ms : Ev → M (List D)} {p pos : Pos} (hg : Gl X "range") (hm : X.mg "range" = none) (ha : PA X [a, b] (cnA X.K W ms)) (hl : ∀ ρ st ds st', ms ρ st = .ok ds st' → ds.length = 2) (hs : starEach [a, b] X.env = [(false, eval a X.env), (false, eval b X.env)]) (hs2 : starEach [b] X.env = [(false, eval b X.env)]) :
    PI X tg (.Call (.Name "range" p) [a, b] [] pos) (cnI X.K W (evRng ms)) := by
  refine ⟨fun pins s σ H Rw I h => (pi_range2 hg hm ha hs hs2).run pins s σ H Rw I ?_⟩
  obtain ⟨w, st, ρ, S, R, h⟩ := h
  refine ⟨w, st, ρ, S, R, ?_⟩
  have h := Pst.bind h
  cases q : ms ρ st with
  | no => rw [q] at h; exact h
  | exc _ _ => rw [q] at h; exact h
  | ok ds st1 =>
    rw [q] at h
    have hl1 := hl ρ st ds st1 q
    intro w1 H1 e1 S1 vs rs
    have h1 := h w1 H1 e1 S1
    dsimp only at h1
    unfold rngM at h1
    split at h1
    · simp at hl1
    · split at h1
      · rename_i i j z
        obtain ⟨v, u, rfl, rv, ru⟩ := rel2 rs
        cases rv; cases ru
        exact ⟨i, j, rfl, z, h1 w1 H1 Ext.refl S1 _ (walked_rng _ _)⟩
      · exact h1.elim
    · exact h1.elim

inductive Tg where
  | nm (i : Nat)
  | tp (is : List Nat)
def bindAll : List Nat → List D → Ev → Option Ev
  | [], [], ρ => some ρ
  | i :: is, d :: ds, ρ => bindAll is ds (ρ.set i (some d))
  | _, _, _ => none
def bindT (t : Tg) (d : D) (ρ : Ev) : Option Ev := match t with
  | .nm i => some (ρ.set i (some d))
  | .tp is => (match d with
    | .tup ds => bindAll is ds ρ
    | _ => none)
/-- a target's reading is canonical -/
def TgAd (K : PySem.W.Frag) (g : TG) (t : Tg) : Prop := ∀ (H : Hp) (w : Wd) (nx : Nat) (ρ ρ' : Ev) (σ : L2.St) (d : D) (v : V) (Q : L2.St → Hp → Prop), EvOk K H w nx ρ σ → RelD K H w nx d v → bindT t d ρ = some ρ' → (∀ σ', EvOk K H w nx ρ' σ' → Q σ' H) → g v σ H Q
theorem tg_nm {K : PySem.W.Frag} {i : Nat} : TgAd K (gName i) (.nm i) := by
  intro H w nx ρ ρ' σ d v Q R r h q
  cases h
  exact q _ (R.set r i)
def gNames : List Nat → TGs
  | [] => gNil
  | i :: is => gCons (gName i) (gNames is)
theorem gNames_ad {K : PySem.W.Frag} {H : Hp} {w : Wd} {nx : Nat} {Q : L2.St → Hp → Prop} : ∀ {is : List Nat} {ds : List D} {vs : List V} {ρ ρ' : Ev} {σ : L2.St}, EvOk K H w nx ρ σ → RelDs K H w nx ds vs → bindAll is ds ρ = some ρ' → (∀ σ', EvOk K H w nx ρ' σ' → Q σ' H) → gNames is vs σ H Q
  | [], [], _, ρ, ρ', σ, R, r, h, q => by
    cases r
    cases h
    exact ⟨rfl, q σ R⟩
  | i :: is, d :: ds, _, ρ, ρ', σ, R, r, h, q => by
    unfold RelDs at r
    obtain ⟨v, us, rfl, r1, r2⟩ := r
    exact ⟨v, us, rfl, gNames_ad (R.set r1 i) r2 h q⟩
  | [], d :: ds, _, ρ, ρ', σ, R, r, h, q => by cases h
  | i :: is, [], _, ρ, ρ', σ, R, r, h, q => by cases h
theorem bindAll_len : ∀ {is : List Nat} {ds : List D} {ρ ρ' : Ev}, bindAll is ds ρ = some ρ' → ds.length = is.length
  | [], [], _, _, _ => rfl
  | i :: is, d :: ds, _, _, h => by simp [bindAll_len (is := is) (ds := ds) h]
  | [], d :: ds, _, _, h => by cases h
  | i :: is, [], _, _, h => by cases h
theorem tg_tp {K : PySem.W.Frag} {is : List Nat} : TgAd K (gTup K is.length (gNames is)) (.tp is) := by
  intro H w nx ρ ρ' σ d v Q R r h q
  unfold bindT at h
  cases d with
  | tup ds =>
    obtain ⟨a, vs, rfl, h1, h2⟩ := r.sqT
    exact ⟨a, vs, rfl, h1, by rw [← h2.length]; exact bindAll_len h, gNames_ad R h2 h q⟩
  | _ => cases h

def forL (t : Tg) (body : SM) : List D → SM
  | [] => fun ρ st => .ok (.nx, ρ) st
  | d :: ds => fun ρ st => match bindT t d ρ with
    | none => .no
    | some ρ1 => match body ρ1 st with
      | .ok (.nx, ρ2) st2 => forL t body ds ρ2 st2
      | .ok (.ct, ρ2) st2 => forL t body ds ρ2 st2
      | .ok (.bk, ρ2) st2 => .ok (.nx, ρ2) st2
      | r => r
def sFor (mi : Ev → M (List D)) (t : Tg) (body : SM) : SM := fun ρ st => thenS (mi ρ st) ρ fun xs st => forL t body xs ρ st
theorem js_for {iter : Expr} {bs : List Stmt} {mi : Ev → M (List D)} {g : TG} {t : Tg} {body : SM} {pos : Pos} (hp : PassesOwn (model X.prog X.w) X.A X.env X.xe) (hc : X.calm = true) (hi : PI X tg iter (cnI X.K W mi)) (hg : PG X tg g) (ta : TgAd X.K g t) (hb : PSs X bs (cnS X.K W body)) (hs : ∀ x, foldedSetIterable iter X.env x = pure x) :
    PS X (.For tg iter bs [] pos) (cnS X.K W (sFor mi t body)) := by
  refine ps_imp (ps_for hp hc hi hg hb hs) fun E σ H h => ?_
  obtain ⟨w, st, ρ, S, R, h⟩ := h
  refine ⟨w, st, ρ, S, R, (PstS.then_ R h).mono fun xs w1 st1 H1 e1 S1 p J wk => ?_⟩
  refine ⟨fun i m σ' H' => m + i = xs.length ∧ ∃ w' st' ρ', StOk X.K H' w' st' ∧ EvOk X.K H' w' st'.next ρ' σ' ∧ Walked X.K H' w' st'.next xs J ∧ PstS X.K W H' w' st'.next (forL t body (xs.drop i) ρ' st') E, ⟨xs.length, Nat.add_zero _, w1, st1, ρ, S1, R.mono e1, wk, p⟩, ?_⟩
  rintro i m σ2 H2 ⟨hm, w2, st2, ρ2, S2, R2, wk2, p2⟩
  by_cases hi : i < xs.length
  · refine .inr ⟨wk2.go H2 w2 _ Ext.refl i hi, fun σ' H' => i + 1 ≤ xs.length ∧ ∃ w' st' ρ', StOk X.K H' w' st' ∧ EvOk X.K H' w' st'.next ρ' σ' ∧ Walked X.K H' w' st'.next xs J ∧ PstS X.K W H' w' st'.next (forL t body (xs.drop (i + 1)) ρ' st') E, fun σ' H' n => ⟨m - 1, by omega, by omega, n.2⟩, fun x H3 y => ?_⟩
    obtain ⟨w3, d, gd, e3, S3, r3⟩ := wk2.yld H2 w2 st2 Ext.refl S2 i x H3 hi y
    rw [List.drop_eq_getElem_cons hi] at p2
    have ed : xs[i] = d := by rw [List.getElem?_eq_getElem hi] at gd; exact Option.some.inj gd
    rw [ed] at p2
    have p2 : PstS X.K W H2 w2 st2.next (match bindT t d ρ2 with
      | none => .no
      | some ρ1 => match body ρ1 st2 with
        | .ok (.nx, ρ2) st2 => forL t body (xs.drop (i + 1)) ρ2 st2
        | .ok (.ct, ρ2) st2 => forL t body (xs.drop (i + 1)) ρ2 st2
        | .ok (.bk, ρ2) st2 => .ok (.nx, ρ2) st2
        | r => r) E := p2
    cases qb : bindT t d ρ2 with
    | none => rw [qb] at p2; exact p2.elim
    | some ρ3 =>
      rw [qb] at p2
      refine ta H3 w3 st2.next ρ2 ρ3 σ2 d x _ (R2.mono e3) r3 qb fun σ4 R4 => ⟨w3, st2, ρ3, S3, R4, ?_⟩
      have p3 := PstS.rebase p2 e3
      dsimp only at p3
      cases q : body ρ3 st2 with
      | ok a st5 =>
        obtain ⟨f, ρ5⟩ := a
        rw [q] at p3
        cases f with
        | nx => exact fun w5 H5 e5 S5 σ5 R5 => ⟨hi, w5, st5, ρ5, S5, R5, (wk2.mono e3).mono e5, PstS.rebase p3 e5⟩
        | ct => exact fun w5 H5 e5 S5 σ5 R5 => ⟨hi, w5, st5, ρ5, S5, R5, (wk2.mono e3).mono e5, PstS.rebase p3 e5⟩
        | bk => exact fun w5 H5 e5 S5 σ5 R5 => p3 w5 H5 e5 S5 σ5 R5
        | rt d => exact fun w5 H5 e5 S5 v r => p3 w5 H5 e5 S5 v r
      | exc a st5 => rw [q] at p3; exact p3
      | no => rw [q] at p3; exact p3
  · refine .inl ⟨wk2.stop H2 w2 _ Ext.refl i (by omega), ?_⟩
    rw [List.drop_of_length_le (by omega)] at p2
    exact p2 w2 H2 Ext.refl S2 σ2 R2
end
end Mp
namespace Mp
open PySem PySem.Spec PyProof.Rows L2

def wipeE (ρ : Ev) : List Nat → Ev
  | [] => ρ
  | v :: vs => (wipeE ρ vs).set v none
theorem wipe_ok {K : PySem.W.Frag} {H : Hp} {w : Wd} {nx : Nat} {ρ : Ev} {σ : L2.St} (R : EvOk K H w nx ρ σ) : ∀ vs : List Nat, EvOk K H w nx (wipeE ρ vs) (L2.wipe σ vs)
  | [] => R
  | v :: vs => (wipe_ok R vs).wipe v
/-- the target's slots -/
def Tg.slots : Tg → List Nat
  | .nm i => [i]
  | .tp is => is
theorem wipe_set {σ : L2.St} {v : Option V} {i : Nat} : ∀ {vs : List Nat}, i ∈ vs → L2.wipe (σ.set i v) vs = L2.wipe σ vs
  | [], h => by cases h
  | j :: vs, h => by
    show (L2.wipe (σ.set i v) vs).set j none = (L2.wipe σ vs).set j none
    by_cases hm : i ∈ vs
    · rw [wipe_set hm]
    · have hj : i = j := (List.mem_cons.mp h).resolve_right hm
      subst hj
      have key : ∀ (us : List Nat) (τ : L2.St), i ∉ us → L2.wipe (τ.set i v) us = (L2.wipe τ us).set i v := by
        intro us
        induction us with
        | nil => intro τ _; rfl
        | cons k us ih =>
          intro τ hk
          show (L2.wipe (τ.set i v) us).set k none = ((L2.wipe τ us).set k none).set i v
          rw [ih τ fun z => hk (List.mem_cons_of_mem _ z), List.set_comm _ _ (show i ≠ k from fun z => hk (by rw [z]; exact List.mem_cons_self))]
      rw [key vs σ hm, List.set_set]
theorem wipe_wipe {σ : L2.St} : ∀ {us vs : List Nat}, (∀ i ∈ us, i ∈ vs) → L2.wipe (L2.wipe σ us) vs = L2.wipe σ vs
  | [], vs, _ => rfl
  | u :: us, vs, h => by
    show L2.wipe ((L2.wipe σ us).set u none) vs = _
    rw [wipe_set (h u List.mem_cons_self), wipe_wipe fun i hi => h i (List.mem_cons_of_mem _ hi)]
/-- a reading that sets the target's slots alone -/
def TgIn (K : PySem.W.Frag) (g : TG) (t : Tg) : Prop := ∀ (H : Hp) (w : Wd) (nx : Nat) (ρ ρ' : Ev) (σ : L2.St) (d : D) (v : V) (Q : L2.St → Hp → Prop), EvOk K H w nx ρ σ → RelD K H w nx d v → bindT t d ρ = some ρ' → (∀ σ', EvOk K H w nx ρ' σ' → (∀ vs, (∀ i ∈ t.slots, i ∈ vs) → L2.wipe σ' vs = L2.wipe σ vs) → Q σ' H) → g v σ H Q
theorem tgi_nm {K : PySem.W.Frag} {i : Nat} : TgIn K (gName i) (.nm i) := by
  intro H w nx ρ ρ' σ d v Q R r h q
  cases h
  exact q _ (R.set r i) fun vs hv => wipe_set (hv i (by simp [Tg.slots]))
theorem gNames_in {K : PySem.W.Frag} {H : Hp} {w : Wd} {nx : Nat} {Q : L2.St → Hp → Prop} : ∀ {is : List Nat} {ds : List D} {vs : List V} {ρ ρ' : Ev} {σ : L2.St}, EvOk K H w nx ρ σ → RelDs K H w nx ds vs → bindAll is ds ρ = some ρ' → (∀ σ', EvOk K H w nx ρ' σ' → (∀ us, (∀ i ∈ is, i ∈ us) → L2.wipe σ' us = L2.wipe σ us) → Q σ' H) → gNames is vs σ H Q
  | [], [], _, ρ, ρ', σ, R, r, h, q => by
    cases r
    cases h
    exact ⟨rfl, q σ R fun _ _ => rfl⟩
  | i :: is, d :: ds, _, ρ, ρ', σ, R, r, h, q => by
    unfold RelDs at r
    obtain ⟨v, us, rfl, r1, r2⟩ := r
    refine ⟨v, us, rfl, gNames_in (R.set r1 i) r2 h fun σ' R' z => q σ' R' fun us hu => ?_⟩
    rw [z us fun j hj => hu j (List.mem_cons_of_mem _ hj)]
    exact wipe_set (hu i List.mem_cons_self)
  | [], d :: ds, _, ρ, ρ', σ, R, r, h, q => by cases h
  | i :: is, [], _, ρ, ρ', σ, R, r, h, q => by cases h
theorem tgi_tp {K : PySem.W.Frag} {is : List Nat} : TgIn K (gTup K is.length (gNames is)) (.tp is) := by
  intro H w nx ρ ρ' σ d v Q R r h q
  unfold bindT at h
  cases d with
  | tup ds =>
    obtain ⟨a, vs, rfl, h1, h2⟩ := r.sqT
    exact ⟨a, vs, rfl, h1, by rw [← h2.length]; exact bindAll_len h, gNames_in R h2 h q⟩
  | _ => cases h
theorem TgIn.ad {K : PySem.W.Frag} {g : TG} {t : Tg} (h : TgIn K g t) : TgAd K g t := fun H w nx ρ ρ' σ d v Q R r e q => h H w nx ρ ρ' σ d v Q R r e fun σ' R' _ => q σ' R'

/-- nothing is raised out of a comprehension's block -/
def noX {α : Type} (r : R Xn α) : R Xn α := match r with
  | .exc _ _ => .no
  | r => r
/-- nothing -/
abbrev W0 : WX := fun _ _ _ _ => False
def lcL (t : Tg) (mt : Ev → M Bool) (me : Ev → M D) (ρ : Ev) : List D → M (List D)
  | [] => M.ret []
  | d :: ds => fun st => match bindT t d ρ with
    | none => .no
    | some ρ1 => (noX (mt ρ1 st)).bind fun b st => if b = true then (noX (me ρ1 st)).bind fun y st => (lcL t mt me ρ ds st).bind fun ys st => .ok (y :: ys) st else lcL t mt me ρ ds st
theorem lcL_nox {t : Tg} {mt : Ev → M Bool} {me : Ev → M D} {ρ : Ev} : ∀ (ds : List D) (st : Sto) (x : Xn) (s : Sto), lcL t mt me ρ ds st ≠ .exc x s
  | [], st, x, s => fun h => nomatch h
  | d :: ds, st, x, s => fun h => by
    unfold lcL at h
    split at h
    · exact nomatch h
    · rename_i ρ1 _
      cases qt : mt ρ1 st with
      | no => rw [qt] at h; exact nomatch h
      | exc _ _ => rw [qt] at h; exact nomatch h
      | ok b st1 =>
        rw [qt] at h
        cases b with
        | false => exact lcL_nox ds st1 x s h
        | true =>
          have h : (noX (me ρ1 st1)).bind (fun y st => (lcL t mt me ρ ds st).bind fun ys st => .ok (y :: ys) st) = .exc x s := h
          cases qe : me ρ1 st1 with
          | no => rw [qe] at h; exact nomatch h
          | exc _ _ => rw [qe] at h; exact nomatch h
          | ok y st2 =>
            rw [qe] at h
            have h : (lcL t mt me ρ ds st2).bind (fun ys st => .ok (y :: ys) st) = .exc x s := h
            cases ql : lcL t mt me ρ ds st2 with
            | no => rw [ql] at h; exact nomatch h
            | exc x' s' => exact lcL_nox ds st2 x' s' ql
            | ok ys st3 => rw [ql] at h; exact nomatch h
def lcEnd (acc : List D) (ys : List D) : M D := fun st => if (acc ++ ys).length < sizeLine then .ok (.lst (acc ++ ys)) st else .no
def evLc (mi : Ev → M (List D)) (t : Tg) (vs : List Nat) (mt : Ev → M Bool) (me : Ev → M D) : Ev → M D := fun ρ => (mi ρ).bind fun xs => (lcL t mt me (wipeE ρ vs) xs).bind (lcEnd [])
def Wd.drop (w : Wd) (p : Addr) : Wd := ⟨w.F, fun a => w.B a ∧ a ≠ p, w.φ⟩
section
variable {α : Type} {K : PySem.W.Frag} {E : XK} {H H1 : Hp} {w w1 : Wd} {nx n1 : Nat}
theorem Pst.rebase {r : R Xn α} {P : α → Wd → Sto → Hp → Prop} (h : Pst K E H w nx r P) (e : Ext H w nx H1 w1 n1) : Pst K E H1 w1 n1 r P := by
  cases r with
  | ok a st => exact fun w' H' e' S' => h w' H' (e.trans e') S'
  | exc x st => exact fun w' H' c d e' S' z => h w' H' c d (e.trans e') S' z
  | no => exact h
theorem drop_ext {p : Addr} {o : HO} (e : Ext H w nx H1 w1 n1) (nF : ¬ w1.F p) : Ext H (w.drop p) nx (upd H1 p o) (w1.drop p) n1 :=
  ⟨e.le, e.φ, fun a h => ⟨(e.F a h).1, by rw [upd_ne (show a ≠ p from fun z => nF (by rw [← z]; exact (e.F a h).1))]; exact (e.F a h).2⟩, fun a h => ⟨⟨(e.B a h.1).1, h.2⟩, by rw [upd_ne h.2]; exact (e.B a h.1).2⟩⟩
theorem drop_ext0 {p : Addr} (e : Ext H w nx H1 w1 n1) : Ext H (w.drop p) nx H1 (w1.drop p) n1 :=
  ⟨e.le, e.φ, e.F, fun a h => ⟨⟨(e.B a h.1).1, h.2⟩, (e.B a h.1).2⟩⟩
end
section
variable {X : Cx} {W : WX}
theorem pts_imp {ifs : List Expr} {t t' : TT} (h : PTs X ifs t) (q : ∀ σ H Q, t' σ H Q → t σ H Q) : PTs X ifs t' := ⟨fun pins s σ H Q I k => h.run pins s σ H Q I (q σ H Q k)⟩
theorem jts_nil : PTs X [] (cnT X.K W fun _ => M.ret true) := by
  refine pts_imp pts_nil fun σ H Q h => ?_
  obtain ⟨w, st, ρ, S, R, h⟩ := h
  exact h w H Ext.refl S
theorem jts_one {e : Expr} {m : Ev → M D} (h : PT X e (cnT X.K W (evT m))) : PTs X [e] (cnT X.K W (evT m)) := pts_one h
theorem ad_lc {K : PySem.W.Frag} {W : WX} {mi : Ev → M (List D)} {g : TG} {t : Tg} {vs : List Nat} {mt : Ev → M Bool} {me : Ev → M D} {σ : L2.St} {H : Hp} {Q : VK} (ta : TgIn K g t) (tv : ∀ i ∈ t.slots, i ∈ vs) (h : cnE K W (evLc mi t vs mt me) σ H Q) :
    tLc (cnI K W mi) g (cnT K W0 mt) (cnE K W0 me) vs σ H Q := by
  obtain ⟨w, st, ρ, S, R, h⟩ := h
  refine ⟨w, st, ρ, S, R, (Pst.bind h).mono fun xs w1 st1 H1 e1 S1 p J wk Dp hD => ?_⟩
  -- the list that grows is hidden
  have S2 : StOk K (upd H1 Dp (.lst [])) (w1.addB Dp) st1 := S1.hide hD (fun _ z => nomatch z)
  have e2 : Ext H1 w1 st1.next (upd H1 Dp (.lst [])) (w1.addB Dp) st1.next := ext_hide S1 hD
  have e2d : Ext H1 w1 st1.next (upd H1 Dp (.lst [])) ((w1.addB Dp).drop Dp) st1.next :=
    ⟨Nat.le_refl _, fun _ _ => rfl, e2.F, fun a z => ⟨⟨.inl z, fun y => S1.bn z (by rw [y]; exact hD)⟩, (e2.B a z).2⟩⟩
  refine ⟨fun i m H' => m + i = xs.length ∧ ∃ w' st' acc va, StOk K H' w' st' ∧ w'.B Dp ∧ H' Dp = some (.lst va) ∧ RelDs K H' w' st'.next acc va ∧ EvOk K H' w' st'.next (wipeE ρ vs) (L2.wipe σ vs) ∧ Walked K H' (w'.drop Dp) st'.next xs J ∧
      Pst K (fun c d H' => W c d σ H') H' (w'.drop Dp) st'.next ((lcL t mt me (wipeE ρ vs) (xs.drop i)).bind (lcEnd acc) st') (PV K Q),
    ⟨xs.length, Nat.add_zero _, _, st1, [], [], S2, .inr rfl, upd_same, rfl, wipe_ok ((R.mono e1).mono e2) vs, wk.mono e2d, Pst.rebase p e2d⟩, ?_⟩
  rintro i m H3 ⟨hm, w3, st3, acc, va, S3, b3, a3, r3, R3, wk3, p3⟩
  have ed3 : Ext H3 (w3.drop Dp) st3.next H3 w3 st3.next := ⟨Nat.le_refl _, fun _ _ => rfl, fun a h => ⟨h, rfl⟩, fun a h => ⟨h.1, rfl⟩⟩
  by_cases hi : i < xs.length
  · refine .inr ⟨wk3.go H3 w3 _ ed3 i hi, fun H' => i + 1 ≤ xs.length ∧ ∃ w' st' acc va, StOk K H' w' st' ∧ w'.B Dp ∧ H' Dp = some (.lst va) ∧ RelDs K H' w' st'.next acc va ∧ EvOk K H' w' st'.next (wipeE ρ vs) (L2.wipe σ vs) ∧ Walked K H' (w'.drop Dp) st'.next xs J ∧
      Pst K (fun c d H' => W c d σ H') H' (w'.drop Dp) st'.next ((lcL t mt me (wipeE ρ vs) (xs.drop (i + 1))).bind (lcEnd acc) st') (PV K Q), fun H' n => ⟨m - 1, by omega, by omega, n.2⟩, fun x H4 y => ?_⟩
    obtain ⟨w4, d, gd, e4, S4, r4⟩ := wk3.yld H3 w3 st3 ed3 S3 i x H4 hi y
    have ed : xs[i] = d := by rw [List.getElem?_eq_getElem hi] at gd; exact Option.some.inj gd
    rw [List.drop_eq_getElem_cons hi, ed] at p3
    have p3 : Pst K (fun c d H' => W c d σ H') H3 (w3.drop Dp) st3.next (((match bindT t d (wipeE ρ vs) with
      | none => .no
      | some ρ1 => (noX (mt ρ1 st3)).bind fun b st => if b = true then (noX (me ρ1 st)).bind fun y st => (lcL t mt me (wipeE ρ vs) (xs.drop (i + 1)) st).bind fun ys st => .ok (y :: ys) st else lcL t mt me (wipeE ρ vs) (xs.drop (i + 1)) st) : Mp.R Xn (List D)).bind (lcEnd acc)) (PV K Q) := p3
    cases qb : bindT t d (wipeE ρ vs) with
    | none => rw [qb] at p3; exact p3.elim
    | some ρ1 =>
      rw [qb] at p3
      refine ta H4 w4 st3.next _ ρ1 _ d x _ (R3.mono e4) r4 qb fun σ5 R5 z5 => ⟨(z5 vs tv).trans (wipe_wipe fun _ h => h), w4, st3, ρ1, S4, R5, ?_⟩
      have p4 := Pst.rebase p3 (drop_ext0 e4)
      have b4 : w4.B Dp ∧ H4 Dp = some (.lst va) := ⟨(e4.B Dp b3).1, (e4.B Dp b3).2.trans a3⟩
      dsimp only at p4
      cases qt : mt ρ1 st3 with
      | no => rw [qt] at p4; exact p4
      | exc x5 s5 => rw [qt] at p4; exact p4.elim
      | ok b st6 =>
        rw [qt] at p4
        intro w6 H6 e6 S6
        have p6 := Pst.rebase p4 (drop_ext0 e6)
        have b6 : w6.B Dp ∧ H6 Dp = some (.lst va) := ⟨(e6.B Dp b4.1).1, (e6.B Dp b4.1).2.trans b4.2⟩
        cases b with
        | false => exact ⟨hi, w6, st6, acc, va, S6, b6.1, b6.2, ((r3.mono e4).mono e6), ((R3.mono e4).mono e6), (wk3.mono (drop_ext0 e4)).mono (drop_ext0 e6), p6⟩
        | true =>
          refine ⟨w6, st6, ρ1, S6, R5.mono e6, ?_⟩
          have p6 : Pst K (fun c d H' => W c d σ H') H6 (w6.drop Dp) st6.next (((noX (me ρ1 st6)).bind fun y st => (lcL t mt me (wipeE ρ vs) (xs.drop (i + 1)) st).bind fun ys st => .ok (y :: ys) st).bind (lcEnd acc)) (PV K Q) := p6
          cases qe : me ρ1 st6 with
          | no => rw [qe] at p6; exact p6
          | exc x5 s5 => rw [qe] at p6; exact p6.elim
          | ok y st7 =>
            rw [qe] at p6
            intro w7 H7 e7 S7 v rv
            have b7 : w7.B Dp ∧ H7 Dp = some (.lst va) := ⟨(e7.B Dp b6.1).1, (e7.B Dp b6.1).2.trans b6.2⟩
            have nF : ∀ a, w7.B a → ¬ w7.F a := fun a z => (S7.bz a z).2.1
            have p7 : Pst K (fun c d H' => W c d σ H') H6 (w6.drop Dp) st6.next ((lcL t mt me (wipeE ρ vs) (xs.drop (i + 1))).bind (lcEnd (acc ++ [y])) st7) (PV K Q) := by
              have e : ((lcL t mt me (wipeE ρ vs) (xs.drop (i + 1)) st7).bind fun ys st => .ok (y :: ys) st).bind (lcEnd acc) = (lcL t mt me (wipeE ρ vs) (xs.drop (i + 1))).bind (lcEnd (acc ++ [y])) st7 := by
                show _ = (lcL t mt me (wipeE ρ vs) (xs.drop (i + 1)) st7).bind (lcEnd (acc ++ [y]))
                cases lcL t mt me (wipeE ρ vs) (xs.drop (i + 1)) st7 with
                | no => rfl
                | exc _ _ => rfl
                | ok ys s =>
                  show lcEnd acc (y :: ys) s = lcEnd (acc ++ [y]) ys s
                  unfold lcEnd
                  rw [List.append_assoc]
                  rfl
              rw [← e]
              exact p6
            have len : va.length < sizeLine := by
              have q : ∀ ys s, lcL t mt me (wipeE ρ vs) (xs.drop (i + 1)) st7 = .ok ys s → (acc ++ [y] ++ ys).length < sizeLine := fun ys s q => by
                have z : Pst K (fun c d H' => W c d σ H') H6 (w6.drop Dp) st6.next ((lcL t mt me (wipeE ρ vs) (xs.drop (i + 1)) st7).bind (lcEnd (acc ++ [y]))) (PV K Q) := p7
                rw [q] at z
                have z : Pst K (fun c d H' => W c d σ H') H6 (w6.drop Dp) st6.next (if (acc ++ [y] ++ ys).length < sizeLine then .ok (.lst (acc ++ [y] ++ ys)) s else .no) (PV K Q) := z
                split at z
                · assumption
                · exact z.elim
              cases ql : lcL t mt me (wipeE ρ vs) (xs.drop (i + 1)) st7 with
              | ok ys s =>
                have := q ys s ql
                simp only [List.length_append] at this
                rw [← r3.length]
                omega
              | no =>
                have z : Pst K (fun c d H' => W c d σ H') H6 (w6.drop Dp) st6.next ((lcL t mt me (wipeE ρ vs) (xs.drop (i + 1)) st7).bind (lcEnd (acc ++ [y]))) (PV K Q) := p7
                rw [ql] at z
                exact z.elim
              | exc _ _ => exact absurd ql (lcL_nox _ _ _ _)
            refine ⟨va, b7.2, len, hi, w7, st7, acc ++ [y], va ++ [v], S7.hid b7.1 (fun _ z => nomatch z), b7.1, upd_same, ?_, ?_, ?_, Pst.rebase p7 (drop_ext e7 (nF Dp b7.1))⟩
            · have r7 := ((r3.mono e4).mono e6).mono e7
              refine (r7.append (es := [y]) (us := [v]) ?_).hid nF b7.1
              unfold RelDs
              exact ⟨v, [], rfl, rv, rfl⟩
            · have R7 := ((R3.mono e4).mono e6).mono e7
              exact ⟨R7.len, fun j d q => let ⟨u, z1, z2⟩ := R7.at_ j d q; ⟨u, z1, z2.hid nF b7.1⟩⟩
            · exact ((wk3.mono (drop_ext0 e4)).mono (drop_ext0 e6)).mono (drop_ext e7 (nF Dp b7.1))
  · refine .inl ⟨wk3.stop H3 w3 _ ed3 i (by omega), ?_⟩
    rw [List.drop_of_length_le (by omega)] at p3
    have p3 : Pst K (fun c d H' => W c d σ H') H3 (w3.drop Dp) st3.next (lcEnd acc [] st3) (PV K Q) := p3
    unfold lcEnd at p3
    split at p3
    · rw [List.append_nil] at p3
      refine p3 (w3.show Dp) H3 ⟨Nat.le_refl _, fun _ _ => rfl, fun a h => ⟨.inl h, rfl⟩, fun a h => ⟨h, rfl⟩⟩ (S3.show_ b3) (.ref Dp) ?_
      unfold RelD
      exact ⟨Dp, va, rfl, .inr rfl, a3, r3.show_⟩
    · exact p3.elim
theorem je_lc {elt iter tg : Expr} {ifs : List Expr} {scope : Scope} {own : List (Str × Nat)} {pos : Pos} {mi : Ev → M (List D)} {g : TG} {t : Tg} {mt : Ev → M Bool} {me : Ev → M D} (hc : X.calm = true) (hN : X.N.Nodup) (hi : PI X tg iter (cnI X.K W mi)) (ok : BlkOk X.N X.env.scope scope own)
    (hg : ∀ (s : Shared) (H : Hp) (C : Addr) (cl : List (Str × Addr)) (fp : List Addr), PG (X.blk s H scope (compEnvC scope cl C X.env) fp) tg g) (ht : ∀ (s : Shared) (H : Hp) (C : Addr) (cl : List (Str × Addr)) (fp : List Addr), PTs (X.blk s H scope (compEnvC scope cl C X.env) fp) ifs (cnT X.K W0 mt))
    (he : ∀ (s : Shared) (H : Hp) (C : Addr) (cl : List (Str × Addr)) (fp : List Addr), PE (X.blk s H scope (compEnvC scope cl C X.env) fp) elt (cnE X.K W0 me)) (hs : ∀ x, foldedSetIterable iter X.env x = pure x) (ta : TgIn X.K g t) (tv : ∀ i ∈ t.slots, i ∈ own.map (·.2)) :
    PE X (.ListComp elt [⟨tg, iter, ifs, 0⟩] scope pos) (cnE X.K W (evLc mi t (own.map (·.2)) mt me)) :=
  pe_imp (pe_lc hc hN hi ok hg ht he hs) fun _ _ _ h => ad_lc ta tv h
theorem js_setLc {i : Nat} {y : Str} {py spos : Pos} {elt iter tg : Expr} {ifs : List Expr} {scope : Scope} {own : List (Str × Nat)} {pos : Pos} {mi : Ev → M (List D)} {g : TG} {t : Tg} {mt : Ev → M Bool} {me : Ev → M D} (hc : X.calm = true) (hN : X.N.Nodup) (hy : X.N[i]? = some y) (hyl : X.env.scope.names.lookup y = some .local)
    (hsw : swapsWith (.ListComp elt [⟨tg, iter, ifs, 0⟩] scope pos) (some (.Name y py)) spos.line X.env = pure true) (hi : PI X tg iter (cnI X.K W mi)) (ok : BlkOk X.N X.env.scope scope own)
    (hg : ∀ (s : Shared) (H : Hp) (C : Addr) (cl : List (Str × Addr)) (fp : List Addr), PG (X.blk s H scope (compEnvC scope cl C X.env) fp) tg g) (ht : ∀ (s : Shared) (H : Hp) (C : Addr) (cl : List (Str × Addr)) (fp : List Addr), PTs (X.blk s H scope (compEnvC scope cl C X.env) fp) ifs (cnT X.K W0 mt))
    (he : ∀ (s : Shared) (H : Hp) (C : Addr) (cl : List (Str × Addr)) (fp : List Addr), PE (X.blk s H scope (compEnvC scope cl C X.env) fp) elt (cnE X.K W0 me)) (hs : ∀ x, foldedSetIterable iter X.env x = pure x) (ta : TgIn X.K g t) (tv : ∀ i ∈ t.slots, i ∈ own.map (·.2)) :
    PS X (.Assign [.Name y py] (.ListComp elt [⟨tg, iter, ifs, 0⟩] scope pos) spos) (cnS X.K W (sAsg i (evLc mi t (own.map (·.2)) mt me))) := by
  refine ps_imp (ps_setLc hc hN hy hyl hsw hi ok hg ht he hs) fun E σ H h => ?_
  obtain ⟨w, st, ρ, S, R, h⟩ := h
  exact ad_lc ta tv (cs_seq (ma := evLc mi t (own.map (·.2)) mt me) S R h fun d v w1 st1 H1 e1 S1 R1 rd h1 => h1 w1 H1 Ext.refl S1 _ (R1.set rd i))
end

def Wd.unF (w : Wd) (p : Addr) : Wd := ⟨fun a => w.F a ∧ a ≠ p, w.B, w.φ⟩
/-- no value -/
def DictO (o : HO) : Prop := (∃ ob l, o = .frz ob (.dK l)) ∨ ∃ ob l, o = .frz ob (.dT l)
section
variable {K : PySem.W.Frag} {H : Hp} {w : Wd} {nx : Nat} {p : Addr} {u o : HO}
mutual
theorem RelD.unlock (hp : H p = some u) (hu : DictO u) : ∀ {d : D} {v : V}, RelD K H w nx d v → RelD K (upd H p o) (w.unF p) nx d v
  | .non, _, h => h
  | .bl _, _, h => h
  | .int _, _, h => h
  | .str _, _, h => h
  | .tup ds, v, h => by
    unfold RelD at h ⊢
    obtain ⟨a, vs, rfl, h1, h2⟩ := h
    refine ⟨a, vs, rfl, ?_, RelDs.unlock hp hu h2⟩
    rcases h1 with ⟨f, q⟩ | q
    · have ne : a ≠ p := fun z => by
        rw [z, hp] at q
        cases q
        rcases hu with ⟨_, _, y⟩ | ⟨_, _, y⟩ <;> cases y
      exact .inl ⟨⟨f, ne⟩, by rw [upd_ne ne]; exact q⟩
    · exact .inr q
  | .lst ds, v, h => by
    unfold RelD at h ⊢
    obtain ⟨a, vs, rfl, f, q, h2⟩ := h
    have ne : a ≠ p := fun z => by
      rw [z, hp] at q
      cases q
      rcases hu with ⟨_, _, y⟩ | ⟨_, _, y⟩ <;> cases y
    exact ⟨a, vs, rfl, ⟨f, ne⟩, by rw [upd_ne ne]; exact q, RelDs.unlock hp hu h2⟩
  | .scr ns, v, h => by
    unfold RelD at h ⊢
    obtain ⟨a, rfl, h⟩ := h
    refine ⟨a, rfl, ?_⟩
    rcases h with ⟨ob, f, q⟩ | h
    · have ne : a ≠ p := fun z => by
        rw [z, hp] at q
        cases q
        rcases hu with ⟨_, _, y⟩ | ⟨_, _, y⟩ <;> cases y
      exact .inl ⟨ob, ⟨f, ne⟩, by rw [upd_ne ne]; exact q⟩
    · exact .inr h
  | .loc n, v, h => h
theorem RelDs.unlock (hp : H p = some u) (hu : DictO u) : ∀ {ds : List D} {vs : List V}, RelDs K H w nx ds vs → RelDs K (upd H p o) (w.unF p) nx ds vs
  | [], _, h => h
  | d :: ds, vs, h => by
    unfold RelDs at h ⊢
    obtain ⟨v, r, rfl, h1, h2⟩ := h
    exact ⟨v, r, rfl, RelD.unlock hp hu h1, RelDs.unlock hp hu h2⟩
end
theorem RelKV.unlock {κ : Type} (hp : H p = some u) (hu : DictO u) : ∀ {kvs : List (κ × D)} {l : List (κ × V)}, RelKV K H w nx kvs l → RelKV K (upd H p o) (w.unF p) nx kvs l
  | [], _, h => h
  | (k, d) :: r, _, h => by
    obtain ⟨v, l', rfl, h2, h3⟩ := h
    exact ⟨v, l', rfl, h2.unlock hp hu, RelKV.unlock hp hu h3⟩
theorem RelF.unlock (hp : H p = some u) (hu : DictO u) : ∀ {fs : List (Str × D)} {l : List (Str × V)}, RelF K H w nx fs l → RelF K (upd H p o) (w.unF p) nx fs l
  | [], _, h => h
  | (x, d) :: r, _, h => by
    obtain ⟨v, l', rfl, h2, h3⟩ := h
    exact ⟨v, l', rfl, h2.unlock hp hu, RelF.unlock hp hu h3⟩
theorem RelO.unlock (hp : H p = some u) (hu : DictO u) : ∀ {c : O} {ho : HO}, RelO K H w nx c ho → RelO K (upd H p o) (w.unF p) nx c ho
  | .lst ds, _, h => let ⟨vs, e, h⟩ := h; ⟨vs, e, h.unlock hp hu⟩
  | .dk kvs, _, h => let ⟨l, e, h⟩ := h; ⟨l, e, h.unlock hp hu⟩
  | .dt kvs, _, h => let ⟨l, e, h⟩ := h; ⟨l, e, h.unlock hp hu⟩
  | .ins c fs, _, h => let ⟨dx, l, e, h⟩ := h; ⟨dx, l, e, h.unlock hp hu⟩
  | .fdk kvs, _, h => let ⟨ob, l, e, h⟩ := h; ⟨ob, l, e, h.unlock hp hu⟩
  | .fdt kvs, _, h => let ⟨ob, l, e, h⟩ := h; ⟨ob, l, e, h.unlock hp hu⟩
end
/-- the store's dict, locked and not -/
def lockO : O → Option O
  | .dk kvs => some (.fdk kvs)
  | .dt kvs => some (.fdt kvs)
  | _ => none
def unlockO : O → Option O
  | .fdk kvs => some (.dk kvs)
  | .fdt kvs => some (.dt kvs)
  | _ => none
/-- what a locked dict's object is, and the free one -/
inductive LockH : HO → HO → Prop
  | k (ob : Obj) (l : List (Key × V)) : LockH (.frz ob (.dK l)) (.dK l)
  | t (ob : Obj) (l : List (List Key × V)) : LockH (.frz ob (.dT l)) (.dT l)
section
variable {K : PySem.W.Frag} {H : Hp} {w : Wd} {st : Sto} {n : Nat}
theorem StOk.lock {c c' : O} (S : StOk K H w st) (g : st.get n = some c) (lk : lockO c = some c') : ∃ u, H (w.φ n) = some u ∧ L2.Mut (some u) ∧ ∀ od, Ext H w st.next (upd H (w.φ n) (.frz od u)) (w.addF (w.φ n)) st.next ∧ StOk K (upd H (w.φ n) (.frz od u)) (w.addF (w.φ n)) (st.set n c') ∧ LockH (.frz od u) u := by
  have hl : c.lk = false := by cases c <;> first | rfl | cases lk
  have nF := S.noF g hl
  obtain ⟨hn, _, u, h1, h2⟩ := S.cell n c g
  have hu : L2.Mut (some u) ∧ (∀ od, LockH (.frz od u) u) ∧ c'.lk = true ∧ ∀ (H' : Hp) (w' : Wd) (nx' : Nat) od, RelO K H' w' nx' c u → RelO K H' w' nx' c' (.frz od u) := by
    cases c with
    | dk kvs =>
      cases lk
      obtain ⟨l, rfl, h2⟩ := h2
      exact ⟨trivial, fun od => .k od l, rfl, fun H' w' nx' od r => let ⟨l, e, r⟩ := r; ⟨od, l, by rw [e], r⟩⟩
    | dt kvs =>
      cases lk
      obtain ⟨l, rfl, h2⟩ := h2
      exact ⟨trivial, fun od => .t od l, rfl, fun H' w' nx' od r => let ⟨l, e, r⟩ := r; ⟨od, l, by rw [e], r⟩⟩
    | _ => cases lk
  obtain ⟨mu, lh, lk1, conv⟩ := hu
  refine ⟨u, h1, mu, fun od => ?_⟩
  have e : Ext H w st.next (upd H (w.φ n) (.frz od u)) (w.addF (w.φ n)) st.next :=
    ⟨Nat.le_refl _, fun _ _ => rfl, fun a h => ⟨.inl h, upd_ne fun z => nF (z ▸ h)⟩, fun a h => ⟨h, upd_ne fun z => (S.bz a h).2.2 n hn z.symm⟩⟩
  refine ⟨e, ⟨S.inj, fun m hm => ?_, fun m ob z => ?_, fun a h => ?_, fun a h => ?_⟩, lh od⟩
  · show upd H (w.φ n) (.frz od u) (w.φ m) ≠ none
    by_cases h : w.φ m = w.φ n
    · rw [h, upd_same]; simp
    · rw [upd_ne h]; exact S.used m hm
  · rcases lookup_setC (show (setC n c' st.cells).lookup m = some ob from z) with ⟨rfl, rfl⟩ | ⟨h0, z⟩
    · exact ⟨hn, ⟨fun _ => lk1, fun _ => .inr rfl⟩, _, upd_same, (conv _ _ _ od (h2.mono e))⟩
    · obtain ⟨k1, k2, ho', k3, k4⟩ := S.cell m ob z
      have ne : w.φ m ≠ w.φ n := fun y => h0 (S.inj m n k1 hn y)
      refine ⟨k1, ⟨fun y => y.elim k2.1 fun y => absurd y ne, fun y => .inl (k2.2 y)⟩, ho', ?_, k4.mono e⟩
      show upd H (w.φ n) (.frz od u) (w.φ m) = some ho'
      rw [upd_ne ne]
      exact k3
  · rcases h with h | h
    · rw [upd_ne (show a ≠ w.φ n from fun z => nF (z ▸ h))]; exact S.fz a h
    · rw [h, upd_same]; simp
  · obtain ⟨b1, b2, b3⟩ := S.bz a h
    exact ⟨by rw [upd_ne (show a ≠ w.φ n from fun z => b3 n hn z.symm)]; exact b1, fun z => z.elim b2 fun y => b3 n hn y.symm, b3⟩
theorem StOk.unlock {c c' : O} {u u' : HO} (S : StOk K H w st) (g : st.get n = some c) (lk : unlockO c = some c') (h : H (w.φ n) = some u) (lh : LockH u u') : StOk K (upd H (w.φ n) u') (w.unF (w.φ n)) (st.set n c') := by
  have hu : DictO u := by
    cases lh with
    | k ob l => exact .inl ⟨ob, l, rfl⟩
    | t ob l => exact .inr ⟨ob, l, rfl⟩
  obtain ⟨hn, fl, u0, h1, h2⟩ := S.cell n c g
  rw [h] at h1
  cases h1
  have conv : RelO K H w st.next c' u' ∧ c'.lk = false := by
    cases c with
    | fdk kvs =>
      cases lk
      obtain ⟨ob, l, rfl, r⟩ := h2
      cases lh
      exact ⟨⟨l, rfl, r⟩, rfl⟩
    | fdt kvs =>
      cases lk
      obtain ⟨ob, l, rfl, r⟩ := h2
      cases lh
      exact ⟨⟨l, rfl, r⟩, rfl⟩
    | _ => cases lk
  refine ⟨S.inj, fun m hm => ?_, fun m ob z => ?_, fun a y => ?_, fun a y => ?_⟩
  · show upd H (w.φ n) u' (w.φ m) ≠ none
    by_cases y : w.φ m = w.φ n
    · rw [y, upd_same]; simp
    · rw [upd_ne y]; exact S.used m hm
  · rcases lookup_setC (show (setC n c' st.cells).lookup m = some ob from z) with ⟨rfl, rfl⟩ | ⟨h0, z⟩
    · exact ⟨hn, ⟨fun y => absurd rfl y.2, fun y => by rw [conv.2] at y; exact nomatch y⟩, _, upd_same, conv.1.unlock h hu⟩
    · obtain ⟨k1, k2, ho', k3, k4⟩ := S.cell m ob z
      have ne : w.φ m ≠ w.φ n := fun y => h0 (S.inj m n k1 hn y)
      refine ⟨k1, ⟨fun y => k2.1 y.1, fun y => ⟨k2.2 y, ne⟩⟩, ho', ?_, k4.unlock h hu⟩
      show upd H (w.φ n) u' (w.φ m) = some ho'
      rw [upd_ne ne]
      exact k3
  · rw [upd_ne y.2]; exact S.fz a y.1
  · obtain ⟨b1, b2, b3⟩ := S.bz a y
    exact ⟨by rw [upd_ne (show a ≠ w.φ n from fun z => b3 n hn z.symm)]; exact b1, fun z => b2 z.1, b3⟩
end
/-- md tells the dict; m runs while it is locked -/
def lockEnd (n : Nat) (d : D) : M D := fun st => match st.get n with
  | some c => (match unlockO c with
    | some c' => .ok d (st.set n c')
    | none => .no)
  | none => .no
def lockAt (ρ : Ev) (i : Nat) (st : Sto) : Option (Nat × O) := match ρ[i]? with
  | some (some (.loc n)) => (match st.get n with
    | some c => (lockO c).map fun c' => (n, c')
    | none => none)
  | _ => none
def evLock (i : Nat) (m : Ev → M D) : Ev → M D := fun ρ st => match lockAt ρ i st with
  | some (n, c') => (noX (m ρ (st.set n c'))).bind (lockEnd n)
  | none => .no
section
variable {X : Cx} {W : WX}
theorem je_lock {e : Expr} {i : Nat} {m : Ev → M D} (he : PE X e (cnE X.K W m)) : PE X e (cnE X.K W (evLock i m)) := by
  refine pe_imp (pe_lock he) fun σ H Q h => ?_
  obtain ⟨w, st, ρ, S, R, h⟩ := h
  unfold evLock at h
  cases ql : lockAt ρ i st with
  | none => rw [ql] at h; exact h.elim
  | some nc =>
    obtain ⟨n, c'⟩ := nc
    rw [ql] at h
    have g : ∃ c, st.get n = some c ∧ lockO c = some c' := by
      unfold lockAt at ql
      split at ql
      · split at ql
        · rename_i c q
          obtain ⟨c2, z, y⟩ := Option.map_eq_some_iff.mp ql
          cases y
          exact ⟨c, q, z⟩
        · cases ql
      · cases ql
    obtain ⟨c, g, lk⟩ := g
    obtain ⟨u, h1, mu, all⟩ := S.lock g lk
    refine ⟨w.φ n, u, h1, mu, fun od => ?_⟩
    obtain ⟨e1, S1, lh⟩ := all od
    refine ⟨_, st.set n c', ρ, S1, R.mono e1, ?_⟩
    have nF : ¬ w.F (w.φ n) := S.noF g (by cases c <;> first | rfl | cases lk)
    have h : Pst X.K (fun c d H' => W c d σ H') H w st.next ((noX (m ρ (st.set n c'))).bind (lockEnd n)) (PV X.K Q) := h
    cases q : m ρ (st.set n c') with
    | no => rw [q] at h; exact h
    | exc _ _ => rw [q] at h; exact h.elim
    | ok d st2 =>
      rw [q] at h
      intro w2 H2 e2 S2 v rv
      have hn : n < st.next := (S.cell n c g).1
      have f2 : w2.φ n = w.φ n := e2.φ n hn
      have F1 : (w.addF (w.φ n)).F (w.φ n) := .inr rfl
      have hd : H2 (w.φ n) = some (.frz od u) := (e2.F _ F1).2.trans upd_same
      refine ⟨hd, ?_⟩
      have h : Pst X.K (fun c d H' => W c d σ H') H w st.next (lockEnd n d st2) (PV X.K Q) := h
      unfold lockEnd at h
      split at h
      · rename_i c2 g2
        split at h
        · rename_i c3 lk2
          have hd2 : H2 (w2.φ n) = some (.frz od u) := by rw [f2]; exact hd
          have S3 := S2.unlock g2 lk2 hd2 lh
          rw [f2] at S3
          refine h (w2.unF (w.φ n)) _ ?_ S3 v ?_
          · refine ⟨Nat.le_trans (Nat.le_refl _) e2.le, fun k hk => e2.φ k hk, fun a z => ?_, fun a z => ?_⟩
            · have ne : a ≠ w.φ n := fun y => nF (y ▸ z)
              exact ⟨⟨(e2.F a (.inl z)).1, ne⟩, by rw [upd_ne ne, (e2.F a (.inl z)).2, upd_ne ne]⟩
            · have ne : a ≠ w.φ n := fun y => (S.bz a z).2.2 n hn y.symm
              exact ⟨(e2.B a z).1, by rw [upd_ne ne, (e2.B a z).2, upd_ne ne]⟩
          · have du : DictO (.frz od u) := by
              cases lh with
              | k ob l => exact .inl ⟨od, l, rfl⟩
              | t ob l => exact .inr ⟨od, l, rfl⟩
            exact rv.unlock hd du
        · exact h.elim
      · exact h.elim
end
end Mp
namespace Mp
open PySem PySem.Spec PyProof.Rows L2

section
variable {X : Cx} {W : WX}
/-- a test of a if t else b -/
theorem pt_ifE {t a b : Expr} {tt ta tb : TT} {pos : Pos} (ht : PT X t tt) (ha : PT X a ta) (hb : PT X b tb) : PT X (.IfExp t a b pos) (fun σ H Q => tt σ H fun c H1 => if c = true then ta σ H1 Q else tb σ H1 Q) := by
  refine ⟨fun pins s σ H Q I h => ?_⟩
  show wpAny (model X.prog X.w) X.A (do if ← isTrue t X.env (eval t X.env) then isTrue a X.env (eval a X.env) else isTrue b X.env (eval b X.env)) _ _ _
  refine wpAny_bind (thn (ht.run pins s σ H _ I h) fun d s1 ⟨H1, I1, q1⟩ => ?_)
  cases d with
  | true => exact ha.run pins s1 σ H1 Q I1 q1
  | false => exact hb.run pins s1 σ H1 Q I1 q1
theorem evT_if (mt ma mb : Ev → M D) (ρ : Ev) : evT (evIf mt ma mb) ρ = (evT mt ρ).bind fun b => if b = true then evT ma ρ else evT mb ρ := by
  funext st
  show ((evT mt ρ st).bind fun b => (if b = true then ma ρ else mb ρ : M D)).bind tru = (evT mt ρ st).bind fun b => (if b = true then evT ma ρ else evT mb ρ : M Bool)
  cases evT mt ρ st with
  | no => rfl
  | exc _ _ => rfl
  | ok b st1 => cases b <;> rfl
theorem jt_if {mt ma mb : Ev → M D} {t a b : Expr} {pos : Pos} (ht : PT X t (cnT X.K W (evT mt))) (ha : PT X a (cnT X.K W (evT ma))) (hb : PT X b (cnT X.K W (evT mb))) : PT X (.IfExp t a b pos) (cnT X.K W (evT (evIf mt ma mb))) := by
  refine pt_imp (pt_ifE ht ha hb) fun σ H Q h => ?_
  obtain ⟨w, st, ρ, S, R, h⟩ := h
  rw [evT_if] at h
  refine ct_seq S R h fun b w1 st1 H1 e1 S1 R1 h1 => ?_
  cases b with
  | true => exact ⟨w1, st1, ρ, S1, R1, h1⟩
  | false => exact ⟨w1, st1, ρ, S1, R1, h1⟩

def evCh (f g : D → D → M D) (ma mb mc : Ev → M D) : Ev → M D := fun ρ => (ma ρ).bind fun x => (mb ρ).bind fun y => (f x y).bind fun z => match z with
  | .bl true => (mc ρ).bind fun u => g y u
  | .bl false => M.ret (.bl false)
  | _ => M.no
theorem ad_chain {K : PySem.W.Frag} {r r' : R2} {f g : D → D → M D} {ma mb mc : Ev → M D} {σ : L2.St} {H : Hp} {Q : VK} (a : OpAd K r f) (a' : OpAd K r' g) (h : cnE K W (evCh f g ma mb mc) σ H Q) : tChain r r' (cnE K W ma) (cnE K W mb) (cnE K W mc) σ H Q := by
  obtain ⟨w, st, ρ, S, R, h⟩ := h
  refine cn_seq S R h fun x v w1 st1 H1 e1 S1 R1 rx h1 => ?_
  refine cn_seq S1 R1 h1 fun y u w2 st2 H2 e2 S2 R2 ry h2 => ?_
  refine a _ H2 w2 st2 x y v u _ S2 (rx.mono e2) ry ((Pst.bind h2).mono fun z w3 st3 H3 e3 S3 h3 q rq => ?_)
  cases z with
  | bl b =>
    cases rq
    refine ⟨b, rfl, ?_⟩
    cases b with
    | true =>
      refine cn_seq S3 (R2.mono e3) h3 fun k t w4 st4 H4 e4 S4 R4 rk h4 => ?_
      exact a' _ H4 w4 st4 y k u t Q S4 ((ry.mono e3).mono e4) rk h4
    | false => exact h3 w3 H3 Ext.refl S3 _ rfl
  | _ => exact h3.elim
/-- results are truths -/
def Truths (f : D → D → M D) : Prop := ∀ x y st d st', f x y st = .ok d st' → ∃ b, d = .bl b
theorem je_chain {op op' : CmpOp} {r r' : R2} {f g : D → D → M D} {ma mb mc : Ev → M D} {a b c : Expr} {pos : Pos} (ho : OpR X (compareOp op) r) (ho' : OpR X (compareOp op') r') (ad : OpAd X.K r f) (ad' : OpAd X.K r' g) (ha : PE X a (cnE X.K W ma)) (hb : PE X b (cnE X.K W mb)) (hc : PE X c (cnE X.K W mc)) (hm : lastMarks [op, op'] [b, c] = false) :
    PE X (.Compare a [op, op'] [b, c] pos) (cnE X.K W (evCh f g ma mb mc)) := pe_imp (pe_chain ho ho' ha hb hc hm) fun _ _ _ h => ad_chain ad ad' h
/-- a test whose value is a truth -/
theorem ct_truth {K : PySem.W.Frag} {m : Ev → M D} {σ : L2.St} {H : Hp} {Q : Bool → Hp → Prop} (key : ∀ ρ st d st', m ρ st = .ok d st' → ∃ b, d = .bl b) (h : cnT K W (evT m) σ H Q) : cnE K W m σ H fun x H' => ∃ k, x = .bl k ∧ Q k H' := by
  obtain ⟨w, st, ρ, S, R, h⟩ := h
  have h := Pst.bind h
  refine ⟨w, st, ρ, S, R, ?_⟩
  cases q : m ρ st with
  | ok d st' =>
    obtain ⟨b, rfl⟩ := key ρ st d st' q
    rw [q] at h
    intro w' H' e' S' v r
    cases r
    exact ⟨b, rfl, (tru_ex1 (h w' H' e' S') S').elim fun b' z => by cases z.1; exact z.2⟩
  | exc x st' => rw [q] at h; exact h
  | no => rw [q] at h; exact h
theorem jt_chain {op op' : CmpOp} {r r' : R2} {f g : D → D → M D} {ma mb mc : Ev → M D} {a b c : Expr} {pos : Pos} (ho : OpR X (compareOp op) r) (ho' : OpR X (compareOp op') r') (ad : OpAd X.K r f) (ad' : OpAd X.K r' g) (tg : Truths g) (ha : PE X a (cnE X.K W ma)) (hb : PE X b (cnE X.K W mb)) (hc : PE X c (cnE X.K W mc)) (hm : lastMarks [op, op'] [b, c] = false) :
    PT X (.Compare a [op, op'] [b, c] pos) (cnT X.K W (evT (evCh f g ma mb mc))) := by
  refine pt_imp (pt_chain ho ho' ha hb hc hm) fun σ H Q h => ad_chain (Q := fun x H' => ∃ k, x = .bl k ∧ Q k H') ad ad' (ct_truth (fun ρ st d st' q => ?_) h)
  have q : ((ma ρ st).bind fun x => (mb ρ).bind fun y => (f x y).bind fun z => (match z with
    | .bl true => (mc ρ).bind fun u => g y u
    | .bl false => M.ret (.bl false)
    | _ => M.no : M D)) = .ok d st' := q
  cases h1 : ma ρ st with
  | no => rw [h1] at q; cases q
  | exc _ _ => rw [h1] at q; cases q
  | ok x s1 =>
    rw [h1] at q
    have q : ((mb ρ s1).bind fun y => (f x y).bind fun z => (match z with
      | .bl true => (mc ρ).bind fun u => g y u
      | .bl false => M.ret (.bl false)
      | _ => M.no : M D)) = .ok d st' := q
    cases h2 : mb ρ s1 with
    | no => rw [h2] at q; cases q
    | exc _ _ => rw [h2] at q; cases q
    | ok y s2 =>
      rw [h2] at q
      have q : ((f x y s2).bind fun z => (match z with
        | .bl true => (mc ρ).bind fun u => g y u
        | .bl false => M.ret (.bl false)
        | _ => M.no : M D)) = .ok d st' := q
      cases h3 : f x y s2 with
      | no => rw [h3] at q; cases q
      | exc _ _ => rw [h3] at q; cases q
      | ok z s3 =>
        rw [h3] at q
        cases z with
        | bl b =>
          cases b with
          | false => cases q; exact ⟨_, rfl⟩
          | true =>
            have q : ((mc ρ s3).bind fun u => g y u) = .ok d st' := q
            cases h4 : mc ρ s3 with
            | no => rw [h4] at q; cases q
            | exc _ _ => rw [h4] at q; cases q
            | ok u s4 =>
              rw [h4] at q
              exact tg _ _ _ _ _ q
        | _ => cases q

def sPar (is : List Nat) (ms : Ev → M (List D)) : SM := fun ρ st => thenS (ms ρ st) ρ fun ds st => match bindAll is ds ρ with
  | some ρ' => .ok (.nx, ρ') st
  | none => .no
theorem cs_seqA {K : PySem.W.Frag} {σ : L2.St} {H : Hp} {w : Wd} {st : Sto} {ρ : Ev} {ma : Ev → M (List D)} {f : List D → Sto → SR} {E : Ends} {Q : List V → Hp → Prop} (S : StOk K H w st) (R : EvOk K H w st.next ρ σ) (h : PstS K W H w st.next (thenS (ma ρ st) ρ f) E)
    (hq : ∀ d v w1 st1 H1, Ext H w st.next H1 w1 st1.next → StOk K H1 w1 st1 → EvOk K H1 w1 st1.next ρ σ → RelDs K H1 w1 st1.next d v → PstS K W H1 w1 st1.next (f d st1) E → Q v H1) : cnA K W ma σ H Q :=
  ⟨w, st, ρ, S, R, (PstS.then_ R h).mono fun d w1 st1 H1 e1 S1 p v r => hq d v w1 st1 H1 e1 S1 (R.mono e1) r p⟩
theorem js_par {i j : Nat} {x y : Str} {a b : Expr} {ms : Ev → M (List D)} {px py pt pos : Pos} {kt k2 pt2} (hc : X.calm = true) (hN : X.N.Nodup) (hi : X.N[i]? = some x) (hj : X.N[j]? = some y) (hij : i ≠ j)
    (hx : X.env.scope.names.lookup x = some .local) (hy : X.env.scope.names.lookup y = some .local) (ha : PA X [a, b] (cnA X.K W ms))
    (hw : swappedStores [.Tuple [.Name x px, .Name y py] kt pt] (.Tuple [a, b] k2 pt2) X.env = pure (some [x, y])) :
    PS X (.Assign [.Tuple [.Name x px, .Name y py] kt pt] (.Tuple [a, b] k2 pt2) pos) (cnS X.K W (sPar [i, j] ms)) := by
  refine ps_imp (ps_par hc hN hi hj hij hx hy ha hw rfl) fun E σ H h => ?_
  obtain ⟨w, st, ρ, S, R, h⟩ := h
  refine cs_seqA S R h fun ds vs w1 st1 H1 e1 S1 R1 rs h1 => ?_
  split at h1
  · rename_i ρ' q
    match ds, q with
    | [d1, d2], q =>
      cases q
      unfold RelDs at rs
      obtain ⟨v1, r1, rfl, t1, rs⟩ := rs
      unfold RelDs at rs
      obtain ⟨v2, r2, rfl, t2, rs⟩ := rs
      cases rs
      exact ⟨v1, v2, rfl, h1 w1 H1 Ext.refl S1 _ ((R1.set t1 i).set t2 j)⟩
  · exact h1.elim
theorem js_par3 {i j l : Nat} {x y z : Str} {a b c : Expr} {ms : Ev → M (List D)} {px py pz pt pos : Pos} {kt k2 pt2} (hc : X.calm = true) (hN : X.N.Nodup) (hi : X.N[i]? = some x) (hj : X.N[j]? = some y) (hl : X.N[l]? = some z) (hij : i ≠ j) (hil : i ≠ l) (hjl : j ≠ l)
    (hx : X.env.scope.names.lookup x = some .local) (hy : X.env.scope.names.lookup y = some .local) (hz : X.env.scope.names.lookup z = some .local) (ha : PA X [a, b, c] (cnA X.K W ms))
    (hw : swappedStores [.Tuple [.Name x px, .Name y py, .Name z pz] kt pt] (.Tuple [a, b, c] k2 pt2) X.env = pure (some [x, y, z])) :
    PS X (.Assign [.Tuple [.Name x px, .Name y py, .Name z pz] kt pt] (.Tuple [a, b, c] k2 pt2) pos) (cnS X.K W (sPar [i, j, l] ms)) := by
  refine ps_imp (ps_par3 hc hN hi hj hl hij hil hjl hx hy hz ha hw rfl) fun E σ H h => ?_
  obtain ⟨w, st, ρ, S, R, h⟩ := h
  refine cs_seqA S R h fun ds vs w1 st1 H1 e1 S1 R1 rs h1 => ?_
  split at h1
  · rename_i ρ' q
    match ds, q with
    | [d1, d2, d3], q =>
      cases q
      unfold RelDs at rs
      obtain ⟨v1, r1, rfl, t1, rs⟩ := rs
      unfold RelDs at rs
      obtain ⟨v2, r2, rfl, t2, rs⟩ := rs
      unfold RelDs at rs
      obtain ⟨v3, r3, rfl, t3, rs⟩ := rs
      cases rs
      exact ⟨v1, v2, v3, rfl, h1 w1 H1 Ext.refl S1 _ (((R1.set t1 i).set t2 j).set t3 l)⟩
  · exact h1.elim
/-- names = a tuple -/
def sTg (t : Tg) (m : Ev → M D) : SM := fun ρ st => thenS (m ρ st) ρ fun d st => match bindT t d ρ with
  | some ρ' => .ok (.nx, ρ') st
  | none => .no
theorem js_tg {tg e : Expr} {g : TG} {t : Tg} {m : Ev → M D} {pos : Pos} (he : PE X e (cnE X.K W m)) (hg : PG X tg g) (ta : TgAd X.K g t) (hs : swapsWithSole [tg] e pos.line X.env = pure false) (hw : swappedStores [tg] e X.env = pure none) (h1 : (assignEach [tg] X.env).map (·.2) = [assign tg X.env]) :
    PS X (.Assign [tg] e pos) (cnS X.K W (sTg t m)) := by
  refine ps_imp (ps_asg he hg hs hw h1) fun E σ H h => ?_
  obtain ⟨w, st, ρ, S, R, h⟩ := h
  refine cs_seq S R h fun d v w1 st1 H1 e1 S1 R1 rd h1 => ?_
  split at h1
  · rename_i ρ' q
    exact ta H1 w1 st1.next ρ ρ' σ d v _ R1 rd q fun σ' R' => h1 w1 H1 Ext.refl S1 σ' R'
  · exact h1.elim

def sRaise (c : Str) : SM := fun ρ st => .exc (⟨c, []⟩, ρ) st
theorem js_raise {e : Expr} {c : Str} {pos : Pos} (hc : X.calm = true) (tk : Takes X W) (he : PMk X e (fun _ H Q => Q (.ref (He.ga X.K c)) none H)) : PS X (.Raise (some e) none pos) (cnS X.K W (sRaise c)) := by
  refine ps_imp (ps_raise hc tk he) fun E σ H h => ?_
  obtain ⟨w, st, ρ, S, R, h⟩ := h
  exact h w H _ _ σ Ext.refl S ⟨rfl, rfl⟩ R
/-- an except clause: b tells which classes it takes -/
def noXs (r : SR) : SR := match r with
  | .exc _ _ => .no
  | r => r
def sTry (b : Str → Option Bool) (m ms : SM) : SM := fun ρ st => match m ρ st with
  | .exc (x, ρ') st' => (match b x.cls with
    | some true => noXs (ms ρ' st')
    | some false => .exc (x, ρ') st'
    | none => .no)
  | r => r
theorem js_try {x : Str} {c : Value} {body suite : List Stmt} {b₀ : Stmt} {np pos pos' : Pos} {b : Str → Option Bool} {m ms : SM} (hs : X.stack = X.env :: X.outer) (hf : X.env.frame = some X.env.locals) (hc : Names X x c) (tk : Takes X W) (hx : ∀ y v, b y = some v → PySem.W.exmOne X.K (.ref (He.ga X.K y)) c = some v)
    (hb : ∀ (W' : WX) (pn : List (Addr × Obj)) (xe : Value → Shared → Prop), Takes (X.tr pn xe) W' → PassesOwn (model X.prog X.w) X.A X.env xe → PSs (X.tr pn xe) body (cnS X.K W' m))
    (hsu : ∀ (a : Addr) (oe : Obj) (pn : List (Addr × Obj)), PSs (X.suite a ((a, oe) :: pn)) (b₀ :: suite) (cnS X.K W0 ms)) :
    PS X (.Try body [.ExceptHandler (some (.Name x np)) none (b₀ :: suite) pos'] [] [] pos) (cnS X.K W (sTry b m ms)) := by
  refine ps_imp (ps_try_only (tb := fun W' => cnS X.K W' m) (ts := fun _ _ _ => cnS X.K W0 ms) hs hf hc tk hb fun a oe cls d pn _ _ => hsu a oe pn) fun E σ H h => ?_
  obtain ⟨w, st, ρ, S, R, h⟩ := h
  refine ⟨w, st, ρ, S, R, ?_⟩
  unfold sTry at h
  cases q : m ρ st with
  | no => rw [q] at h; exact h
  | ok a st' => rw [q] at h; exact h
  | exc a st' =>
    obtain ⟨y, ρ'⟩ := a
    rw [q] at h
    intro w1 H1 cl d σ1 e1 S1 xr R1
    dsimp only at h xr R1
    obtain ⟨rfl, xr2⟩ := xr
    cases qb : b y.cls with
    | none => rw [qb] at h; exact h.elim
    | some v =>
      rw [qb] at h
      refine ⟨v, hx _ _ qb, fun hv a ha => ?_, fun hv => ?_⟩
      · subst hv
        refine ⟨w1, st', ρ', S1, R1, ?_⟩
        have h := PstS.rebase h e1
        dsimp only at h
        cases qs : ms ρ' st' with
        | no => rw [qs] at h; exact h
        | exc _ _ => rw [qs] at h; exact h.elim
        | ok a2 st2 => rw [qs] at h; exact h
      · subst hv
        exact h w1 H1 _ d σ1 e1 S1 ⟨rfl, xr2⟩ R1

def whL (mt : Ev → M D) (body : SM) : Nat → SM
  | 0 => fun _ _ => .no
  | n + 1 => fun ρ st => thenS (evT mt ρ st) ρ fun c st => if c = true then (match body ρ st with
    | .ok (.nx, ρ2) st2 => whL mt body n ρ2 st2
    | .ok (.ct, ρ2) st2 => whL mt body n ρ2 st2
    | .ok (.bk, ρ2) st2 => .ok (.nx, ρ2) st2
    | r => r) else .ok (.nx, ρ) st
def turns : Nat := 10 ^ 9
def sWhile (mt : Ev → M D) (body : SM) : SM := whL mt body turns
theorem js_while {t : Expr} {bs : List Stmt} {mt : Ev → M D} {body : SM} {pos : Pos} (hp : PassesOwn (model X.prog X.w) X.A X.env X.xe) (ht : PT X t (cnT X.K W (evT mt))) (hb : PSs X bs (cnS X.K W body)) : PS X (.While t bs [] pos) (cnS X.K W (sWhile mt body)) := by
  refine ps_imp (ps_while hp ht hb) fun E σ H h => ?_
  obtain ⟨w, st, ρ, S, R, h⟩ := h
  refine ⟨fun n σ' H' => ∃ w' st' ρ', StOk X.K H' w' st' ∧ EvOk X.K H' w' st'.next ρ' σ' ∧ PstS X.K W H' w' st'.next (whL mt body n ρ' st') E, ⟨turns, w, st, ρ, S, R, h⟩, ?_⟩
  rintro n σ1 H1 ⟨w1, st1, ρ1, S1, R1, h1⟩
  cases n with
  | zero => exact h1.elim
  | succ n =>
    refine ⟨w1, st1, ρ1, S1, R1, (PstS.then_ R1 h1).mono fun c w2 st2 H2 e2 S2 p => ?_⟩
    cases c with
    | false => exact p w2 H2 Ext.refl S2 σ1 (R1.mono e2)
    | true =>
      refine ⟨fun σ' H' => ∃ w' st' ρ', StOk X.K H' w' st' ∧ EvOk X.K H' w' st'.next ρ' σ' ∧ PstS X.K W H' w' st'.next (whL mt body n ρ' st') E, fun σ' H' z => ⟨n, Nat.lt_succ_self n, z⟩, w2, st2, ρ1, S2, R1.mono e2, ?_⟩
      have p : PstS X.K W H2 w2 st2.next (match body ρ1 st2 with
        | .ok (.nx, ρ2) st2 => whL mt body n ρ2 st2
        | .ok (.ct, ρ2) st2 => whL mt body n ρ2 st2
        | .ok (.bk, ρ2) st2 => .ok (.nx, ρ2) st2
        | r => r) E := p
      cases q : body ρ1 st2 with
      | ok a st5 =>
        obtain ⟨f, ρ5⟩ := a
        rw [q] at p
        cases f with
        | nx => exact fun w5 H5 e5 S5 σ5 R5 => ⟨w5, st5, ρ5, S5, R5, PstS.rebase p e5⟩
        | ct => exact fun w5 H5 e5 S5 σ5 R5 => ⟨w5, st5, ρ5, S5, R5, PstS.rebase p e5⟩
        | bk => exact fun w5 H5 e5 S5 σ5 R5 => p w5 H5 e5 S5 σ5 R5
        | rt d => exact fun w5 H5 e5 S5 v r => p w5 H5 e5 S5 v r
      | exc a st5 => rw [q] at p; exact p
      | no => rw [q] at p; exact p

def sBrk : SM := fun ρ st => .ok (.bk, ρ) st
def sCnt : SM := fun ρ st => .ok (.ct, ρ) st
theorem js_brk {pos : Pos} : PS X (.Break pos) (cnS X.K W sBrk) := by
  refine ps_imp ps_break fun E σ H h => ?_
  obtain ⟨w, st, ρ, S, R, h⟩ := h
  exact h w H Ext.refl S σ R
theorem js_cnt {pos : Pos} : PS X (.Continue pos) (cnS X.K W sCnt) := by
  refine ps_imp ps_continue fun E σ H h => ?_
  obtain ⟨w, st, ρ, S, R, h⟩ := h
  exact h w H Ext.refl S σ R

/-- T: "list", "str", "dict" -/
def isTyD (T : String) (st : Sto) (d : D) : Bool := match T with
  | "list" => (match d with
    | .lst _ => true
    | .scr _ => true
    | .loc n => (match st.get n with | some (.lst _) => true | _ => false)
    | _ => false)
  | "str" => (match d with | .str _ => true | _ => false)
  | "dict" => (match d with
    | .loc n => (match st.get n with | some (.dk _) => true | some (.dt _) => true | _ => false)
    | _ => false)
  | _ => false
theorem isTyD_rel {K : PySem.W.Frag} {H : Hp} {w : Wd} {st : Sto} {T : String} {d : D} {v : V} (S : StOk K H w st) (r : RelD K H w st.next d v) (h : isTyD T st d = true) : tyV K T v H := by
  unfold isTyD at h
  split at h
  · cases d with
    | lst ds =>
      obtain ⟨a, vs, rfl, h1, h2⟩ := r.sqL
      exact .inl ⟨rfl, _, SqL.of h1⟩
    | scr ns =>
      obtain ⟨a, rfl, h1⟩ := r.sqS
      exact .inl ⟨rfl, _, h1⟩
    | loc n =>
      dsimp only at h
      split at h
      · rename_i xs q
        obtain ⟨vs, rfl, h2, h3⟩ := RelD.locL S r q
        exact .inl ⟨rfl, _, SqL.of h2⟩
      · cases h
    | _ => cases h
  · cases d with
    | str s => cases r; exact rfl
    | _ => cases h
  · cases d with
    | loc n =>
      unfold RelD at r
      obtain ⟨_, rfl⟩ := r
      dsimp only at h
      split at h
      · rename_i xs q
        obtain ⟨_, _, ho, h1, l, rfl, h2⟩ := S.cell n _ q
        exact .inr (.inr (.inl ⟨rfl, .inl ⟨l, h1⟩⟩))
      · rename_i xs q
        obtain ⟨_, _, ho, h1, l, rfl, h2⟩ := S.cell n _ q
        exact .inr (.inr (.inl ⟨rfl, .inr ⟨l, h1⟩⟩))
      · cases h
    | _ => cases h
  · cases h
def tyM (T : String) (d : D) : M Unit := fun st => if isTyD T st d = true then .ok () st else .no
def evMt (T : String) (f : D → List D → M D) (mo : Ev → M D) (ms : Ev → M (List D)) : Ev → M D := fun ρ => (mo ρ).bind fun o => (tyM T o).bind fun _ => (ms ρ).bind fun ds => f o ds
theorem je_bm {T id : String} {name : Str} {r : V → List V → Hp → VK → Prop} {f : D → List D → M D} {mo : Ev → M D} {ms : Ev → M (List D)} {o e : Expr} {es : List Expr} {apos cpos : Pos} (pa : PlainAttrs T) (slot : Slot T name id) (hty : typeOf (.builtin id) = pure (.type "method_descriptor")) (hm : MtR X id r) (ad : MtAd X.K r f)
    (ho : PE X o (cnE X.K W mo)) (ha : PA X (e :: es) (cnA X.K W ms)) (hbase : attributeBase o name X.env (eval o X.env) = eval o X.env)
    (hfew : ((backTo cpos (starEach (e :: es) X.env)).all (fun x => !x.1) && (backToKw cpos (keywordEach [] X.env)).all (fun x => x.1.isSome) && decide ((e :: es).length + ([] : List Keyword).length + (if ([] : List Keyword).isEmpty then 0 else 1) < 30)) = true)
    (hline : (apos.endLine == cpos.line) = true) (hs : starEach (e :: es) X.env = (false, eval e X.env) :: starEach es X.env) (hplain : (backTo cpos (starEach es X.env)).any (·.1) = false) :
    PE X (.Call (.Attribute o name apos) (e :: es) [] cpos) (cnE X.K W (evMt T f mo ms)) := by
  refine pe_imp (pe_bm pa slot hty hm ho ha hbase hfew hline hs hplain) fun σ H Q h => ?_
  obtain ⟨w, st, ρ, S, R, h⟩ := h
  refine cn_seq S R h fun x v w1 st1 H1 e1 S1 R1 rx h1 => ?_
  have h1 : Pst X.K (fun c d H' => W c d σ H') H1 w1 st1.next ((tyM T x st1).bind fun _ => (ms ρ).bind fun ds => f x ds) (PV X.K Q) := h1
  unfold tyM at h1
  split at h1
  · rename_i q
    refine ⟨isTyD_rel S1 rx q, ?_⟩
    refine ca_seq S1 R1 h1 fun ds vs w2 st2 H2 e2 S2 R2 rs h2 => ?_
    exact ad _ H2 w2 st2 x ds v vs Q S2 (rx.mono e2) rs h2
  · exact h1.elim
theorem je_bm0 {T id : String} {name : Str} {r : V → List V → Hp → VK → Prop} {f : D → List D → M D} {mo : Ev → M D} {o : Expr} {apos cpos : Pos} (pa : PlainAttrs T) (slot : Slot T name id) (hty : typeOf (.builtin id) = pure (.type "method_descriptor")) (hm : MtR X id r) (ad : MtAd X.K r f)
    (ho : PE X o (cnE X.K W mo)) (hbase : attributeBase o name X.env (eval o X.env) = eval o X.env) (hline : (apos.endLine == cpos.line) = true) :
    PE X (.Call (.Attribute o name apos) [] [] cpos) (cnE X.K W (evMt T f mo evNil)) := by
  refine pe_imp (pe_bm0 pa slot hty hm ho hbase hline) fun σ H Q h => ?_
  obtain ⟨w, st, ρ, S, R, h⟩ := h
  refine cn_seq S R h fun x v w1 st1 H1 e1 S1 R1 rx h1 => ?_
  have h1 : Pst X.K (fun c d H' => W c d σ H') H1 w1 st1.next ((tyM T x st1).bind fun _ => (M.ret ([] : List D)).bind fun ds => f x ds) (PV X.K Q) := h1
  unfold tyM at h1
  split at h1
  · rename_i q
    exact ⟨isTyD_rel S1 rx q, ad _ H1 w1 st1 x [] v [] Q S1 rx rfl h1⟩
  · exact h1.elim
end
/-- append, pop -/
def appM (o : D) (ds : List D) : M D := fun st => match o, ds with
  | .loc n, [d] => (match st.get n with
    | some (.lst xs) => if xs.length < sizeLine then .ok .non (st.set n (.lst (xs ++ [d]))) else .no
    | _ => .no)
  | _, _ => .no
theorem ad_app {K : PySem.W.Frag} : MtAd K rAppend appM := by
  intro E H w st x xs v vs Q S rx rs h
  unfold appM at h
  split at h
  · rename_i n d
    split at h
    · rename_i ys g
      split at h
      · rename_i z
        obtain ⟨u, rfl, ru⟩ := rel1 rs
        obtain ⟨us, rfl, h2, h3⟩ := RelD.locL S rx g
        refine ⟨_, us, u, rfl, rfl, h2, by rw [← h3.length]; exact z, ?_⟩
        refine post_set S g h ⟨_, rfl, h3.append (es := [d]) (us := [u]) ?_⟩ rfl
        unfold RelDs
        exact ⟨u, [], rfl, ru, rfl⟩
      · exact h.elim
    · exact h.elim
  · exact h.elim
theorem RelDs.getL {K : PySem.W.Frag} {H : Hp} {w : Wd} {nx : Nat} : ∀ {ds : List D} {vs : List V} {i : Nat} {d : D}, RelDs K H w nx ds vs → ds[i]? = some d → ∃ v, vs[i]? = some v ∧ RelD K H w nx d v
  | [], _, _, _, _, h => by simp at h
  | e :: ds, vs, 0, d, r, h => by
    unfold RelDs at r
    obtain ⟨v, us, rfl, r1, r2⟩ := r
    simp at h
    subst h
    exact ⟨v, rfl, r1⟩
  | e :: ds, vs, i + 1, d, r, h => by
    unfold RelDs at r
    obtain ⟨v, us, rfl, r1, r2⟩ := r
    obtain ⟨u, a, b⟩ := RelDs.getL r2 (show ds[i]? = some d by simpa using h)
    exact ⟨u, by simpa using a, b⟩
theorem RelDs.era {K : PySem.W.Frag} {H : Hp} {w : Wd} {nx : Nat} : ∀ {ds : List D} {vs : List V} (i : Nat), RelDs K H w nx ds vs → RelDs K H w nx (ds.eraseIdx i) (vs.eraseIdx i)
  | [], vs, i, r => by cases r; exact rfl
  | e :: ds, vs, 0, r => by
    unfold RelDs at r
    obtain ⟨v, us, rfl, r1, r2⟩ := r
    exact r2
  | e :: ds, vs, i + 1, r => by
    unfold RelDs at r
    obtain ⟨v, us, rfl, r1, r2⟩ := r
    show RelDs K H w nx (e :: ds.eraseIdx i) (v :: us.eraseIdx i)
    unfold RelDs
    exact ⟨v, _, rfl, r1, RelDs.era i r2⟩
def popM (o : D) (ds : List D) : M D := fun st => match o, ds with
  | .loc n, [] => (match st.get n with
    | some (.lst xs) => (match xs[xs.length - 1]? with
      | some d => .ok d (st.set n (.lst (xs.eraseIdx (xs.length - 1))))
      | none => .no)
    | _ => .no)
  | .loc n, [.int i] => (match st.get n with
    | some (.lst xs) => if -(2 ^ 63) ≤ i ∧ i < 2 ^ 63 then (match seqIndex? i xs.length with
      | some k => (match xs[k]? with
        | some d => .ok d (st.set n (.lst (xs.eraseIdx k)))
        | none => .no)
      | none => .no) else .no
    | _ => .no)
  | _, _ => .no
theorem mt_popB {X : Cx} : MtR X "list.pop" (fun x vs H Q => rPop x vs H Q ∨ rPopAt x vs H Q) := by
  intro pins s σ H x xs v us Q I rx rxs h
  rcases h with h | h
  · exact mt_pop pins s σ H x xs v us Q I rx rxs h
  · exact mt_popAt pins s σ H x xs v us Q I rx rxs h
theorem ad_pop {K : PySem.W.Frag} : MtAd K (fun x vs H Q => rPop x vs H Q ∨ rPopAt x vs H Q) popM := by
  intro E H w st x xs v vs Q S rx rs h
  unfold popM at h
  split at h
  · rename_i n
    split at h
    · rename_i ys g
      split at h
      · rename_i d q
        cases rs
        obtain ⟨us, rfl, h2, h3⟩ := RelD.locL S rx g
        obtain ⟨u, hu, ru⟩ := h3.getL q
        rw [h3.length] at hu
        refine .inl ⟨_, us, u, rfl, rfl, h2, hu, ?_⟩
        have z := post_set (o := .lst (ys.eraseIdx (ys.length - 1))) (ho := .lst (us.eraseIdx (us.length - 1))) S g h ⟨_, rfl, by rw [← h3.length]; exact h3.era _⟩ ru
        rw [PyProof.Rows.Copied.eraseIdx_last] at z
        exact z
      · exact h.elim
    · exact h.elim
  · rename_i n i
    split at h
    · rename_i ys g
      split at h
      · rename_i b
        split at h
        · rename_i k hk
          split at h
          · rename_i d q
            obtain ⟨u1, rfl, r1⟩ := rel1 rs
            cases r1
            obtain ⟨us, rfl, h2, h3⟩ := RelD.locL S rx g
            obtain ⟨u, hu, ru⟩ := h3.getL q
            exact .inr ⟨_, us, i, k, u, rfl, rfl, h2, b.1, b.2, by rw [← h3.length]; exact hk, hu, post_set S g h ⟨_, rfl, h3.era k⟩ ru⟩
          · exact h.elim
        · exact h.elim
      · exact h.elim
    · exact h.elim
  · exact h.elim
/-- count of a truth among truths -/
def blsOf : List D → Option (List Bool)
  | [] => some []
  | .bl b :: r => (blsOf r).map (b :: ·)
  | _ :: _ => none
def cntM (o : D) (ds : List D) : M D := fun st => match lstOf st o, ds with
  | some xs, [.bl b] => (match blsOf xs with
    | some bs => .ok (.int (bs.count b : Nat)) st
    | none => .no)
  | _, _ => .no
def rCntB : V → List V → Hp → VK → Prop := fun x vs H Q => ∃ (p : Addr) (bs : List Bool) (b : Bool), x = .ref p ∧ vs = [.bl b] ∧ H p = some (.lst (bs.map V.bl)) ∧ Q (.int (bs.count b : Nat)) H
def eqB (b : Bool) : Value → Bool
  | .bool a => a == b
  | _ => false
theorem bls_vals : ∀ {bs : List Bool} {its : List Value}, Vals (bs.map V.bl) its → its = bs.map Value.bool
  | [], _, .nil => rfl
  | b :: bs, _, .cons r t => by
    cases r
    rw [bls_vals t]
    rfl
theorem bls_count (b : Bool) : ∀ (bs : List Bool), (bs.map Value.bool).countP (eqB b) = bs.count b
  | [] => rfl
  | a :: bs => by
    rw [List.map_cons, List.countP_cons, List.count_cons, bls_count b bs]
    rfl
theorem mt_countB {X : Cx} : MtR X "list.count" rCntB := by
  intro pins s σ H x xs v us Q I rx rxs h
  obtain ⟨p, bs, b, rfl, rfl, hs, q⟩ := h
  cases rx
  obtain ⟨u, rfl, ru⟩ := rxs.one
  cases ru
  obtain ⟨z, its, n, rv, hl, ho⟩ := I.lstM hs
  have hi := bls_vals rv
  refine call_meets PySem.F.slot_list_count ⟨_, ho, rfl⟩ PySem.F.entry_list_count (PySem.F.args_list_count_2 _ _) (SeqAt.list_countAt p its.toArray n none #[] (.bool b) (eqB b)) ⟨ho, fun y hy => ?_, ?_⟩
  · have hy : y ∈ its := by simpa using hy
    rw [hi] at hy
    obtain ⟨a, _, rfl⟩ := List.mem_map.mp hy
    exact SeqAt.EqAt.bool_bool a b
  · have ec : its.toArray.toList.countP (eqB b) = bs.count b := by
      rw [hi]
      exact bls_count b bs
    rw [ec]
    exact ⟨.int (bs.count b : Nat), H, I.tok _, ⟨s.toks, rfl⟩, q⟩
theorem blsOf_rel {K : PySem.W.Frag} {H : Hp} {w : Wd} {nx : Nat} : ∀ {ds : List D} {vs : List V} {bs : List Bool}, RelDs K H w nx ds vs → blsOf ds = some bs → vs = bs.map V.bl
  | [], _, _, r, h => by cases r; cases h; rfl
  | d :: ds, vs, bs, r, h => by
    unfold RelDs at r
    obtain ⟨v, us, rfl, r1, r2⟩ := r
    cases d with
    | bl b =>
      cases r1
      obtain ⟨bs', z, rfl⟩ := Option.map_eq_some_iff.mp (show (blsOf ds).map (b :: ·) = some bs from h)
      rw [blsOf_rel r2 z]
      rfl
    | _ => cases h
theorem ad_cnt {K : PySem.W.Frag} : MtAd K rCntB cntM := by
  intro E H w st x xs v vs Q S rx rs h
  unfold cntM at h
  split at h
  · rename_i ys b g
    split at h
    · rename_i bs q
      obtain ⟨u, rfl, ru⟩ := rel1 rs
      cases ru
      obtain ⟨a, us, rfl, h1, h2⟩ := lstOf_rel S rx g
      rw [blsOf_rel h2 q] at h1
      exact ⟨a, bs, b, rfl, rfl, h1, post_here S h rfl⟩
    · exact h.elim
  · exact h.elim

section
variable {X : Cx} {W : WX}
/-- a value of the written part -/
def KRel (K : PySem.W.Frag) (d : D) (v : V) : Prop := ∀ H w nx, RelD K H w nx d v
theorem je_glob {x : Str} {d : D} {v : V} {u : Value} {pos : Pos} (hg : Gl X x) (hm : X.mg x = some u) (r : RelV v u) (hk : KRel X.K d v) (hd : (x == ("__debug__" : Str)) = false) : PE X (.Name x pos) (cnE X.K W (evC d)) := by
  refine pe_imp (pe_glob hg hm r hd) fun σ H Q h => ?_
  obtain ⟨w, st, ρ, S, R, h⟩ := h
  exact h w H Ext.refl S v (hk _ _ _)
end
end Mp
namespace Mp
open PySem PySem.Spec PyProof.Rows L2

/-- what the module holds, and hints -/
structure Gx where
  call : Str → Option (List D → M D)
  con : Str → Option D
  blt : Str → Bool
  cls : Str → Bool
  exm : Str → Str → Option Bool
  hint : Nat → Nat → Nat
/-- a block of code: the names with slots, the scope -/
structure Ctx where
  N : List Str
  sc : Scope
  calm : Bool
  top : Bool

def ixOf (x : Str) : List Str → Option Nat
  | [] => none
  | y :: r => if (y == x) = true then some 0 else (ixOf x r).map (· + 1)
theorem ixOf_at {x : Str} : ∀ {N : List Str} {i : Nat}, ixOf x N = some i → N[i]? = some x
  | [], _, h => by cases h
  | y :: r, i, h => by
    unfold ixOf at h
    split at h
    · rename_i e
      cases h
      rw [eq_of_beq e]
      rfl
    · obtain ⟨j, q, rfl⟩ := Option.map_eq_some_iff.mp h
      simpa using ixOf_at q

/-- the class's facts of an own exception -/
structure ClsOk (K : PySem.W.Frag) (gm : Str → Option Value) (x : Str) : Prop where
  mg : gm x = some (.ref (He.ga K x))
  made : ∀ (X : Cx), X.K = K → X.mg = gm → Gl X x → (x == ("__debug__" : Str)) = false → ∀ (m : Str) (j : Nat) (p p2 pos : Pos), PMk X (.Call (.Name x p) [.Constant (.str m) j p2] [] pos) (fun _ H Q => Q (.ref (He.ga K x)) none H)
structure FnE (X : Cx) (k : Nat) (x : Str) (f : List D → M D) : Prop where
  ex : ∃ (fa : Addr) (fd : FuncData) (ps : List Str), FnOk X.prog X.w X.K X.mg X.base (L2.CX X.prog X.w) k fa fd ps (spM X.K f) ∧ X.mg x = some (.ref fa) ∧ PySem.W.keepIn X.K (.ref fa) = true ∧ Binds X.K fd ps []
/-- what a context promises -/
structure Gd (G : Gx) (C : Ctx) (X : Cx) (W : WX) (k : Nat) : Prop where
  N : X.N = C.N
  nd : C.N.Nodup
  sc : X.env.scope = C.sc
  calm : C.calm = true → X.calm = true
  room : C.calm = true → Room k X.A
  un : X.A.units + 66 < cLine
  tk : Takes X W
  po : PassesOwn (model X.prog X.w) X.A X.env X.xe
  fn : C.top = true → ∀ x, X.fn x = true
  stk : C.top = true → X.stack = X.env :: X.outer ∧ X.env.frame = some X.env.locals
  call : ∀ x f, G.call x = some f → FnE X k x f
  con : ∀ x d, G.con x = some d → ∃ u v, X.mg x = some u ∧ RelV v u ∧ KRel X.K d v
  blt : ∀ x, G.blt x = true → X.mg x = none
  cls : ∀ x, G.cls x = true → ClsOk X.K X.mg x
  exm : ∀ x y b, G.exm x y = some b → ∃ c, (X.mg x = some c ∨ (X.mg x = none ∧ bootBuiltins x = some c ∧ x ≠ "__name__")) ∧ PySem.W.exmOne X.K (.ref (He.ga X.K y)) c = some b

/-- an expression's reading -/
structure Rd (X : Cx) (W : WX) (x : Expr) (m : Ev → M D) : Prop where
  e : PE X x (cnE X.K W m)
  t : PT X x (cnT X.K W (evT m))
def CE := Ctx → Expr → Option (Ev → M D)
def SoundE (G : Gx) (r : CE) : Prop := ∀ C X W k, Gd G C X W k → ∀ e m, r C e = some m → Rd X W e m

def isStar : Expr → Bool
  | .Starred _ _ => true
  | _ => false
def cArgs (f : Expr → Option (Ev → M D)) : List Expr → Option (Ev → M (List D))
  | [] => some evNil
  | e :: es => if isStar e = true then none else match f e, cArgs f es with
    | some m, some ms => some (evCons m ms)
    | _, _ => none
theorem star_cons {e : Expr} {es : List Expr} {env : Env} (h : isStar e = false) : starEach (e :: es) env = (false, eval e env) :: starEach es env := by
  cases e <;> first | rfl | cases h
theorem star_none {pos : Pos} {env : Env} : ∀ {es : List Expr}, es.all (fun e => !isStar e) = true → (backTo pos (starEach es env)).any (·.1) = false ∧ (backTo pos (starEach es env)).all (fun x => !x.1) = true
  | [], _ => ⟨rfl, rfl⟩
  | e :: es, h => by
    simp only [List.all_cons, Bool.and_eq_true, Bool.not_eq_true'] at h
    rw [star_cons h.1]
    have q := star_none (pos := pos) (env := env) (es := es) (by simpa using h.2)
    constructor
    · show (false || (backTo pos (starEach es env)).any (·.1)) = false
      rw [q.1]
      rfl
    · show (!false && (backTo pos (starEach es env)).all (fun x => !x.1)) = true
      rw [q.2]
      rfl
theorem cArgs_ok {X : Cx} {W : WX} {f : Expr → Option (Ev → M D)} (hf : ∀ e m, f e = some m → Rd X W e m) : ∀ {es : List Expr} {ms : Ev → M (List D)}, cArgs f es = some ms → PA X es (cnA X.K W ms) ∧ es.all (fun e => !isStar e) = true
  | [], _, h => by cases h; exact ⟨ja_nil, rfl⟩
  | e :: es, ms, h => by
    unfold cArgs at h
    split at h
    · cases h
    · rename_i hs
      split at h
      · rename_i m ms' h1 h2
        cases h
        have hs : isStar e = false := by simpa using hs
        obtain ⟨q1, q2⟩ := cArgs_ok hf h2
        refine ⟨ja_cons (hf e m h1).e q1 (star_cons hs), ?_⟩
        rw [List.all_cons, hs, q2]
        rfl
      · cases h
theorem cArgs_len {f : Expr → Option (Ev → M D)} : ∀ {es : List Expr} {ms : Ev → M (List D)}, cArgs f es = some ms → ∀ ρ st ds st', ms ρ st = .ok ds st' → ds.length = es.length
  | [], _, h, ρ, st, ds, st', q => by cases h; cases q; rfl
  | e :: es, ms, h, ρ, st, ds, st', q => by
    unfold cArgs at h
    split at h
    · cases h
    · split at h
      · rename_i m ms' h1 h2
        cases h
        have q : ((m ρ st).bind fun d => (ms' ρ).bind fun ds => M.ret (d :: ds)) = .ok ds st' := q
        cases z : m ρ st with
        | no => rw [z] at q; cases q
        | exc _ _ => rw [z] at q; cases q
        | ok d s1 =>
          rw [z] at q
          have q : ((ms' ρ s1).bind fun ds => M.ret (d :: ds)) = .ok ds st' := q
          cases y : ms' ρ s1 with
          | no => rw [y] at q; cases q
          | exc _ _ => rw [y] at q; cases q
          | ok ds' s2 =>
            rw [y] at q
            cases q
            rw [List.length_cons, cArgs_len h2 ρ s1 ds' st' y]
            rfl
      · cases h

def cBool (op : BoolOp) (f : Expr → Option (Ev → M D)) : List Expr → Option (Ev → M D)
  | [] => none
  | [e] => f e
  | e :: es => match f e, cBool op f es with
    | some m, some ms => some (match op with
      | .And => evAnd m ms
      | .Or => evOr m ms)
    | _, _ => none
theorem cBool_ok {X : Cx} {W : WX} {op : BoolOp} {f : Expr → Option (Ev → M D)} {pos : Pos} (hf : ∀ e m, f e = some m → Rd X W e m) : ∀ {es : List Expr} {m : Ev → M D}, cBool op f es = some m → PE X (.BoolOp op es pos) (cnE X.K W m) ∧ PW X (.BoolOp op es pos) (cnT X.K W (evT m))
  | [], _, h => by cases h
  | [e], m, h => ⟨je_one (hf e m h).e, jw_one (hf e m h).t⟩
  | e :: e2 :: es, m, h => by
    unfold cBool at h
    split at h
    · rename_i m1 m2 h1 h2
      obtain ⟨q1, q2⟩ := cBool_ok (pos := pos) hf h2
      cases op with
      | And => cases h; exact ⟨je_and (hf e m1 h1).e q1, jw_and (hf e m1 h1).t q2⟩
      | Or => cases h; exact ⟨je_or (hf e m1 h1).e q1, jw_or (hf e m1 h1).t q2⟩
    · cases h

def binM : Operator → Option (D → D → M D)
  | .Add => some addM
  | .Sub => some subM
  | .Mult => some mulM
  | .FloorDiv => some fdivM
  | .Mod => some modM
  | .Pow => some powM
  | _ => none
theorem binM_ok {X : Cx} {op : Operator} {f : D → D → M D} (h : binM op = some f) : ∃ r : R2, OpR X (binaryOp op) r ∧ OpAd X.K r f := by
  cases op <;> first
    | (cases h; exact ⟨_, op_addM, ad_add⟩)
    | (cases h; exact ⟨_, op_sub, ad_sub⟩)
    | (cases h; exact ⟨_, op_mulM, ad_mul⟩)
    | (cases h; exact ⟨_, op_fdiv, ad_fdiv⟩)
    | (cases h; exact ⟨_, op_mod, ad_mod⟩)
    | (cases h; exact ⟨_, op_pow, ad_pow⟩)
    | cases h
def cmpM : CmpOp → (D → D → M D)
  | .Eq => eqM false
  | .NotEq => eqM true
  | .In => inM false
  | .NotIn => inM true
  | .Is => isNM false
  | .IsNot => isNM true
  | .Lt => ordM .Lt
  | .LtE => ordM .LtE
  | .Gt => ordM .Gt
  | .GtE => ordM .GtE
theorem cmpM_ok {X : Cx} (hu : X.A.units + 66 < cLine) (op : CmpOp) : ∃ r : R2, OpR X (compareOp op) r ∧ OpAd X.K r (cmpM op) := by
  cases op with
  | Eq => exact ⟨_, op_eqM (by omega), ad_eq⟩
  | NotEq => exact ⟨_, op_neM (by omega), ad_eq⟩
  | In => exact ⟨_, op_inM (by omega), ad_in⟩
  | NotIn => exact ⟨_, op_notInM (by omega), ad_in⟩
  | Is => exact ⟨_, op_isN, ad_isN⟩
  | IsNot => exact ⟨_, op_notN, ad_notN⟩
  | Lt => exact ⟨_, op_ord rfl (by omega), ad_ord⟩
  | LtE => exact ⟨_, op_ord rfl (by omega), ad_ord⟩
  | Gt => exact ⟨_, op_ord rfl (by omega), ad_ord⟩
  | GtE => exact ⟨_, op_ord rfl (by omega), ad_ord⟩
theorem cmpM_truth (op : CmpOp) : Truths (cmpM op) := by
  intro x y st d st' h
  cases op <;> (simp only [cmpM, eqM, inM, isNM, ordM] at h) <;> (repeat' split at h) <;> first | (cases h; done) | (cases h; exact ⟨_, rfl⟩)

def bltM (x : Str) (calm nw : Bool) : Option (List D → M D) :=
  if (x == "len") = true then some lenM else if (x == "abs") = true then some absM else if (x == "int") = true then some intM else if (x == "str") = true then some strM else if (x == "list") = true then some (if nw then listN else listM)
  else if (x == "tuple") = true then some tupleM else if (x == "max") = true then (if calm then some max2M else none) else if (x == "min") = true then (if calm then some min2M else none) else none
theorem bltM_ok {X : Cx} {W : WX} {x : Str} {calm nw : Bool} {f : List D → M D} {e : Expr} {es : List Expr} {ms : Ev → M (List D)} {p pos : Pos} (hcalm : calm = true → X.calm = true) (h : bltM x calm nw = some f) (hg : Gl X x) (hm : X.mg x = none) (ha : PA X (e :: es) (cnA X.K W ms))
    (he : starEach (e :: es) X.env = (false, eval e X.env) :: starEach es X.env) (hpl : (backTo pos (starEach es X.env)).any (·.1) = false) : PE X (.Call (.Name x p) (e :: es) [] pos) (cnE X.K W (evL f ms)) := by
  unfold bltM at h
  split at h
  · rename_i z
    rw [eq_of_beq z] at hg hm ⊢
    cases h
    exact je_callB call_len ad_len hg hm (by decide +kernel) ha (by decide) (by decide) he hpl
  split at h
  · rename_i z
    rw [eq_of_beq z] at hg hm ⊢
    cases h
    exact je_callB call_abs ad_abs hg hm (by decide +kernel) ha (by decide) (by decide) he hpl
  split at h
  · rename_i z
    rw [eq_of_beq z] at hg hm ⊢
    cases h
    exact je_callTy call_int1 ad_int hg hm (by decide +kernel) ha (by decide) (by decide) he hpl
  split at h
  · rename_i z
    rw [eq_of_beq z] at hg hm ⊢
    cases h
    exact je_callTy cr_strM ad_str hg hm (by decide +kernel) ha (by decide) (by decide) he hpl
  split at h
  · rename_i z
    rw [eq_of_beq z] at hg hm ⊢
    cases h
    cases nw with
    | true => exact je_callTy call_list_of ad_listN hg hm (by decide +kernel) ha (by decide) (by decide) he hpl
    | false => exact je_callTy call_list_of ad_list hg hm (by decide +kernel) ha (by decide) (by decide) he hpl
  split at h
  · rename_i z
    rw [eq_of_beq z] at hg hm ⊢
    cases h
    exact je_callTy call_tuple_of ad_tuple hg hm (by decide +kernel) ha (by decide) (by decide) he hpl
  split at h
  · rename_i z
    rw [eq_of_beq z] at hg hm ⊢
    split at h
    · rename_i c
      cases h
      exact je_callB (call_max2 (hcalm c)) ad_max2 hg hm (by decide +kernel) ha (by decide) (by decide) he hpl
    · cases h
  split at h
  · rename_i z
    rw [eq_of_beq z] at hg hm ⊢
    split at h
    · rename_i c
      cases h
      exact je_callB (call_min2 (hcalm c)) ad_min2 hg hm (by decide +kernel) ha (by decide) (by decide) he hpl
    · cases h
  · cases h
/-- the classes that isinstance asks for -/
def tyName (x : Str) : Option String :=
  if (x == "int") = true then some "int" else if (x == "bool") = true then some "bool" else if (x == "str") = true then some "str" else if (x == "tuple") = true then some "tuple" else if (x == "list") = true then some "list" else if (x == "dict") = true then some "dict" else none
theorem tyName_ok {x : Str} {c : String} (h : tyName x = some c) : bootBuiltins x = some (.type c) ∧ c ∈ askedTys ∧ x ≠ "__name__" ∧ (x == ("__debug__" : Str)) = false := by
  unfold tyName at h
  split at h
  · rename_i z; rw [eq_of_beq z]; cases h; exact ⟨by decide +kernel, by decide, by decide, by decide⟩
  split at h
  · rename_i z; rw [eq_of_beq z]; cases h; exact ⟨by decide +kernel, by decide, by decide, by decide⟩
  split at h
  · rename_i z; rw [eq_of_beq z]; cases h; exact ⟨by decide +kernel, by decide, by decide, by decide⟩
  split at h
  · rename_i z; rw [eq_of_beq z]; cases h; exact ⟨by decide +kernel, by decide, by decide, by decide⟩
  split at h
  · rename_i z; rw [eq_of_beq z]; cases h; exact ⟨by decide +kernel, by decide, by decide, by decide⟩
  split at h
  · rename_i z; rw [eq_of_beq z]; cases h; exact ⟨by decide +kernel, by decide, by decide, by decide⟩
  · cases h

def isGl (C : Ctx) (x : Str) : Bool := (C.sc.names.lookup x == some .globalImplicit) && !(x == ("__debug__" : Str))
theorem isGl_ok {G : Gx} {C : Ctx} {X : Cx} {W : WX} {k : Nat} {x : Str} (g : Gd G C X W k) (h : isGl C x = true) : Gl X x ∧ (x == ("__debug__" : Str)) = false := by
  unfold isGl at h
  rw [Bool.and_eq_true] at h
  refine ⟨?_, by simpa using h.2⟩
  show X.env.scope.names.lookup x = _
  rw [g.sc]
  exact eq_of_beq h.1
/-- x(args) -/
def cCallN (G : Gx) (f : Expr → Option (Ev → M D)) (C : Ctx) (x : Str) (args : List Expr) (pos : Pos) : Option (Ev → M D) :=
  if isGl C x = true then match args with
    | [] => none
    | e :: es => match G.call x with
      | some g => if C.calm = true then (cArgs f (e :: es)).map (evL g) else none
      | none => if G.blt x = true then (if (x == "isinstance") = true then (match es with
          | [.Name t _] => (match tyName t with
            | some c => if (isGl C t && G.blt t && !isStar e) = true then (f e).map (ev1 (isiM c)) else none
            | none => none)
          | _ => none)
        else match bltM x C.calm (G.hint pos.line pos.col == 1) with
          | some g => (cArgs f (e :: es)).map (evL g)
          | none => none) else none
  else none
theorem rd_of {X : Cx} {W : WX} {e : Expr} {m : Ev → M D} (h : PE X e (cnE X.K W m)) (he : ∀ whole, isTrue e X.env whole = (do let v ← whole; standAt e.pos; holding [v] (truthy v))) : Rd X W e m := ⟨h, jt_of h he⟩
theorem cCallN_ok {G : Gx} {C : Ctx} {X : Cx} {W : WX} {k : Nat} {f : Expr → Option (Ev → M D)} (g : Gd G C X W k) (hf : ∀ e m, f e = some m → Rd X W e m) {x : Str} {args : List Expr} {p pos : Pos} {m : Ev → M D} (h : cCallN G f C x args pos = some m) : Rd X W (.Call (.Name x p) args [] pos) m := by
  refine rd_of ?_ fun _ => rfl
  unfold cCallN at h
  split at h
  · rename_i hgl
    obtain ⟨gl, hdb⟩ := isGl_ok g hgl
    split at h
    · cases h
    · rename_i e es
      split at h
      · rename_i fn hc
        split at h
        · rename_i cl
          obtain ⟨ms, q, rfl⟩ := Option.map_eq_some_iff.mp h
          obtain ⟨pa, st⟩ := cArgs_ok hf q
          obtain ⟨fa, fd, ps, F, hm, hk, hb⟩ := (g.call x fn hc).ex
          simp only [List.all_cons, Bool.and_eq_true, Bool.not_eq_true'] at st
          exact je_call F (g.room cl) gl hm hk hb g.tk pa hdb (star_cons st.1) (star_none (by simpa using st.2)).1
        · cases h
      · split at h
        · rename_i hbl
          have hm := g.blt x hbl
          split at h
          · rename_i hx
            have hx := eq_of_beq hx
            subst hx
            split at h
            · rename_i t pt
              split at h
              · rename_i c hty
                split at h
                · rename_i hh
                  simp only [Bool.and_eq_true, Bool.not_eq_true'] at hh
                  obtain ⟨m', q, rfl⟩ := Option.map_eq_some_iff.mp h
                  obtain ⟨z1, z2, z3, z4⟩ := tyName_ok hty
                  exact je_isi gl hm (isGl_ok g hh.1.1).1 (g.blt t hh.1.2) z1 z2 (hf e m' q).e z3 z4 (star_cons hh.2)
                · cases h
              · cases h
            · cases h
          · split at h
            · rename_i fn hb
              obtain ⟨ms, q, rfl⟩ := Option.map_eq_some_iff.mp h
              obtain ⟨pa, st⟩ := cArgs_ok hf q
              simp only [List.all_cons, Bool.and_eq_true, Bool.not_eq_true'] at st
              exact bltM_ok g.calm hb gl hm pa (star_cons st.1) (star_none (by simpa using st.2)).1
            · cases h
        · cases h
  · cases h

def mtM (x : Str) (n : Nat) : Option (String × (D → List D → M D)) :=
  if (x == "append") = true then (if n = 1 then some ("list", appM) else none) else if (x == "pop") = true then (if n ≤ 1 then some ("list", popM) else none) else if (x == "count") = true then (if n = 1 then some ("list", cntM) else none) else none
structure MtOk (X : Cx) (x : Str) (T : String) (f : D → List D → M D) : Prop where
  ex : ∃ (id : String) (r : V → List V → Hp → VK → Prop), PlainAttrs T ∧ Slot T x id ∧ typeOf (.builtin id) = pure (.type "method_descriptor") ∧ MtR X id r ∧ MtAd X.K r f
theorem mtM_ok {X : Cx} {x : Str} {n : Nat} {T : String} {f : D → List D → M D} (h : mtM x n = some (T, f)) : MtOk X x T f := by
  unfold mtM at h
  split at h
  · rename_i z; rw [eq_of_beq z]
    split at h
    · cases h
      exact ⟨_, rAppend, PySem.F.plainAttrs_list, PySem.F.slot_list_append, rfl, mt_append, ad_app⟩
    · cases h
  split at h
  · rename_i z; rw [eq_of_beq z]
    split at h
    · cases h
      exact ⟨_, _, PySem.F.plainAttrs_list, PySem.F.slot_list_pop, rfl, mt_popB, ad_pop⟩
    · cases h
  split at h
  · rename_i z; rw [eq_of_beq z]
    split at h
    · cases h
      exact ⟨_, _, PySem.F.plainAttrs_list, PySem.F.slot_list_count, rfl, mt_countB, ad_cnt⟩
    · cases h
  · cases h
def notCall : Expr → Bool
  | .Call _ _ _ _ => false
  | _ => true
def cCallA (f : Expr → Option (Ev → M D)) (o : Expr) (name : Str) (apos : Pos) (args : List Expr) (pos : Pos) : Option (Ev → M D) :=
  if ((apos.endLine == pos.line) && notCall o && decide (args.length < 30)) = true then match mtM name args.length, f o, cArgs f args with
    | some (T, g), some mo, some ms => some (evMt T g mo ms)
    | _, _, _ => none
  else none
theorem base_of {o : Expr} {name : Str} {env : Env} (h : notCall o = true) : attributeBase o name env (eval o env) = eval o env := by
  cases o <;> first | rfl | cases h
theorem cCallA_ok {X : Cx} {W : WX} {f : Expr → Option (Ev → M D)} (hf : ∀ e m, f e = some m → Rd X W e m) {o : Expr} {name : Str} {apos : Pos} {args : List Expr} {pos : Pos} {m : Ev → M D} (h : cCallA f o name apos args pos = some m) : Rd X W (.Call (.Attribute o name apos) args [] pos) m := by
  refine rd_of ?_ fun _ => rfl
  unfold cCallA at h
  split at h
  · rename_i c
    simp only [Bool.and_eq_true, decide_eq_true_eq] at c
    obtain ⟨⟨c1, c2⟩, c3⟩ := c
    split at h
    · rename_i T g mo ms h1 h2 h3
      cases h
      obtain ⟨id, r, z1, z2, z3, z4, z5⟩ := (mtM_ok (X := X) h1).ex
      obtain ⟨pa, st⟩ := cArgs_ok hf h3
      cases args with
      | nil => cases h3; exact je_bm0 z1 z2 z3 z4 z5 (hf o mo h2).e (base_of c2) c1
      | cons e es =>
        have st' := st
        simp only [List.all_cons, Bool.and_eq_true, Bool.not_eq_true'] at st'
        refine je_bm z1 z2 z3 z4 z5 (hf o mo h2).e pa (base_of c2) ?_ c1 (star_cons st'.1) (star_none (by simpa using st'.2)).1
        rw [(star_none st).2]
        show (true && true && _) = true
        simpa using c3
    · cases h
  · cases h
end Mp
namespace Mp
open PySem PySem.Spec PyProof.Rows L2

theorem units_mark {A : Around} {x : Option Value} : (A.mark x).units = A.units := rfl
section
variable {G : Gx} {C : Ctx} {X : Cx} {W : WX} {k : Nat}
theorem Gd.tr (g : Gd G C X W k) {W' : WX} {pn : List (Addr × Obj)} {xe : Value → Shared → Prop} (tk : Takes (X.tr pn xe) W') (po : PassesOwn (model X.prog X.w) X.A X.env xe) : Gd G C (X.tr pn xe) W' k :=
  ⟨g.N, g.nd, g.sc, g.calm, g.room, g.un, tk, po, g.fn, g.stk, fun x f h => ⟨(g.call x f h).ex⟩, g.con, g.blt, g.cls, g.exm⟩
theorem Gd.suite (g : Gd G C X W k) {a : Addr} {pn : List (Addr × Obj)} : Gd G { C with calm := false } (X.suite a pn) W0 k :=
  ⟨g.N, g.nd, g.sc, (fun z => nomatch z), (fun z => nomatch z), g.un, LamX.takes0, PassesOwn.never, g.fn, g.stk, fun x f h => ⟨(g.call x f h).ex⟩, g.con, g.blt, g.cls, g.exm⟩
theorem relabel_relS {scope sc : Scope} {env : Env} (h : env.scope = sc) : relabel scope env = relS scope sc := by
  subst h
  rfl
theorem Gd.blk (g : Gd G C X W k) {s : Shared} {H : Hp} {scope : Scope} {cl : List (Str × Addr)} {p : Addr} {fp : List Addr} : Gd G { C with sc := relS scope C.sc, top := false } (X.blk s H scope (compEnvC scope cl p X.env) fp) W0 k :=
  ⟨g.N, g.nd, relabel_relS g.sc, g.calm, g.room, g.un, LamX.takes0, PassesOwn.never, (fun z => nomatch z), (fun z => nomatch z), fun x f h => ⟨(g.call x f h).ex⟩, g.con, g.blt, g.cls, g.exm⟩
end

def locIx (C : Ctx) (x : Str) : Option Nat := match C.sc.names.lookup x with
  | some .local => ixOf x C.N
  | some .cell => if C.top = true then ixOf x C.N else none
  | _ => none
def locIxs (C : Ctx) : List Expr → Option (List Nat)
  | [] => some []
  | .Name x _ :: es => match locIx C x, locIxs C es with
    | some i, some is => some (i :: is)
    | _, _ => none
  | _ :: _ => none
def cTg (C : Ctx) : Expr → Option Tg
  | .Name x _ => (locIx C x).map Tg.nm
  | .Tuple es _ _ => if C.calm = true then (locIxs C es).map Tg.tp else none
  | _ => none
def gOf (K : PySem.W.Frag) : Tg → TG
  | .nm i => gName i
  | .tp is => gTup K is.length (gNames is)
theorem gOf_in {K : PySem.W.Frag} : ∀ t : Tg, TgIn K (gOf K t) t
  | .nm i => tgi_nm
  | .tp is => tgi_tp
section
variable {G : Gx} {C : Ctx} {X : Cx} {W : WX} {k : Nat}
theorem locIx_ok (g : Gd G C X W k) {x : Str} {i : Nat} (h : locIx C x = some i) : X.N[i]? = some x ∧ Loc X.env.scope x ∧ (X.fn x = true ∨ X.env.scope.names.lookup x = some .local) := by
  rw [g.N, g.sc]
  unfold locIx at h
  split at h
  · rename_i q
    exact ⟨ixOf_at h, .inl q, .inr q⟩
  · rename_i q
    split at h
    · rename_i t
      exact ⟨ixOf_at h, .inr q, .inl (g.fn t x)⟩
    · cases h
  · cases h
theorem nd_of (g : Gd G C X W k) : X.N.Nodup := by rw [g.N]; exact g.nd
theorem locIxs_ok (g : Gd G C X W k) : ∀ {es : List Expr} {is : List Nat}, locIxs C es = some is → PGs X es (gNames is) ∧ (assignEach es X.env).length = is.length ∧ (assignEach es X.env).findIdx? (·.1) = none
  | [], is, h => by cases h; exact ⟨pgs_nil, rfl, rfl⟩
  | e :: es, is, h => by
    cases e with
    | Name x p =>
      unfold locIxs at h
      split at h
      · rename_i i is' h1 h2
        cases h
        obtain ⟨q1, q2, q3⟩ := locIxs_ok g h2
        obtain ⟨z1, z2, z3⟩ := locIx_ok g h1
        refine ⟨pgs_cons (pg_name (nd_of g) z1 z2 z3) q1 rfl, ?_, ?_⟩
        · show (assignEach es X.env).length + 1 = _
          rw [q2]
          rfl
        · show ((false, assign (.Name x p) X.env) :: assignEach es X.env).findIdx? (·.1) = none
          rw [List.findIdx?_cons, q3]
          rfl
      · cases h
    | _ => cases h
theorem cTg_ok (g : Gd G C X W k) {tg : Expr} {t : Tg} (h : cTg C tg = some t) : PG X tg (gOf X.K t) := by
  cases tg with
  | Name x p =>
    obtain ⟨i, q, rfl⟩ := Option.map_eq_some_iff.mp (show (locIx C x).map Tg.nm = some t from h)
    obtain ⟨z1, z2, z3⟩ := locIx_ok g q
    exact pg_name (nd_of g) z1 z2 z3
  | Tuple es j p =>
    have h : (if C.calm = true then (locIxs C es).map Tg.tp else none) = some t := h
    split at h
    · rename_i cl
      obtain ⟨is, q, rfl⟩ := Option.map_eq_some_iff.mp h
      obtain ⟨q1, q2, q3⟩ := locIxs_ok g q
      exact pg_tup (g.calm cl) q1 q2 q3
    · cases h
  | _ => cases h
end

def cI (G : Gx) (f : Expr → Option (Ev → M D)) (C : Ctx) (e : Expr) : Option (Ev → M (List D)) := match e with
  | .Call (.Name x _) args [] _ => if (x == "range") = true then (if (isGl C x && G.blt x && (args.length == 1 || args.length == 2)) = true then (cArgs f args).map evRng else none) else (f e).map evWalk
  | .Set _ _ _ => none
  | e => (f e).map evWalk
section
variable {G : Gx} {C : Ctx} {X : Cx} {W : WX} {k : Nat}
theorem cI_ok (g : Gd G C X W k) {f : Expr → Option (Ev → M D)} (hf : ∀ e m, f e = some m → Rd X W e m) {e tg : Expr} {mi : Ev → M (List D)} (h : cI G f C e = some mi) : PI X tg e (cnI X.K W mi) ∧ ∀ env x, foldedSetIterable e env x = pure x := by
  have fs : (∀ a b c, e ≠ .Set a b c) → ∀ env x, foldedSetIterable e env x = pure x := fun q env x => by
    cases e <;> first | rfl | exact absurd rfl (q _ _ _)
  have wk : ∀ e' mi, (f e').map evWalk = some mi → PI X tg e' (cnI X.K W mi) := fun e' mi q => by
    obtain ⟨m, z, rfl⟩ := Option.map_eq_some_iff.mp q
    exact ji_walk (hf e' m z).e
  unfold cI at h
  split at h
  · rename_i x p args pos
    refine ⟨?_, fs fun _ _ _ z => nomatch z⟩
    split at h
    · rename_i hx
      have hx := eq_of_beq hx
      subst hx
      split at h
      · rename_i c
        simp only [Bool.and_eq_true, Bool.or_eq_true, beq_iff_eq] at c
        obtain ⟨⟨c1, c2⟩, c3⟩ := c
        obtain ⟨ms, q, rfl⟩ := Option.map_eq_some_iff.mp h
        obtain ⟨pa, st⟩ := cArgs_ok hf q
        have gl := (isGl_ok g c1).1
        have hm := g.blt _ c2
        have ln := cArgs_len q
        match args, c3 with
        | [a], _ =>
          simp only [List.all_cons, Bool.and_eq_true, Bool.not_eq_true'] at st
          exact ji_range1 gl hm pa ln (star_cons st.1)
        | [a, b], _ =>
          simp only [List.all_cons, Bool.and_eq_true, Bool.not_eq_true'] at st
          exact ji_range2 gl hm pa ln (by rw [star_cons st.1, star_cons st.2.1]; rfl) (star_cons st.2.1)
      · cases h
    · exact wk _ _ h
  · cases h
  · rename_i h1 h2
    exact ⟨wk _ _ h, fs h2⟩
end

def ownOf (N : List Str) (scope : Scope) : List (Str × Nat) := scope.names.filterMap fun y => if (y.2 == .local || y.2 == .cell) = true then (ixOf y.1 N).map fun i => (y.1, i) else none
def blkB (N : List Str) (sc scope : Scope) (own : List (Str × Nat)) : Bool :=
  (scope.kind == .function) && (scope.names.all fun y => scope.names.lookup y.1 == some y.2) && (own.all fun p => N[p.2]? == some p.1) &&
  (scope.names.all fun y => !(y.2 == .free) || (sc.names.lookup y.1 == some .cell || sc.names.lookup y.1 == some .free)) &&
  (scope.names.all fun y => !(y.2 == .local || y.2 == .cell) || ((own.map (·.1)).contains y.1 || !(N.contains y.1)))
theorem blkB_ok {N : List Str} {sc scope : Scope} {own : List (Str × Nat)} (h : blkB N sc scope own = true) : BlkOk N sc scope own := by
  unfold blkB at h
  simp only [Bool.and_eq_true, List.all_eq_true] at h
  obtain ⟨⟨⟨⟨h1, h2⟩, h3⟩, h4⟩, h5⟩ := h
  refine ⟨eq_of_beq h1, fun y hy => eq_of_beq (h2 y hy), fun p hp => eq_of_beq (h3 p hp), fun y hy e => ?_, fun y hy e => ?_⟩
  · have z := h4 y hy
    rw [e] at z
    simp only [Bool.or_eq_true, beq_iff_eq] at z
    rcases z with z | z | z
    · cases z
    · exact .inl z
    · exact .inr z
  · have z := h5 y hy
    simp only [Bool.or_eq_true, Bool.not_eq_true', List.contains_eq_mem, decide_eq_true_eq, decide_eq_false_iff_not, Bool.or_eq_false_iff] at z
    rcases z with z | z | z
    · rcases e with e | e
      · rw [e] at z; exact absurd z.1 (by decide)
      · rw [e] at z; exact absurd z.2 (by decide)
    · exact .inl z
    · exact .inr z
def evTrue : Ev → M Bool := fun _ => M.ret true
/-- a new dict -/
def evNewK : Ev → M D := fun _ st => .ok (.loc st.next) (st.new (.dk []))
def evNewT : Ev → M D := fun _ st => .ok (.loc st.next) (st.new (.dt []))
def cIfs (f : Expr → Option (Ev → M D)) : List Expr → Option (Ev → M Bool)
  | [] => some evTrue
  | [e] => (f e).map evT
  | _ => none
theorem cIfs_ok {X : Cx} {W : WX} {f : Expr → Option (Ev → M D)} (hf : ∀ e m, f e = some m → Rd X W e m) {es : List Expr} {m : Ev → M Bool} (h : cIfs f es = some m) : PTs X es (cnT X.K W m) := by
  unfold cIfs at h
  split at h
  · cases h; exact jts_nil
  · obtain ⟨m', q, rfl⟩ := Option.map_eq_some_iff.mp h
    exact jts_one (hf _ m' q).t
  · cases h
def cComp (G : Gx) (r : CE) (C : Ctx) (elt : Expr) (gens : List Comprehension) (scope : Scope) : Option (Ev → M D) := match gens with
  | [⟨tg, iter, ifs, 0⟩] => if (C.calm && blkB C.N C.sc scope (ownOf C.N scope)) = true then
      (match cI G (r C) C iter, cTg { C with sc := relS scope C.sc, top := false } tg, cIfs (r { C with sc := relS scope C.sc, top := false }) ifs, r { C with sc := relS scope C.sc, top := false } elt with
      | some mi, some t, some mt, some me => if (t.slots.all fun i => ((ownOf C.N scope).map (·.2)).contains i) = true then some (evLc mi t ((ownOf C.N scope).map (·.2)) mt me) else none
      | _, _, _, _ => none) else none
  | _ => none
section
variable {G : Gx} {C : Ctx} {X : Cx} {W : WX} {k : Nat} {r : CE}
theorem cComp_ok (hr : SoundE G r) (g : Gd G C X W k) {elt : Expr} {gens : List Comprehension} {scope : Scope} {pos : Pos} {m : Ev → M D} (h : cComp G r C elt gens scope = some m) : PE X (.ListComp elt gens scope pos) (cnE X.K W m) ∧
    ∀ (i : Nat) (y : Str) (py spos : Pos), X.N[i]? = some y → X.env.scope.names.lookup y = some .local → swapsWith (.ListComp elt gens scope pos) (some (.Name y py)) spos.line X.env = pure true → PS X (.Assign [.Name y py] (.ListComp elt gens scope pos) spos) (cnS X.K W (sAsg i m)) := by
  unfold cComp at h
  split at h
  · rename_i tg iter ifs
    split at h
    · rename_i c
      rw [Bool.and_eq_true] at c
      split at h
      · rename_i mi t mt me h1 h2 h3 h4
        split at h
        · rename_i hsl
          cases h
          have tv : ∀ i ∈ t.slots, i ∈ (ownOf C.N scope).map (·.2) := fun i hi => by
            have z := List.all_eq_true.mp hsl i hi
            simpa using z
          obtain ⟨pi, fs⟩ := cI_ok (tg := tg) g (fun e m q => hr C X W k g e m q) h1
          have bo : BlkOk X.N X.env.scope scope (ownOf C.N scope) := by rw [g.N, g.sc]; exact blkB_ok c.2
          have hg : ∀ (s : Shared) (H : Hp) (p : Addr) (cl : List (Str × Addr)) (fp : List Addr), PG (X.blk s H scope (compEnvC scope cl p X.env) fp) tg (gOf X.K t) := fun s H p cl fp => cTg_ok (g.blk (s := s) (H := H) (scope := scope) (cl := cl) (p := p) (fp := fp)) h2
          have ht : ∀ (s : Shared) (H : Hp) (p : Addr) (cl : List (Str × Addr)) (fp : List Addr), PTs (X.blk s H scope (compEnvC scope cl p X.env) fp) ifs (cnT X.K W0 mt) := fun s H p cl fp => cIfs_ok (fun e m q => hr _ _ W0 k (g.blk (s := s) (H := H) (scope := scope) (cl := cl) (p := p) (fp := fp)) e m q) h3
          have he : ∀ (s : Shared) (H : Hp) (p : Addr) (cl : List (Str × Addr)) (fp : List Addr), PE (X.blk s H scope (compEnvC scope cl p X.env) fp) elt (cnE X.K W0 me) := fun s H p cl fp => (hr _ _ W0 k (g.blk (s := s) (H := H) (scope := scope) (cl := cl) (p := p) (fp := fp)) elt me h4).e
          exact ⟨je_lc (g.calm c.1) (nd_of g) pi bo hg ht he (fs X.env) (gOf_in t) tv, fun i y py spos hi hl hsw => js_setLc (g.calm c.1) (nd_of g) hi hl hsw pi bo hg ht he (fs X.env) (gOf_in t) tv⟩
        · cases h
      · cases h
    · cases h
  · cases h
end

def cPairs (f : Expr → Option (Ev → M D)) : List (Option Expr) → List Expr → Option (List ((Ev → M D) × (Ev → M D)))
  | [], [] => some []
  | some k :: ks, v :: vs => match f k, f v, cPairs f ks vs with
    | some a, some b, some l => some ((a, b) :: l)
    | _, _, _ => none
  | _, _ => none
theorem cPairs_ok {X : Cx} {W : WX} {f : Expr → Option (Ev → M D)} {pos : Pos} (hf : ∀ e m, f e = some m → Rd X W e m) : ∀ {ks : List (Option Expr)} {vs : List Expr} {l : List ((Ev → M D) × (Ev → M D))}, cPairs f ks vs = some l → PPs X pos ks vs (cnPs X.K W l) ∧ ks.all (·.isSome) = true ∧ ks.length = vs.length
  | [], [], l, h => by cases h; exact ⟨pps_nil, rfl, rfl⟩
  | some k :: ks, v :: vs, l, h => by
    unfold cPairs at h
    split at h
    · rename_i a b l' h1 h2 h3
      cases h
      obtain ⟨q1, q2, q3⟩ := cPairs_ok (pos := pos) hf h3
      refine ⟨pps_cons (hf k a h1).e (hf v b h2).e q1, ?_, ?_⟩
      · rw [List.all_cons, q2]
        rfl
      · rw [List.length_cons, List.length_cons, q3]
    · cases h
  | none :: _, _, _, h => by cases h
  | [], _ :: _, _, h => by cases h
  | some _ :: _, [], _, h => by cases h

def isSlice : Expr → Bool
  | .Slice _ _ _ _ => true
  | _ => false
def cOpt (f : Expr → Option (Ev → M D)) : Option Expr → Option (Option (Ev → M D))
  | none => some none
  | some e => (f e).map some
theorem cOpt_ok {X : Cx} {W : WX} {f : Expr → Option (Ev → M D)} (hf : ∀ e m, f e = some m → Rd X W e m) {o : Option Expr} {m : Option (Ev → M D)} (h : cOpt f o = some m) : PO X o (cnO X.K W (evPart m)) := by
  cases o with
  | none => cases h; exact jo_none
  | some e =>
    obtain ⟨m', q, rfl⟩ := Option.map_eq_some_iff.mp (show (f e).map some = some m from h)
    exact jo_some (hf e m' q).e
def cSub (f : Expr → Option (Ev → M D)) (a b : Expr) : Option (Ev → M D) := match b with
  | .Slice lo hi none _ => (match f a, cOpt f lo, cOpt f hi with
    | some ma, some ml, some mh => some (evSli ma ml mh)
    | _, _, _ => none)
  | b => if isSlice b = true then none else match f a, f b with
    | some ma, some mb => some (ev2 idxM ma mb)
    | _, _ => none
theorem cSub_ok {X : Cx} {W : WX} {f : Expr → Option (Ev → M D)} (hu : X.A.units + 66 < cLine) (hf : ∀ e m, f e = some m → Rd X W e m) {a b : Expr} {pos : Pos} {m : Ev → M D} (h : cSub f a b = some m) : Rd X W (.Subscript a b pos) m := by
  refine rd_of ?_ fun _ => rfl
  unfold cSub at h
  split at h
  · split at h
    · rename_i h1 h2 h3
      cases h
      exact je_sli (hf _ _ h1).e (cOpt_ok hf h2) (cOpt_ok hf h3)
    · cases h
  · split at h
    · cases h
    · rename_i hs
      split at h
      · rename_i h1 h2
        cases h
        refine je_idx (by omega) (hf _ _ h1).e (hf _ _ h2).e ?_
        intro o i
        cases b <;> first | rfl | exact absurd rfl hs
      · cases h
def cCmp (f : Expr → Option (Ev → M D)) (a : Expr) (ops : List CmpOp) (bs : List Expr) : Option (Ev → M D) := match ops, bs with
  | [op], [b] => if behindInMarks op b = true then none else match f a, f b with
    | some ma, some mb => some (ev2 (cmpM op) ma mb)
    | _, _ => none
  | [op, op'], [b, c] => if lastMarks [op, op'] [b, c] = true then none else match f a, f b, f c with
    | some ma, some mb, some mc => some (evCh (cmpM op) (cmpM op') ma mb mc)
    | _, _, _ => none
  | _, _ => none
theorem cCmp_ok {X : Cx} {W : WX} {f : Expr → Option (Ev → M D)} (hu : X.A.units + 66 < cLine) (hf : ∀ e m, f e = some m → Rd X W e m) {a : Expr} {ops : List CmpOp} {bs : List Expr} {pos : Pos} {m : Ev → M D} (h : cCmp f a ops bs = some m) : Rd X W (.Compare a ops bs pos) m := by
  unfold cCmp at h
  split at h
  · rename_i op b
    split at h
    · cases h
    · rename_i hb
      split at h
      · rename_i h1 h2
        cases h
        obtain ⟨r, z1, z2⟩ := cmpM_ok hu op
        have hb : behindInMarks op b = false := by simpa using hb
        exact ⟨je_cmp z1 z2 (hf _ _ h1).e (hf _ _ h2).e hb, jt_cmp z1 z2 (cmpM_truth op) (hf _ _ h1).e (hf _ _ h2).e hb⟩
      · cases h
  · rename_i op op' b c
    split at h
    · cases h
    · rename_i hb
      split at h
      · rename_i h1 h2 h3
        cases h
        obtain ⟨r, z1, z2⟩ := cmpM_ok hu op
        obtain ⟨r', z1', z2'⟩ := cmpM_ok hu op'
        have hb : lastMarks [op, op'] [b, c] = false := by simpa using hb
        exact ⟨je_chain z1 z1' z2 z2' (hf _ _ h1).e (hf _ _ h2).e (hf _ _ h3).e hb, jt_chain z1 z1' z2 z2' (cmpM_truth op') (hf _ _ h1).e (hf _ _ h2).e (hf _ _ h3).e hb⟩
      · cases h
  · cases h
def cName (G : Gx) (C : Ctx) (x : Str) : Option (Ev → M D) :=
  if ((x == ("__debug__" : Str)) || (x == ("__classdict__" : Str))) = true then none else match C.sc.names.lookup x with
    | some .local => (ixOf x C.N).map evVar
    | some .cell => (ixOf x C.N).map evVar
    | some .free => (ixOf x C.N).map evVar
    | some .globalImplicit => (G.con x).map evC
    | _ => none
theorem cName_ok {G : Gx} {C : Ctx} {X : Cx} {W : WX} {k : Nat} (g : Gd G C X W k) {x : Str} {pos : Pos} {m : Ev → M D} (h : cName G C x = some m) : Rd X W (.Name x pos) m := by
  refine rd_of ?_ fun _ => rfl
  unfold cName at h
  split at h
  · cases h
  · rename_i hd
    simp only [Bool.or_eq_true, not_or, Bool.not_eq_true] at hd
    have var : ∀ m', (ixOf x C.N).map evVar = some m' → Vis C.sc x → PE X (.Name x pos) (cnE X.K W m') := fun m' q v => by
      obtain ⟨i, z, rfl⟩ := Option.map_eq_some_iff.mp q
      exact je_var (by rw [g.N]; exact ixOf_at z) (by rw [g.sc]; exact v) hd.1 hd.2
    split at h
    · rename_i q
      exact var _ h (.inl q)
    · rename_i q
      exact var _ h (.inr (.inl q))
    · rename_i q
      exact var _ h (.inr (.inr q))
    · rename_i q
      obtain ⟨d, z, rfl⟩ := Option.map_eq_some_iff.mp h
      obtain ⟨u, v, m1, m2, m3⟩ := g.con x d z
      exact je_glob (by show X.env.scope.names.lookup x = _; rw [g.sc]; exact q) m1 m2 m3 hd.1
    · cases h
def cConst : Const → Option (Ev → M D)
  | .none => some (evC .non)
  | .bool b => some (evC (.bl b))
  | .int i => some (evC (.int i))
  | .str s => some (evC (.str s))
  | _ => none
def cUn (f : Expr → Option (Ev → M D)) (op : UnaryOp) (a : Expr) : Option (Ev → M D) := match op with
  | .Not => (f a).map evNot
  | .USub => (f a).map (ev1 negM)
  | _ => none
def cCall (G : Gx) (f : Expr → Option (Ev → M D)) (C : Ctx) (fn : Expr) (args : List Expr) (kws : List Keyword) (pos : Pos) : Option (Ev → M D) := match fn, kws with
  | .Name x _, [] => cCallN G f C x args pos
  | .Attribute o name apos, [] => cCallA f o name apos args pos
  | _, _ => none
def cDict (G : Gx) (f : Expr → Option (Ev → M D)) (keys : List (Option Expr)) (vals : List Expr) (pos : Pos) : Option (Ev → M D) := match keys, vals with
  | [], [] => if (G.hint pos.line pos.col == 1) = true then some evNewT else some evNewK
  | keys, vals => if (keys.isEmpty || decide (15 < keys.length)) = true then none else (cPairs f keys vals).map evDisp
def cE1 (G : Gx) (r : CE) : CE := fun C e => match e with
  | .Name x _ => cName G C x
  | .Constant c _ _ => cConst c
  | .BinOp a op b _ => (match binM op, r C a, r C b with
    | some f, some ma, some mb => some (ev2 f ma mb)
    | _, _, _ => none)
  | .UnaryOp op a _ => cUn (r C) op a
  | .BoolOp op es _ => cBool op (r C) es
  | .IfExp t a b _ => (match r C t, r C a, r C b with
    | some mt, some ma, some mb => some (evIf mt ma mb)
    | _, _, _ => none)
  | .Compare a ops bs _ => cCmp (r C) a ops bs
  | .Tuple es _ _ => (cArgs (r C) es).map (evL tupM)
  | .List es pos => (cArgs (r C) es).map (evL (if (G.hint pos.line pos.col == 1) = true then lstN else lstM))
  | .Dict keys vals pos => cDict G (r C) keys vals pos
  | .Subscript a b _ => cSub (r C) a b
  | .ListComp elt gens scope pos => (match G.hint pos.line pos.col with
    | 0 => cComp G r C elt gens scope
    | n + 1 => (cComp G r C elt gens scope).map (evLock n))
  | .Call fn args kws pos => cCall G (r C) C fn args kws pos
  | _ => none
theorem cE1_ok {G : Gx} {r : CE} (hr : SoundE G r) : SoundE G (cE1 G r) := by
  intro C X W k g e m h
  have hf : ∀ e m, r C e = some m → Rd X W e m := fun e m q => hr C X W k g e m q
  cases e with
  | Name x p => exact cName_ok g h
  | Constant c j p =>
    refine rd_of ?_ fun _ => rfl
    cases c <;> first | (cases h; exact je_non) | (cases h; exact je_bl) | (cases h; exact je_int) | (cases h; exact je_str) | cases h
  | BinOp a op b p =>
    refine rd_of ?_ fun _ => rfl
    simp only [cE1] at h
    split at h
    · rename_i f ma mb h0 h1 h2
      cases h
      obtain ⟨r', z1, z2⟩ := binM_ok (X := X) h0
      exact je_op z1 z2 (hf _ _ h1).e (hf _ _ h2).e
    · cases h
  | UnaryOp op a p =>
    simp only [cE1, cUn] at h
    split at h
    · obtain ⟨m', q, rfl⟩ := Option.map_eq_some_iff.mp h
      exact ⟨je_not (hf _ _ q).e, jt_not (hf _ _ q).t⟩
    · obtain ⟨m', q, rfl⟩ := Option.map_eq_some_iff.mp h
      exact rd_of (je_un un_neg ad_neg (hf _ _ q).e) fun _ => rfl
    · cases h
  | BoolOp op es p =>
    obtain ⟨q1, q2⟩ := cBool_ok (pos := p) hf h
    exact ⟨q1, q2.pt⟩
  | IfExp t a b p =>
    simp only [cE1] at h
    split at h
    · rename_i h0 h1 h2
      cases h
      exact ⟨je_if (hf _ _ h0).t (hf _ _ h1).e (hf _ _ h2).e, jt_if (hf _ _ h0).t (hf _ _ h1).t (hf _ _ h2).t⟩
    · cases h
  | Compare a ops bs p => exact cCmp_ok g.un hf h
  | Tuple es j p =>
    obtain ⟨ms, q, rfl⟩ := Option.map_eq_some_iff.mp (show (cArgs (r C) es).map (evL tupM) = some m from h)
    exact rd_of (je_tup (cArgs_ok hf q).1) fun _ => rfl
  | List es p =>
    obtain ⟨ms, q, rfl⟩ := Option.map_eq_some_iff.mp (show (cArgs (r C) es).map _ = some m from h)
    refine rd_of ?_ fun _ => rfl
    split
    · exact je_lstN (cArgs_ok hf q).1
    · exact je_lst (cArgs_ok hf q).1
  | Dict keys vals p =>
    refine rd_of ?_ fun _ => rfl
    simp only [cE1, cDict] at h
    split at h
    · split at h
      · cases h; exact je_dnewT
      · cases h; exact je_dnew
    · split at h
      · cases h
      · rename_i c
        simp only [Bool.or_eq_true, not_or, decide_eq_true_eq, List.isEmpty_iff] at c
        obtain ⟨l, q, rfl⟩ := Option.map_eq_some_iff.mp h
        obtain ⟨z1, z2, z3⟩ := cPairs_ok (pos := p) hf q
        exact je_disp z1 z2 z3 c.1 (by omega)
  | Subscript a b p => exact cSub_ok g.un hf h
  | ListComp elt gens scope p =>
    refine rd_of ?_ fun _ => rfl
    simp only [cE1] at h
    split at h
    · exact (cComp_ok hr g h).1
    · obtain ⟨m', q, rfl⟩ := Option.map_eq_some_iff.mp h
      exact je_lock (cComp_ok hr g q).1
  | Call fn args kws p =>
    simp only [cE1, cCall] at h
    split at h
    · exact cCallN_ok g hf h
    · exact cCallA_ok hf h
    · cases h
  | _ => cases h
/-- how deep expressions may be -/
def cE (G : Gx) : Nat → CE
  | 0 => fun _ _ => none
  | n + 1 => cE1 G (cE G n)
theorem cE_ok {G : Gx} : ∀ n, SoundE G (cE G n)
  | 0 => fun _ _ _ _ _ _ _ h => by cases h
  | n + 1 => cE1_ok (cE_ok n)
end Mp
namespace Mp
open PySem PySem.Spec PyProof.Rows L2

def CS := Ctx → Stmt → Option SM
def SoundS (G : Gx) (r : CS) : Prop := ∀ C X W k, Gd G C X W k → ∀ s m, r C s = some m → PS X s (cnS X.K W m)
def cSs (f : Stmt → Option SM) : List Stmt → Option SM
  | [] => some sNil
  | [s] => f s
  | s :: r => match f s, cSs f r with
    | some m, some n => some (sSeq m n)
    | _, _ => none
theorem cSs_ok {X : Cx} {W : WX} {f : Stmt → Option SM} (hf : ∀ s m, f s = some m → PS X s (cnS X.K W m)) : ∀ {ss : List Stmt} {m : SM}, cSs f ss = some m → PSs X ss (cnS X.K W m)
  | [], _, h => by cases h; exact js_nil
  | [s], m, h => js_one (hf s m h)
  | s :: t :: r, m, h => by
    unfold cSs at h
    split at h
    · rename_i a b h1 h2
      cases h
      exact js_cons (hf s a h1) (cSs_ok hf h2)
    · cases h
def isComp : Expr → Bool
  | .ListComp _ _ _ _ => true
  | .SetComp _ _ _ _ => true
  | .DictComp _ _ _ _ _ => true
  | _ => false
theorem noswap1 {e t : Expr} {n : Nat} {env : Env} (h : isComp e = false) : swapsWithSole [t] e n env = pure false := by
  show swapsWith e (some t) n env = pure false
  cases e <;> first | rfl | cases h
theorem noswap {e : Expr} {t : Option Expr} {n : Nat} {env : Env} (h : isComp e = false) : swapsWith e t n env = pure false := by
  cases e <;> first | rfl | cases h
def isTupE : Expr → Bool
  | .Tuple _ _ _ => true
  | _ => false
/-- which names are stored from the right -/
def plainNames (sc : Scope) (ts : List Expr) : List Str := ts.filterMap fun
  | .Name id pos => if (sc.names.lookup id == some .local && pos.line == (ts.head?.map (·.pos.line)).getD 0) = true then some id else none
  | _ => none
def starIn (vs : List Expr) : Bool := vs.any fun | .Starred .. => true | _ => false
def swapB (ts vs : List Expr) (sc : Scope) : Option (List Str) :=
  if (!(ts.length == 2 || ts.length == 3) || vs.length != ts.length || (sc.kind != .function)) = true then none else
  if starIn vs = true then none else
  if ((plainNames sc ts).length != ts.length || (plainNames sc ts).eraseDups.length != (plainNames sc ts).length) = true then none else
  if (vs.all (foldedForSure 8)) = true then none else
  if (vs.all (constantsAlone 8)) = true then none else some (plainNames sc ts)
theorem swapB_ok {env : Env} {ts vs : List Expr} {kt : Nat} {pt : Pos} {k2 : Nat} {p2 : Pos} {ns : List Str} (h : swapB ts vs env.scope = some ns) : swappedStores [.Tuple ts kt pt] (.Tuple vs k2 p2) env = pure (some ns) := by
  unfold swapB at h
  split at h
  · cases h
  rename_i c1
  split at h
  · cases h
  rename_i c2
  split at h
  · cases h
  rename_i c3
  split at h
  · cases h
  rename_i c4
  split at h
  · cases h
  rename_i c5
  cases h
  have bk : env.blockKind = env.scope.kind := by
    simp only [Bool.or_eq_true, not_or, bne_iff_ne, ne_eq, Decidable.not_not] at c1
    unfold Env.blockKind
    rw [c1.2]
    rfl
  unfold swappedStores
  dsimp only
  rw [bk]
  refine (if_neg c1).trans ((if_neg c2).trans ((if_neg c3).trans ((if_neg c4).trans ((if_neg c5).trans rfl))))

def isLocal (C : Ctx) (x : Str) : Bool := C.sc.names.lookup x == some .local
def cPar (f : Expr → Option (Ev → M D)) (C : Ctx) (ts vs : List Expr) : Option SM := match ts, vs with
  | [.Name x px, .Name y py], [a, b] => if (C.calm && (swapB [.Name x px, .Name y py] [a, b] C.sc == some [x, y]) && isLocal C x && isLocal C y) = true then (match ixOf x C.N, ixOf y C.N, cArgs f [a, b] with
    | some i, some j, some ms => if i = j then none else some (sPar [i, j] ms)
    | _, _, _ => none) else none
  | [.Name x px, .Name y py, .Name z pz], [a, b, c] => if (C.calm && (swapB [.Name x px, .Name y py, .Name z pz] [a, b, c] C.sc == some [x, y, z]) && isLocal C x && isLocal C y && isLocal C z) = true then (match ixOf x C.N, ixOf y C.N, ixOf z C.N, cArgs f [a, b, c] with
    | some i, some j, some l, some ms => if i = j ∨ i = l ∨ j = l then none else some (sPar [i, j, l] ms)
    | _, _, _, _ => none) else none
  | _, _ => none
section
variable {G : Gx} {C : Ctx} {X : Cx} {W : WX} {k : Nat}
theorem cPar_ok (g : Gd G C X W k) {f : Expr → Option (Ev → M D)} (hf : ∀ e m, f e = some m → Rd X W e m) {ts vs : List Expr} {kt k2 : Nat} {pt p2 pos : Pos} {m : SM} (h : cPar f C ts vs = some m) : PS X (.Assign [.Tuple ts kt pt] (.Tuple vs k2 p2) pos) (cnS X.K W m) := by
  unfold cPar at h
  split at h
  · rename_i x px y py a b
    split at h
    · rename_i c
      simp only [Bool.and_eq_true, isLocal, beq_iff_eq] at c
      obtain ⟨⟨⟨c1, c2⟩, c3⟩, c4⟩ := c
      split at h
      · rename_i i j ms h1 h2 h3
        split at h
        · cases h
        · rename_i hij
          cases h
          rw [← g.sc] at c2 c3 c4
          exact js_par (g.calm c1) (nd_of g) (by rw [g.N]; exact ixOf_at h1) (by rw [g.N]; exact ixOf_at h2) hij c3 c4 (cArgs_ok hf h3).1 (swapB_ok c2)
      · cases h
    · cases h
  · rename_i x px y py z pz a b e
    split at h
    · rename_i c
      simp only [Bool.and_eq_true, isLocal, beq_iff_eq] at c
      obtain ⟨⟨⟨⟨c1, c2⟩, c3⟩, c4⟩, c5⟩ := c
      split at h
      · rename_i i j l ms h1 h2 h2' h3
        split at h
        · cases h
        · rename_i hij
          cases h
          simp only [not_or] at hij
          rw [← g.sc] at c2 c3 c4 c5
          exact js_par3 (g.calm c1) (nd_of g) (by rw [g.N]; exact ixOf_at h1) (by rw [g.N]; exact ixOf_at h2) (by rw [g.N]; exact ixOf_at h2') hij.1 hij.2.1 hij.2.2 c3 c4 c5 (cArgs_ok hf h3).1 (swapB_ok c2)
      · cases h
    · cases h
  · cases h
/-- x = [..] on one line: stored from within -/
def swLc (sc : Scope) (x : Str) (px : Pos) (scope : Scope) (pos : Pos) : Bool :=
  sc.kind == .function && sc.names.lookup x == some .local && px.line == pos.line && !(scope.names.any fun (n, k) => n == x && (k == .local || k == .cell))
theorem swLc_ok {env : Env} {elt : Expr} {gens : List Comprehension} {scope : Scope} {pos px : Pos} {x : Str} {n : Nat} (hk : env.scope.kind = .function) : swapsWith (.ListComp elt gens scope pos) (some (.Name x px)) n env = pure (swLc env.scope x px scope pos) := by
  have bk : env.blockKind = env.scope.kind := by
    unfold Env.blockKind
    rw [hk]
    rfl
  show pure (env.blockKind == .function && env.kindOf x == some .local && px.line == pos.line && !(scope.names.any fun (n, k) => n == x && (k == .local || k == .cell))) = _
  rw [bk]
  rfl
def cAsgN (G : Gx) (r : CE) (C : Ctx) (x : Str) (px : Pos) (e : Expr) : Option SM := match e with
  | .ListComp elt gens scope pos => if (C.sc.kind == .function) = true then (match locIx C x with
    | some i => if swLc C.sc x px scope pos = true then (if (G.hint pos.line pos.col == 0 && isLocal C x) = true then (cComp G r C elt gens scope).map (sAsg i) else none) else (r C e).map (sAsg i)
    | none => none) else none
  | e => if isComp e = true then none else match locIx C x, r C e with
    | some i, some m => some (sAsg i m)
    | _, _ => none
theorem cAsgN_ok {r : CE} (hr : SoundE G r) (g : Gd G C X W k) {x : Str} {px pos : Pos} {e : Expr} {m : SM} (h : cAsgN G r C x px e = some m) : PS X (.Assign [.Name x px] e pos) (cnS X.K W m) := by
  unfold cAsgN at h
  split at h
  · rename_i elt gens scope p
    split at h
    · rename_i hk
      have hk : X.env.scope.kind = .function := by rw [g.sc]; exact eq_of_beq hk
      split at h
      · rename_i i hi
        obtain ⟨z1, z2, z3⟩ := locIx_ok g hi
        split at h
        · rename_i hw
          split at h
          · rename_i c
            simp only [Bool.and_eq_true, isLocal, beq_iff_eq] at c
            obtain ⟨m', q, rfl⟩ := Option.map_eq_some_iff.mp h
            refine (cComp_ok hr g q).2 i x px pos z1 (by rw [g.sc]; exact c.2) ?_
            rw [swLc_ok hk, g.sc, hw]
          · cases h
        · rename_i hw
          obtain ⟨m', q, rfl⟩ := Option.map_eq_some_iff.mp h
          refine js_asg (nd_of g) z1 z2 (hr C X W k g _ _ q).e ?_ z3
          rw [swLc_ok hk, g.sc]
          rw [Bool.not_eq_true] at hw
          rw [hw]
      · cases h
    · cases h
  · split at h
    · cases h
    · rename_i hc
      split at h
      · rename_i i m' hi q
        cases h
        obtain ⟨z1, z2, z3⟩ := locIx_ok g hi
        exact js_asg (nd_of g) z1 z2 (hr C X W k g _ _ q).e (noswap (by simpa using hc)) z3
      · cases h
def cAsg (G : Gx) (r : CE) (C : Ctx) (tgs : List Expr) (e : Expr) : Option SM := match tgs with
  | [.Name x px] => cAsgN G r C x px e
  | [.Tuple ts kt pt] => (match e with
    | .Tuple vs _ _ => cPar (r C) C ts vs
    | e => if isComp e = true then none else (match cTg C (.Tuple ts kt pt), r C e with
      | some t, some m => some (sTg t m)
      | _, _ => none))
  | [.Subscript o i _] => if (isComp e || isSlice i) = true then none else (match r C o, r C i, r C e with
    | some mo, some mi, some me => some (sSub mo mi me)
    | _, _, _ => none)
  | _ => none
theorem cAsg_ok {r : CE} (hr : SoundE G r) (g : Gd G C X W k) {tgs : List Expr} {pos : Pos} {e : Expr} {m : SM} (h : cAsg G r C tgs e = some m) : PS X (.Assign tgs e pos) (cnS X.K W m) := by
  have hf : ∀ e m, r C e = some m → Rd X W e m := fun e m q => hr C X W k g e m q
  unfold cAsg at h
  split at h
  · exact cAsgN_ok hr g h
  · rename_i ts kt pt
    split at h
    · exact cPar_ok g hf h
    · rename_i nt
      split at h
      · cases h
      · rename_i hc
        split at h
        · rename_i t m' h1 h2
          cases h
          refine js_tg (hf _ _ h2).e (cTg_ok g h1) (gOf_in t).ad (noswap1 (by simpa using hc)) ?_ rfl
          cases e <;> first | rfl | exact (nt _ _ _ rfl).elim
        · cases h
  · rename_i o i p
    split at h
    · cases h
    · rename_i hc
      simp only [Bool.or_eq_true, not_or, Bool.not_eq_true] at hc
      split at h
      · rename_i mo mi me h1 h2 h3
        cases h
        have hu := g.un
        refine js_sub (by omega) (hf _ _ h1).e (hf _ _ h2).e (hf _ _ h3).e (noswap1 hc.1) rfl rfl ?_
        intro v
        cases i <;> first | rfl | exact nomatch hc.2
      · cases h
  · cases h
end

def cRaise (G : Gx) (C : Ctx) (e : Option Expr) : Option SM := match e with
  | some (.Call (.Name x _) [.Constant (.str _) _ _] [] _) => if (isGl C x && G.cls x && C.calm) = true then some (sRaise x) else none
  | _ => none
def cTry (G : Gx) (r : CS) (C : Ctx) (body : List Stmt) (hs : List ExceptHandler) : Option SM := match hs with
  | [.ExceptHandler (some (.Name x _)) none (b :: su) _] => if (isGl C x && C.top && (G.exm x x).isSome) = true then (match cSs (r C) body, cSs (r { C with calm := false }) (b :: su) with
    | some m, some ms => some (sTry (G.exm x) m ms)
    | _, _ => none) else none
  | _ => none
def cS1 (G : Gx) (re : CE) (r : CS) : CS := fun C s => match s with
  | .Pass _ => some sPass
  | .Break _ => some sBrk
  | .Continue _ => some sCnt
  | .Expr e _ => if isComp e = true then none else (re C e).map sExpr
  | .Return none _ => some sRetN
  | .Return (some e) pos => (re C e).map (sRet (G.hint pos.line pos.col == 0))
  | .Assign tgs e _ => cAsg G re C tgs e
  | .If t a b _ => (match re C t, cSs (r C) a, cSs (r C) b with
    | some mt, some ma, some mb => some (sIf mt ma mb)
    | _, _, _ => none)
  | .For tg iter body [] _ => if C.calm = true then (match cI G (re C) C iter, cTg C tg, cSs (r C) body with
    | some mi, some t, some mb => some (sFor mi t mb)
    | _, _, _ => none) else none
  | .While t body [] _ => (match re C t, cSs (r C) body with
    | some mt, some mb => some (sWhile mt mb)
    | _, _ => none)
  | .Raise e none _ => cRaise G C e
  | .Try body hs [] [] _ => cTry G r C body hs
  | _ => none
theorem cS1_ok {G : Gx} {re : CE} {r : CS} (he : SoundE G re) (hr : SoundS G r) : SoundS G (cS1 G re r) := by
  intro C X W k g s m h
  have hf : ∀ e m, re C e = some m → Rd X W e m := fun e m q => he C X W k g e m q
  have hs : ∀ s m, r C s = some m → PS X s (cnS X.K W m) := fun s m q => hr C X W k g s m q
  unfold cS1 at h
  split at h
  · cases h; exact js_pass
  · cases h; exact js_brk
  · cases h; exact js_cnt
  · split at h
    · cases h
    · rename_i hc
      obtain ⟨m', q, rfl⟩ := Option.map_eq_some_iff.mp h
      exact js_expr (hf _ _ q).e (noswap (by simpa using hc))
  · cases h; exact js_retN
  · obtain ⟨m', q, rfl⟩ := Option.map_eq_some_iff.mp h
    exact js_ret (hf _ _ q).e
  · exact cAsg_ok he g h
  · split at h
    · rename_i h1 h2 h3
      cases h
      exact js_if (hf _ _ h1).t (cSs_ok hs h2) (cSs_ok hs h3)
    · cases h
  · split at h
    · rename_i cl
      split at h
      · rename_i mi t mb h1 h2 h3
        cases h
        obtain ⟨z1, z2⟩ := cI_ok g hf h1
        exact js_for g.po (g.calm cl) z1 (cTg_ok g h2) (gOf_in t).ad (cSs_ok hs h3) (z2 X.env)
      · cases h
    · cases h
  · split at h
    · rename_i h1 h2
      cases h
      exact js_while g.po (hf _ _ h1).t (cSs_ok hs h2)
    · cases h
  · unfold cRaise at h
    split at h
    · split at h
      · rename_i c
        simp only [Bool.and_eq_true] at c
        obtain ⟨⟨c1, c2⟩, c3⟩ := c
        cases h
        obtain ⟨gl, db⟩ := isGl_ok g c1
        exact js_raise (g.calm c3) g.tk ((g.cls _ c2).made X rfl rfl gl db _ _ _ _ _)
      · cases h
    · cases h
  · unfold cTry at h
    split at h
    · rename_i x np b su p'
      split at h
      · rename_i c
        simp only [Bool.and_eq_true] at c
        obtain ⟨⟨c1, c2⟩, c3⟩ := c
        split at h
        · rename_i m1 ms h1 h2
          cases h
          obtain ⟨gl, db⟩ := isGl_ok g c1
          obtain ⟨b0, hb0⟩ := Option.isSome_iff_exists.mp c3
          obtain ⟨cv, z1, z2⟩ := g.exm x x b0 hb0
          obtain ⟨k1, k2⟩ := g.stk c2
          refine js_try (c := cv) k1 k2 ⟨gl, db, z1⟩ g.tk (fun y v q => ?_) (fun W' pn xe tk po => cSs_ok (fun s m q => hr C _ W' k (g.tr tk po) s m q) h1) fun a oe pn => cSs_ok (fun s m q => hr _ _ W0 k g.suite s m q) h2
          obtain ⟨cv', y1, y2⟩ := g.exm x y v q
          have : cv' = cv := by
            rcases z1 with z1 | z1
            · rcases y1 with y1 | y1
              · rw [z1] at y1; exact (Option.some.inj y1).symm
              · rw [z1] at y1; exact nomatch y1.1
            · rcases y1 with y1 | y1
              · rw [z1.1] at y1; exact nomatch y1
              · rw [z1.2.1] at y1; exact (Option.some.inj y1.2.1).symm
          rw [← this]
          exact y2
        · cases h
      · cases h
    · cases h
  · cases h
def cS (G : Gx) (d : Nat) : Nat → CS
  | 0 => fun _ _ => none
  | n + 1 => cS1 G (cE G d) (cS G d n)
theorem cS_ok {G : Gx} {d : Nat} : ∀ n, SoundS G (cS G d n)
  | 0 => fun _ _ _ _ _ _ _ h => by cases h
  | n + 1 => cS1_ok (cE_ok d) (cS_ok n)
end Mp
namespace Mp
open PySem PySem.Spec PyProof.Rows L2

/-- what the module holds, without its functions -/
structure G0 where
  fns : List Str
  con : Str → Option D
  blt : Str → Bool
  cls : Str → Bool
  exm : Str → Str → Option Bool
  hint : Nat → Nat → Nat
abbrev Calls := Str → List D → M D
def G0.at (g : G0) (call : Calls) : Gx := ⟨fun y => if (g.fns.contains y) = true then some (call y) else none, g.con, g.blt, g.cls, g.exm, g.hint⟩
/-- a def -/
structure FnI where
  ps : List Str
  N : List Str
  sc : Scope
  body : List Stmt
  cut : Bool
  den : Calls → SM
def FnI.Ok (g : G0) (I : FnI) : Prop := ∀ call, cSs (cS (g.at call) 40 20 ⟨I.N, I.sc, true, true⟩) I.body = some (I.den call)
def cutIf (b : Bool) (k : Nat) (st : Sto) : Sto := match b with
  | true => st.cut k
  | false => st
theorem cutIf_next {b : Bool} {k : Nat} {st : Sto} : (cutIf b k st).next = st.next := by cases b <;> rfl
theorem cutIf_ok {K : PySem.W.Frag} {H : Hp} {w : Wd} {st : Sto} (S : StOk K H w st) (b : Bool) (k : Nat) : StOk K H w (cutIf b k st) := by
  cases b with
  | true => exact S.cut k
  | false => exact S
def env0 (n : Nat) (ds : List D) : Ev := ds.map some ++ List.replicate (n - ds.length) none
/-- what a def's run gives -/
def endM (b : Bool) (k : Nat) : SR → R Xn D
  | .ok (.rt d, _) st => .ok d (cutIf b k st)
  | .ok (.nx, _) st => .ok .non (cutIf b k st)
  | .exc (x, _) st => .exc x (cutIf b k st)
  | _ => .no
def runM (I : FnI) (call : Calls) (ds : List D) : M D := fun st => if ds.length = I.ps.length then endM I.cut st.next (I.den call (env0 I.N.length ds) st) else .no
abbrev Tb := List (Str × FnI)
def callM (T : Tb) : Nat → Calls
  | 0 => fun _ _ _ => .no
  | n + 1 => fun x ds => match T.lookup x with
    | some I => runM I (callM T n) ds
    | none => M.no

/-- FnScope, checked -/
def fnScB (N P : List Str) (sc : Scope) : Bool := (sc.kind == .function) && !sc.isCoroutine && !sc.isGenerator && decide N.Nodup && (N.take P.length == P) && (P.all fun x => sc.names.lookup x == some .local || sc.names.lookup x == some .cell) && (sc.names.all fun y => !(y.2 == .free))
theorem fnScB_ok {N P : List Str} {sc : Scope} (h : fnScB N P sc = true) : FnScope N P sc := by
  unfold fnScB at h
  simp only [Bool.and_eq_true, Bool.not_eq_true', decide_eq_true_eq, beq_iff_eq, List.all_eq_true, Bool.or_eq_true] at h
  obtain ⟨⟨⟨⟨⟨⟨h1, h2⟩, h3⟩, h4⟩, h5⟩, h6⟩, h7⟩ := h
  exact ⟨h1, h2, h3, h4, h5, h6, fun y hy z => by have q := h7 y hy; rw [z] at q; exact absurd q (by decide)⟩
/-- what is known of a def of the table -/
structure FnF (K : PySem.W.Frag) (mg : Str → Option Value) (g : G0) (x : Str) (I : FnI) : Prop where
  fd : ∃ (fa : Addr) (fd : FuncData) (qual : Str) (params : Arguments) (kws : List (Str × V)), FunD K x qual params I.body I.sc [] kws fa fd ∧ mg x = some (.ref fa) ∧ Binds K fd I.ps []
  sc : fnScB I.N I.ps I.sc = true
  ok : I.Ok g
structure ModF (K : PySem.W.Frag) (mg : Str → Option Value) (g : G0) (T : Tb) : Prop where
  fns : ∀ x, g.fns.contains x = true → ∃ I, T.lookup x = some I
  fn : ∀ x I, T.lookup x = some I → FnF K mg g x I
  con : ∀ x d, g.con x = some d → ∃ u v, mg x = some u ∧ RelV v u ∧ KRel K d v
  blt : ∀ x, g.blt x = true → mg x = none
  cls : ∀ x, g.cls x = true → ClsOk K mg x
  exm : ∀ x y b, g.exm x y = some b → ∃ c, (mg x = some c ∨ (mg x = none ∧ bootBuiltins x = some c ∧ x ≠ "__name__")) ∧ PySem.W.exmOne K (.ref (He.ga K y)) c = some b
section
variable {P : Program} {wl : World} {K : PySem.W.Frag} {mg : Str → Option Value} {base : Heap} {g : G0} {T : Tb}
theorem start_at {α β : Type} {l : List α} {k i : Nat} {x : α} (h : (l.map some ++ List.replicate k none)[i]? = some (some x)) : l[i]? = some x := by
  by_cases hi : i < l.length
  · rw [List.getElem?_append_left (by simpa using hi), List.getElem?_map] at h
    cases q : l[i]? with
    | none => rw [q] at h; cases h
    | some y => rw [q] at h; cases h; rfl
  · rw [List.getElem?_append_right (by simpa using hi), List.getElem?_replicate] at h
    split at h <;> cases h
theorem env0_ok {H : Hp} {w : Wd} {nx : Nat} {N : List Str} {ds : List D} {vs : List V} (r : RelDs K H w nx ds vs) : EvOk K H w nx (env0 N.length ds) (L2.start N vs) := by
  refine ⟨?_, fun i d h => ?_⟩
  · unfold env0 L2.start
    simp [r.length]
  · have hd := start_at (β := V) h
    obtain ⟨v, hv, rv⟩ := r.getL hd
    refine ⟨v, ?_, rv⟩
    unfold L2.start
    have hi : i < vs.length := (List.getElem?_eq_some_iff.mp hv).1
    rw [List.getElem?_append_left (by simpa using hi), List.getElem?_map, hv]
    rfl
/-- the body's wish, from the function's -/
theorem end_pst {H : Hp} {w : Wd} {nx k0 : Nat} {b : Bool} {r : SR} {E : XK} {Q : VK} (h : Pst K E H w nx (endM b k0 r) (PV K Q)) : PstS K (fun c d _ H => E c d H) H w nx r { nx := fun _ H' => Q .non H', rt := Q } := by
  cases r with
  | no => exact h
  | exc a st =>
    obtain ⟨x, ρ⟩ := a
    intro w1 H1 c d σ e1 S1 xr _
    have h : Pst K E H w nx (.exc x (cutIf b k0 st)) (PV K Q) := h
    refine h w1 H1 c d ?_ (cutIf_ok S1 b k0) ?_
    · rw [cutIf_next]; exact e1
    · rw [cutIf_next]; exact xr
  | ok a st =>
    obtain ⟨f, ρ⟩ := a
    cases f with
    | nx =>
      have h : Pst K E H w nx (.ok .non (cutIf b k0 st)) (PV K Q) := h
      intro w1 H1 e1 S1 σ _
      exact h w1 H1 (by rw [cutIf_next]; exact e1) (cutIf_ok S1 b k0) .non rfl
    | rt d =>
      have h : Pst K E H w nx (.ok d (cutIf b k0 st)) (PV K Q) := h
      intro w1 H1 e1 S1 v rv
      exact h w1 H1 (by rw [cutIf_next]; exact e1) (cutIf_ok S1 b k0) v (by rw [cutIf_next]; exact rv)
    | bk => exact h.elim
    | ct => exact h.elim
/-- the context of a def's body -/
theorem gd_def {I : FnI} {k : Nat} {qual : Str} {f : Addr} {cd : Value} {A : Around} {outer : List Env} {s : Shared} {H : Hp} {E : XK} {call : Calls} (m : ModF K mg g T) (hsc : fnScB I.N I.ps I.sc = true) (hr : Room k (A.deeper (envOfC qual I.sc s.heap.objs.size f cd)))
    (hc : ∀ x, g.fns.contains x = true → ∃ (fa : Addr) (fd : FuncData) (ps : List Str), FnOk P wl K mg base (L2.CX P wl) k fa fd ps (spM K (call x)) ∧ mg x = some (.ref fa) ∧ PySem.W.keepIn K (.ref fa) = true ∧ Binds K fd ps []) :
    Gd (g.at call) ⟨I.N, I.sc, true, true⟩ (cxOf (L2.CX P wl) P wl K mg base I.N qual I.sc f cd A outer s H E) (fun c d _ H => E c d H) k where
  N := rfl
  nd := (fnScB_ok hsc).nd
  sc := rfl
  calm := fun _ => rfl
  room := fun _ => hr
  un := by have := hr.un; show (A.deeper _).units + 66 < _; omega
  tk := takes_of rfl rfl rfl rfl
  po := passes_of rfl
  fn := fun _ _ => rfl
  stk := fun _ => ⟨rfl, rfl⟩
  call := fun x h e => by
    have e : (if (g.fns.contains x) = true then some (call x) else none) = some h := e
    split at e
    · rename_i c
      cases e
      obtain ⟨fa, fd, ps, F⟩ := hc x c
      exact ⟨fa, fd, ps, F⟩
    · cases e
  con := m.con
  blt := m.blt
  cls := m.cls
  exm := m.exm
/-- every def of the table keeps what callM tells -/
theorem table_ok (m : ModF K mg g T) : ∀ (n : Nat) (x : Str) (I : FnI), T.lookup x = some I → ∀ (fa : Addr) (fd : FuncData) (qual : Str) (params : Arguments) (kws : List (Str × V)), FunD K x qual params I.body I.sc [] kws fa fd →
    FnOk P wl K mg base (L2.CX P wl) n fa fd I.ps (spM K (callM T n x))
  | 0, x, I, hI, fa, fd, qual, params, kws, F => ⟨fun vs H Q E ⟨_, _, _, _, _, h⟩ => h.elim, fun A outer s H args us vs Q E hr he hb hv ⟨_, _, _, _, _, h⟩ => h.elim⟩
  | n + 1, x, I, hI, fa, fd, qual, params, kws, F => by
    have F1 := m.fn x I hI
    have cm : ∀ ds, callM T (n + 1) x ds = runM I (callM T n) ds := fun ds => by
      show (match T.lookup x with
        | some I => runM I (callM T n) ds
        | none => M.no) = _
      rw [hI]
    have len : ∀ vs H Q E, spM K (callM T (n + 1) x) vs H Q E → vs.length = I.ps.length := fun vs H Q E h => by
      obtain ⟨w, st, ds, S, r, h⟩ := h
      rw [cm] at h
      unfold runM at h
      split at h
      · rename_i z
        rw [← r.length]
        exact z
      · exact h.elim
    refine F.ok (fnScB_ok F1.sc) len fun cdv A outer s H vs Q E hr h => ?_
    refine ⟨cnS K (fun c d _ H => E c d H) (I.den (callM T n)), ?_, ?_⟩
    · have gd := gd_def (P := P) (wl := wl) (base := base) (qual := qual) (f := fa) (cd := cdv) (outer := outer) (H := H) (E := E) (call := callM T n) m F1.sc hr fun y hy => by
        obtain ⟨J, hJ⟩ := m.fns y hy
        obtain ⟨fa2, fd2, q2, p2, k2, FF, z1, z2⟩ := (m.fn y J hJ).fd
        exact ⟨fa2, fd2, J.ps, table_ok m n y J hJ fa2 fd2 q2 p2 k2 FF, z1, FF.kp, z2⟩
      exact cSs_ok (fun s m q => cS_ok 20 _ _ _ _ gd s m q) (F1.ok (callM T n))
    · obtain ⟨w, st, ds, S, r, h⟩ := h
      rw [cm] at h
      unfold runM at h
      split at h
      · exact ⟨w, st, _, S, env0_ok r, end_pst h⟩
      · exact h.elim
end

theorem FnOk_cx {P : Program} {w : World} {K : PySem.W.Frag} {mg : Str → Option Value} {base : Heap} {CX CX' : CXT} {k : Nat} {f : Addr} {fd : FuncData} {ps : List Str} {sp : Sp} (F : FnOk P w K mg base CX k f fd ps sp) (h : ∀ o H s E e s', CX o H s E e s' → CX' o H s E e s') : FnOk P w K mg base CX' k f fd ps sp :=
  ⟨F.len, fun A outer s H args us vs Q E hr he hb hv hs => codeAny_mono (F.run A outer s H args us vs Q E hr he hb hv hs) fun r s' q => by
    cases r with
    | ok fl => cases fl <;> exact q
    | error e => exact h _ _ _ _ _ _ q⟩
/-- what is let out, of some world -/
def CXe : CXT := fun o H s E e s' => ∃ P w, L2.CX P w o H s E e s'
theorem CXe_none (H : Hp) (s : Shared) (e : Value) (s' : Shared) (h : CXe [] H s (fun _ _ _ => False) e s') : False := by
  obtain ⟨P, w, _, _, _, _, _, _, _, _, _, _, _, _, z⟩ := h
  exact z
/-- the store at the law's call -/
theorem law_start {K : PySem.W.Frag} {H : Hp} {a : Addr} {ns : List Int} {f : List D → M D} (hs : SqL K H a (ns.map V.int)) (ho : Only H) (h : ∃ st, f [.scr ns] ⟨0, []⟩ = .ok (.bl true) st) : spM K f [.ref a] H (fun v _ => v = .bl true) fun _ _ _ => False := by
  have ha : (∃ o, H a = some (.frz o (.lst (ns.map V.int)))) ∨ KLst K a (ns.map V.int) := by
    rcases hs with hs | hs
    · rcases ho a with q | ⟨o, xs, q⟩
      · rcases hs with hs | ⟨o, hs⟩
        · rw [q] at hs; cases hs
        · rw [q] at hs; cases hs
      · rcases hs with hs | ⟨o', hs⟩
        · rw [q] at hs; cases hs
        · exact .inl ⟨o', hs⟩
    · exact .inr hs
  obtain ⟨st, h⟩ := h
  refine ⟨⟨fun b => b = a ∧ H a ≠ none, fun _ => False, fun _ => 0⟩, ⟨0, []⟩, [.scr ns], ⟨(fun m n hm => absurd hm (Nat.not_lt_zero m)), (fun n hn => absurd hn (Nat.not_lt_zero n)), (fun n o q => nomatch q), (fun b hb => by rw [hb.1]; exact hb.2), (fun b hb => hb.elim)⟩, ?_, ?_⟩
  · unfold RelDs
    refine ⟨.ref a, [], rfl, ?_, rfl⟩
    unfold RelD
    refine ⟨a, rfl, ?_⟩
    rcases ha with ⟨o, ha⟩ | ha
    · exact .inl ⟨o, ⟨rfl, by rw [ha]; simp⟩, ha⟩
    · exact .inr ha
  · rw [h]
    intro w' H' e' S' v r
    exact r
end Mp
namespace Mp
open PySem PySem.Spec PyProof.Rows L2

/-- old cells stay -/
def Keep (st st' : Sto) : Prop := st.next ≤ st'.next ∧ ∀ n, n < st.next → st'.get n = st.get n
theorem Keep.refl (st : Sto) : Keep st st := ⟨Nat.le_refl _, fun _ _ => rfl⟩
theorem Keep.trans {a b c : Sto} (h : Keep a b) (k : Keep b c) : Keep a c := ⟨Nat.le_trans h.1 k.1, fun n hn => (k.2 n (Nat.lt_of_lt_of_le hn h.1)).trans (h.2 n hn)⟩
theorem get_new_self (st : Sto) (o : O) : (st.new o).get st.next = some o := by
  show List.lookup st.next ((st.next, o) :: st.cells) = some o
  simp [List.lookup]
theorem get_new_old (st : Sto) (o : O) {n : Nat} (h : n < st.next) : (st.new o).get n = st.get n := by
  show List.lookup n ((st.next, o) :: st.cells) = List.lookup n st.cells
  have : (n == st.next) = false := by simpa using Nat.ne_of_lt h
  simp [List.lookup, this]
theorem set_new_self (st : Sto) (o u : O) : (st.new o).set st.next u = st.new u := by
  show Sto.mk (st.next + 1) (setC st.next u ((st.next, o) :: st.cells)) = _
  unfold setC
  rw [if_pos rfl]
  rfl
theorem keep_new (st : Sto) (o : O) : Keep st (st.new o) := ⟨Nat.le_succ _, fun n hn => get_new_old st o hn⟩
theorem lookup_setC_ne {n m : Nat} {o : O} (h : m ≠ n) : ∀ l : List (Nat × O), (setC n o l).lookup m = l.lookup m
  | [] => rfl
  | (k, x) :: r => by
    unfold setC
    split
    · rename_i e
      have : (m == k) = false := by rw [e]; simpa using h
      simp [List.lookup, this]
    · show List.lookup m ((k, x) :: setC n o r) = List.lookup m ((k, x) :: r)
      cases q : m == k with
      | true => simp [List.lookup, q]
      | false => simp [List.lookup, q, lookup_setC_ne h r]
theorem lookup_setC_self {n : Nat} {o u : O} : ∀ {l : List (Nat × O)}, l.lookup n = some u → (setC n o l).lookup n = some o
  | [], h => by cases h
  | (k, x) :: r, h => by
    unfold setC
    split
    · rename_i e
      subst e
      simp [List.lookup]
    · rename_i e
      have q : (n == k) = false := by simpa using fun z => e z.symm
      simp only [List.lookup, q] at h ⊢
      exact lookup_setC_self h
theorem get_set_ne (st : Sto) {n m : Nat} {o : O} (h : m ≠ n) : (st.set n o).get m = st.get m := lookup_setC_ne h st.cells
theorem get_set_self {st : Sto} {n : Nat} {o u : O} (h : st.get n = some u) : (st.set n o).get n = some o := lookup_setC_self h
theorem keep_set {st st' : Sto} {n : Nat} {o : O} (h : Keep st st') (hn : st.next ≤ n) : Keep st (st'.set n o) := ⟨h.1, fun m hm => (get_set_ne st' (by omega)).trans (h.2 m hm)⟩

def Gv {α : Type} (m : M α) (st : Sto) (a : α) : Prop := ∃ st', m st = .ok a st' ∧ Keep st st'
def Xc {α : Type} (m : M α) (st : Sto) (c : Str) : Prop := ∃ st', m st = .exc ⟨c, []⟩ st' ∧ Keep st st'
section
variable {α β : Type}
theorem Gv.of {m : M α} {st : Sto} {a : α} (h : m st = .ok a st) : Gv m st a := ⟨st, h, Keep.refl st⟩
theorem Gv.bind {m : M α} {f : α → M β} {st : Sto} {a : α} {b : β} (h : Gv m st a) (k : ∀ st', Keep st st' → Gv (f a) st' b) : Gv (m.bind f) st b := by
  obtain ⟨s1, e1, k1⟩ := h
  obtain ⟨s2, e2, k2⟩ := k s1 k1
  refine ⟨s2, ?_, k1.trans k2⟩
  show (m st).bind f = _
  rw [e1]
  exact e2
theorem Gv.ret {a : α} {st : Sto} : Gv (M.ret a) st a := .of rfl
theorem Gv.eq {m m' : M α} {st : Sto} {a : α} (h : Gv m st a) (e : m' st = m st) : Gv m' st a := by
  obtain ⟨s1, e1, k1⟩ := h
  exact ⟨s1, e.trans e1, k1⟩
/-- a test -/
theorem Gv.tru {d : D} {st : Sto} {b : Bool} (h : truD st d = some b) : Gv (tru d) st b := .of (by unfold Mp.tru; rw [h])
theorem gT {m : Ev → M D} {ρ : Ev} {st : Sto} {d : D} {b : Bool} (h : Gv (m ρ) st d) (k : ∀ st', Keep st st' → truD st' d = some b) : Gv (evT m ρ) st b := h.bind fun s1 k1 => .tru (k s1 k1)
theorem gTb {m : Ev → M D} {ρ : Ev} {st : Sto} {b : Bool} (h : Gv (m ρ) st (.bl b)) : Gv (evT m ρ) st b := gT h fun _ _ => rfl
theorem gT_or_f {ma mb : Ev → M D} {ρ : Ev} {st : Sto} {b : Bool} (h : Gv (evT ma ρ) st false) (k : ∀ st', Keep st st' → Gv (evT mb ρ) st' b) : Gv (evT (evOr ma mb) ρ) st b := by
  rw [evT_or]
  exact h.bind fun s1 k1 => k s1 k1
theorem gT_or_t {ma mb : Ev → M D} {ρ : Ev} {st : Sto} (h : Gv (evT ma ρ) st true) : Gv (evT (evOr ma mb) ρ) st true := by
  rw [evT_or]
  exact h.bind fun s1 k1 => .ret
theorem gT_and_t {ma mb : Ev → M D} {ρ : Ev} {st : Sto} {b : Bool} (h : Gv (evT ma ρ) st true) (k : ∀ st', Keep st st' → Gv (evT mb ρ) st' b) : Gv (evT (evAnd ma mb) ρ) st b := by
  rw [evT_and]
  exact h.bind fun s1 k1 => k s1 k1
theorem gT_and_f {ma mb : Ev → M D} {ρ : Ev} {st : Sto} (h : Gv (evT ma ρ) st false) : Gv (evT (evAnd ma mb) ρ) st false := by
  rw [evT_and]
  exact h.bind fun s1 k1 => .ret
theorem gT_not {ma : Ev → M D} {ρ : Ev} {st : Sto} {b : Bool} (h : Gv (evT ma ρ) st b) : Gv (evT (evNot ma) ρ) st (!b) := by
  rw [evT_not]
  exact h.bind fun s1 k1 => .ret
theorem g2 {f : D → D → M D} {ma mb : Ev → M D} {ρ : Ev} {st : Sto} {x y z : D} (h : Gv (ma ρ) st x) (k : ∀ st', Keep st st' → Gv (mb ρ) st' y) (l : ∀ st', Keep st st' → Gv (f x y) st' z) : Gv (ev2 f ma mb ρ) st z :=
  h.bind fun s1 k1 => (k s1 k1).bind fun s2 k2 => l s2 (k1.trans k2)
theorem g1 {f : D → M D} {ma : Ev → M D} {ρ : Ev} {st : Sto} {x z : D} (h : Gv (ma ρ) st x) (l : ∀ st', Keep st st' → Gv (f x) st' z) : Gv (ev1 f ma ρ) st z := h.bind l
theorem gL {f : List D → M D} {ms : Ev → M (List D)} {ρ : Ev} {st : Sto} {xs : List D} {z : D} (h : Gv (ms ρ) st xs) (l : ∀ st', Keep st st' → Gv (f xs) st' z) : Gv (evL f ms ρ) st z := h.bind l
theorem gNil {ρ : Ev} {st : Sto} : Gv (evNil ρ) st [] := .ret
theorem gCons {m : Ev → M D} {ms : Ev → M (List D)} {ρ : Ev} {st : Sto} {x : D} {xs : List D} (h : Gv (m ρ) st x) (k : ∀ st', Keep st st' → Gv (ms ρ) st' xs) : Gv (evCons m ms ρ) st (x :: xs) := h.bind fun s1 k1 => (k s1 k1).bind fun s2 k2 => .ret
theorem gVar {i : Nat} {ρ : Ev} {st : Sto} {d : D} (h : ρ[i]? = some (some d)) : Gv (evVar i ρ) st d := .of (by unfold evVar; rw [h])
theorem gC {d : D} {ρ : Ev} {st : Sto} : Gv (evC d ρ) st d := .ret
theorem gIf_t {mt ma mb : Ev → M D} {ρ : Ev} {st : Sto} {d : D} (h : Gv (evT mt ρ) st true) (k : ∀ st', Keep st st' → Gv (ma ρ) st' d) : Gv (evIf mt ma mb ρ) st d := h.bind fun s1 k1 => k s1 k1
theorem gIf_f {mt ma mb : Ev → M D} {ρ : Ev} {st : Sto} {d : D} (h : Gv (evT mt ρ) st false) (k : ∀ st', Keep st st' → Gv (mb ρ) st' d) : Gv (evIf mt ma mb ρ) st d := h.bind fun s1 k1 => k s1 k1
end
/-- a statement's end -/
def GvS (m : SM) (ρ : Ev) (st : Sto) (f : Fl) (ρ' : Ev) : Prop := ∃ st', m ρ st = .ok (f, ρ') st' ∧ Keep st st'
theorem GvS.of {m : SM} {ρ ρ' : Ev} {st : Sto} {f : Fl} (h : m ρ st = .ok (f, ρ') st) : GvS m ρ st f ρ' := ⟨st, h, Keep.refl st⟩
theorem gs_then {α : Type} {m : M α} {ρ ρ' : Ev} {st : Sto} {a : α} {k : α → Sto → SR} {f : Fl} (h : Gv m st a) (l : ∀ st', Keep st st' → ∃ s2, k a st' = .ok (f, ρ') s2 ∧ Keep st' s2) : ∃ s2, thenS (m st) ρ k = .ok (f, ρ') s2 ∧ Keep st s2 := by
  obtain ⟨s1, e1, k1⟩ := h
  obtain ⟨s2, e2, k2⟩ := l s1 k1
  refine ⟨s2, ?_, k1.trans k2⟩
  rw [e1]
  exact e2
theorem gs_seq {m n : SM} {ρ ρ1 ρ2 : Ev} {st : Sto} {f : Fl} (h : GvS m ρ st .nx ρ1) (k : ∀ st', Keep st st' → GvS n ρ1 st' f ρ2) : GvS (sSeq m n) ρ st f ρ2 := by
  obtain ⟨s1, e1, k1⟩ := h
  obtain ⟨s2, e2, k2⟩ := k s1 k1
  refine ⟨s2, ?_, k1.trans k2⟩
  unfold sSeq
  rw [e1]
  exact e2
theorem gs_seq_rt {m n : SM} {ρ ρ1 : Ev} {st : Sto} {d : D} (h : GvS m ρ st (.rt d) ρ1) : GvS (sSeq m n) ρ st (.rt d) ρ1 := by
  obtain ⟨s1, e1, k1⟩ := h
  refine ⟨s1, ?_, k1⟩
  unfold sSeq
  rw [e1]
theorem gs_if_f {mt : Ev → M D} {a b : SM} {ρ ρ' : Ev} {st : Sto} {f : Fl} (h : Gv (evT mt ρ) st false) (k : ∀ st', Keep st st' → GvS b ρ st' f ρ') : GvS (sIf mt a b) ρ st f ρ' := gs_then h k
theorem gs_if_t {mt : Ev → M D} {a b : SM} {ρ ρ' : Ev} {st : Sto} {f : Fl} (h : Gv (evT mt ρ) st true) (k : ∀ st', Keep st st' → GvS a ρ st' f ρ') : GvS (sIf mt a b) ρ st f ρ' := gs_then h k
theorem gs_nil {ρ : Ev} {st : Sto} : GvS sNil ρ st .nx ρ := .of rfl
theorem gs_asg {i : Nat} {m : Ev → M D} {ρ : Ev} {st : Sto} {d : D} (h : Gv (m ρ) st d) : GvS (sAsg i m) ρ st .nx (ρ.set i (some d)) := gs_then h fun s1 _ => ⟨s1, rfl, Keep.refl _⟩
theorem gs_ret {m : Ev → M D} {ρ : Ev} {st : Sto} {d : D} (h : Gv (m ρ) st d) : GvS (sRet false m) ρ st (.rt d) ρ := gs_then h fun s1 _ => ⟨s1, rfl, Keep.refl _⟩
/-- what is given back is no list of the store -/
def D.isLoc : D → Bool
  | .loc _ => true
  | _ => false
theorem gs_retF {m : Ev → M D} {ρ : Ev} {st : Sto} {d : D} (h : Gv (m ρ) st d) (hd : d.isLoc = false) : GvS (sRet true m) ρ st (.rt d) ρ := gs_then h fun s1 _ => ⟨s1, (by cases d <;> first | rfl | (cases hd)), Keep.refl _⟩
/-- a call -/
theorem gv_call {T : Tb} {n : Nat} {x : Str} {I : FnI} {ds : List D} {st : Sto} {d : D} {ρ' : Ev} (hI : T.lookup x = some I) (hl : ds.length = I.ps.length) (hc : I.cut = false) (h : GvS (I.den (callM T n)) (env0 I.N.length ds) st (.rt d) ρ') : Gv (callM T (n + 1) x ds) st d := by
  obtain ⟨s1, e1, k1⟩ := h
  refine ⟨s1, ?_, k1⟩
  show (match T.lookup x with
    | some I => runM I (callM T n) ds
    | none => M.no) st = _
  rw [hI]
  show (if ds.length = I.ps.length then endM I.cut st.next (I.den (callM T n) (env0 I.N.length ds) st) else .no) = _
  rw [if_pos hl, e1, hc]
  rfl
/-- a dict display of parts that keep the store -/
theorem gDisp {l : List ((Ev → M D) × (Ev → M D))} {ρ : Ev} {st : Sto} {ds : List D} {kvs : List (Key × D)} (h : ∀ s, evP l ρ s = .ok ds s) (hp : pairsD ds = some kvs) (hl : kvs.length ≤ 15) : evDisp l ρ st = .ok (.loc st.next) (st.new (.dk (mergeD kvs))) := by
  show ((evP l ρ (st.new (.dk []))).bind (dispEnd st.next)) = _
  rw [h]
  show dispEnd st.next ds (st.new (.dk [])) = _
  unfold dispEnd
  rw [get_new_self, hp]
  show (if kvs.length ≤ 15 then (R.ok (D.loc st.next) ((st.new (.dk [])).set st.next (.dk (mergeD kvs))) : R Xn D) else .no) = _
  rw [if_pos hl, set_new_self]
/-- from all of a list -/
theorem all_of {α β : Type} {l : List α} {f g : α → β} (h : l.map f = l.map g) {x : α} (hx : x ∈ l) : f x = g x := List.map_inj_left.mp h x hx
end Mp
namespace Mp
open PySem PySem.Spec PyProof.Rows L2

theorem eqM_int (neg : Bool) (i j : Int) (st : Sto) : eqM neg (.int i) (.int j) st = .ok (.bl (decide (i = j) != neg)) st := by
  show (if eqOk (.int i) (.int j) = true then (R.ok (D.bl (PyData.eqv (.int i) (.int j) != neg)) st : R Xn D) else .no) = _
  have e : eqOk (.int i) (.int j) = true := rfl
  rw [if_pos e]
  have q : PyData.eqv (.int i) (.int j) = decide (i = j) := by
    show (i == j) = decide (i = j)
    rfl
  rw [q]
theorem idx_lst {st : Sto} {n : Nat} {xs : List D} {i : Int} {d : D} (h : st.get n = some (.lst xs)) (k : atI xs i = some d) : idxM (.loc n) (.int i) st = .ok d st := by
  simp only [idxM, dictAt, lstOf, h, k]
theorem set_lst {st : Sto} {n : Nat} {xs : List D} {i : Int} {j : Nat} {d : D} (h : st.get n = some (.lst xs)) (k : ixN xs.length i = some j) : setM (.loc n) (.int i) d st = some (st.set n (.lst (xs.set j d))) := by
  simp only [setM, h, k]
/-- only the cell n changed, and holds three numbers -/
structure Rolled (n : Nat) (st st' : Sto) : Prop where
  next : st'.next = st.next
  here : ∃ a b c : Int, st'.get n = some (.lst [.int a, .int b, .int c])
  else_ : ∀ m, m ≠ n → st'.get m = st.get m
def Die (st : Sto) (n : Nat) : Prop := n < st.next ∧ ∃ a b c : Int, st.get n = some (.lst [.int a, .int b, .int c])
theorem Die.keep {st st' : Sto} {n : Nat} (h : Die st n) (k : Keep st st') : Die st' n := ⟨Nat.lt_of_lt_of_le h.1 k.1, by rw [k.2 n h.1]; exact h.2⟩
theorem Rolled.die {n m : Nat} {st st' : Sto} (r : Rolled n st st') (h : Die st m) : Die st' m := by
  by_cases e : m = n
  · subst e
    exact ⟨by rw [r.next]; exact h.1, r.here⟩
  · exact ⟨by rw [r.next]; exact h.1, by rw [r.else_ m e]; exact h.2⟩
def rollS : SM := sSeq (sIf (evOr (ev2 (eqM false) (ev2 idxM (evVar 0) (evC (.int 2))) (evC (.int 2))) (evAnd (ev2 (eqM false) (ev2 idxM (evVar 0) (evC (.int 2))) (evC (.int 1))) (ev2 (ordM .Gt) (ev2 idxM (evVar 0) (evC (.int 0))) (evC (.int 0))))) (sSeq (sAsg 2 (ev2 modM (evL intM (evCons (ev2 idxM (evVar 0) (evC (.int 0))) evNil)) (evVar 1))) (sSeq (sSub (evVar 0) (evC (.int 0)) (ev2 fdivM (ev2 idxM (evVar 0) (evC (.int 0))) (evVar 1))) (sRet true (evVar 2)))) sNil)
  (sSeq (sSub (evVar 0) (evC (.int 2)) (evC (.int 0)))
  (sSeq (sSub (evVar 0) (evC (.int 0)) (ev2 modM (evL intM (evCons (ev2 addM (ev2 addM (ev2 mulM (ev2 idxM (evVar 0) (evC (.int 0))) (evC (.int 48271))) (ev2 mulM (ev2 idxM (evVar 0) (evC (.int 1))) (evC (.int 69621)))) (evC (.int 11))) evNil)) (evC (.int 2147483647))))
  (sSeq (sSub (evVar 0) (evC (.int 1)) (ev2 addM (ev2 idxM (evVar 0) (evC (.int 1))) (evC (.int 1))))
  (sRet true (ev2 modM (evL intM (evCons (ev2 addM (ev2 fdivM (ev2 idxM (evVar 0) (evC (.int 0))) (evC (.int 7))) (ev2 idxM (evVar 0) (evC (.int 0)))) evNil)) (evVar 1))))))
section
variable {st : Sto} {n : Nat} {a b c m : Int}
theorem at0 (h : st.get n = some (.lst [.int a, .int b, .int c])) {x y : Option D} : ev2 idxM (evVar 0) (evC (.int 0)) [some (.loc n), x, y] st = .ok (.int a) st := idx_lst h rfl
theorem at1 (h : st.get n = some (.lst [.int a, .int b, .int c])) {x y : Option D} : ev2 idxM (evVar 0) (evC (.int 1)) [some (.loc n), x, y] st = .ok (.int b) st := idx_lst h rfl
theorem at2 (h : st.get n = some (.lst [.int a, .int b, .int c])) {x y : Option D} : ev2 idxM (evVar 0) (evC (.int 2)) [some (.loc n), x, y] st = .ok (.int c) st := idx_lst h rfl
theorem ev2_eq {f : D → D → M D} {ma mb : Ev → M D} {ρ : Ev} {s : Sto} {x y : D} (h : ma ρ s = .ok x s) (k : mb ρ s = .ok y s) : ev2 f ma mb ρ s = f x y s := by
  show (ma ρ s).bind _ = _
  rw [h]
  show (mb ρ s).bind _ = _
  rw [k]
  rfl
theorem evL1_eq {f : List D → M D} {ma : Ev → M D} {ρ : Ev} {s : Sto} {x : D} (h : ma ρ s = .ok x s) : evL f (evCons ma evNil) ρ s = f [x] s := by
  show ((evCons ma evNil ρ s).bind _) = _
  have e : evCons ma evNil ρ s = .ok [x] s := by
    show (ma ρ s).bind _ = _
    rw [h]
    rfl
  rw [e]
  rfl
theorem sSub_eq {mo mi me : Ev → M D} {ρ : Ev} {s s' : Sto} {o i d : D} (h : me ρ s = .ok d s) (k : mo ρ s = .ok o s) (l : mi ρ s = .ok i s) (e : setM o i d s = some s') : sSub mo mi me ρ s = .ok (.nx, ρ) s' := by
  show thenS (me ρ s) ρ _ = _
  rw [h]
  show thenS (mo ρ s) ρ _ = _
  rw [k]
  show thenS (mi ρ s) ρ _ = _
  rw [l]
  show (match setM o i d s with
    | some st' => (R.ok (.nx, ρ) st' : SR)
    | none => .no) = _
  rw [e]
theorem evOr_eq {ma mb : Ev → M D} {ρ : Ev} {s : Sto} {x y : Bool} (h : ma ρ s = .ok (.bl x) s) (k : mb ρ s = .ok (.bl y) s) : evOr ma mb ρ s = .ok (.bl (x || y)) s := by
  show (ma ρ s).bind _ = _
  rw [h]
  cases x with
  | true => rfl
  | false => exact k
theorem evAnd_eq {ma mb : Ev → M D} {ρ : Ev} {s : Sto} {x y : Bool} (h : ma ρ s = .ok (.bl x) s) (k : mb ρ s = .ok (.bl y) s) : evAnd ma mb ρ s = .ok (.bl (x && y)) s := by
  show (ma ρ s).bind _ = _
  rw [h]
  cases x with
  | false => rfl
  | true => exact k
theorem sIf_eq {mt : Ev → M D} {p q : SM} {ρ : Ev} {s : Sto} {x : Bool} (h : mt ρ s = .ok (.bl x) s) : sIf mt p q ρ s = if x = true then p ρ s else q ρ s := by
  show thenS (((mt ρ) s).bind tru) ρ _ = _
  rw [h]
  cases x <;> rfl
theorem sSeq_eq {p q : SM} {ρ ρ' : Ev} {s s' : Sto} (h : p ρ s = .ok (.nx, ρ') s') : sSeq p q ρ s = q ρ' s' := by
  unfold sSeq
  rw [h]
theorem sSeq_rt {p q : SM} {ρ ρ' : Ev} {s s' : Sto} {d : D} (h : p ρ s = .ok (.rt d, ρ') s') : sSeq p q ρ s = .ok (.rt d, ρ') s' := by
  unfold sSeq
  rw [h]
theorem roll_ok (h : st.get n = some (.lst [.int a, .int b, .int c])) (h0 : 0 < m) (h1 : m < 1073741824) : ∃ (v : Int) (ρ' : Ev) (st' : Sto), rollS [some (.loc n), some (.int m), none] st = .ok (.rt (.int v), ρ') st' ∧ 0 ≤ v ∧ v < m ∧ Rolled n st st' := by
  have t : (evOr (ev2 (eqM false) (ev2 idxM (evVar 0) (evC (.int 2))) (evC (.int 2))) (evAnd (ev2 (eqM false) (ev2 idxM (evVar 0) (evC (.int 2))) (evC (.int 1))) (ev2 (ordM .Gt) (ev2 idxM (evVar 0) (evC (.int 0))) (evC (.int 0))))) [some (.loc n), some (.int m), none] st
      = .ok (.bl ((decide (c = 2) != false) || ((decide (c = 1) != false) && ordI .Gt a 0))) st :=
    evOr_eq ((ev2_eq (at2 h) rfl).trans (eqM_int _ _ _ _)) (evAnd_eq ((ev2_eq (at2 h) rfl).trans (eqM_int _ _ _ _)) ((ev2_eq (at0 h) rfl).trans rfl))
  unfold rollS
  cases q : ((decide (c = 2) != false) || ((decide (c = 1) != false) && ordI .Gt a 0)) with
  | true =>
    rw [q] at t
    have e1 : (sAsg 2 (ev2 modM (evL intM (evCons (ev2 idxM (evVar 0) (evC (.int 0))) evNil)) (evVar 1))) [some (.loc n), some (.int m), none] st = .ok (.nx, [some (.loc n), some (.int m), some (.int (a % m))]) st := by
      have z : ev2 modM (evL intM (evCons (ev2 idxM (evVar 0) (evC (.int 0))) evNil)) (evVar 1) [some (.loc n), some (.int m), none] st = .ok (.int (a % m)) st := by
        refine (ev2_eq (x := .int a) (y := .int m) ((evL1_eq (at0 h)).trans rfl) rfl).trans ?_
        show (if 0 < m then (R.ok (D.int (a % m)) st : R Xn D) else .no) = _
        rw [if_pos h0]
      show thenS _ _ _ = _
      rw [z]
      rfl
    have e2 : (sSub (evVar 0) (evC (.int 0)) (ev2 fdivM (ev2 idxM (evVar 0) (evC (.int 0))) (evVar 1))) [some (.loc n), some (.int m), some (.int (a % m))] st = .ok (.nx, [some (.loc n), some (.int m), some (.int (a % m))]) (st.set n (.lst [.int (a / m), .int b, .int c])) := by
      refine sSub_eq (o := .loc n) (i := .int 0) (d := .int (a / m)) ?_ rfl rfl (set_lst (j := 0) h rfl)
      refine (ev2_eq (at0 h) (y := .int m) rfl).trans ?_
      show (if CDiv a m then (R.ok (D.int (a / m)) st : R Xn D) else .no) = _
      rw [if_pos (show CDiv a m from ⟨h0, h1⟩)]
    refine ⟨a % m, [some (.loc n), some (.int m), some (.int (a % m))], st.set n (.lst [.int (a / m), .int b, .int c]), sSeq_rt ((sIf_eq t).trans ?_), Int.emod_nonneg _ (by omega), Int.emod_lt_of_pos _ h0, ⟨rfl, ⟨_, _, _, get_set_self h⟩, fun m hm => get_set_ne st hm⟩⟩
    rw [if_pos rfl, sSeq_eq e1, sSeq_eq e2]
    rfl
  | false =>
    rw [q] at t
    have e0 := (sIf_eq (p := (sSeq (sAsg 2 (ev2 modM (evL intM (evCons (ev2 idxM (evVar 0) (evC (.int 0))) evNil)) (evVar 1))) (sSeq (sSub (evVar 0) (evC (.int 0)) (ev2 fdivM (ev2 idxM (evVar 0) (evC (.int 0))) (evVar 1))) (sRet true (evVar 2))))) (q := sNil) t).trans (if_neg (by decide))
    have e1 : (sSub (evVar 0) (evC (.int 2)) (evC (.int 0))) [some (.loc n), some (.int m), none] st = .ok (.nx, [some (.loc n), some (.int m), none]) (st.set n (.lst [.int a, .int b, .int 0])) := sSub_eq (o := .loc n) (i := .int 2) (d := .int 0) rfl rfl rfl (set_lst (j := 2) h rfl)
    have g1 := get_set_self (o := .lst [.int a, .int b, .int 0]) h
    generalize hs1 : st.set n (.lst [.int a, .int b, .int 0]) = s1 at e1 g1
    have e2 : (sSub (evVar 0) (evC (.int 0)) (ev2 modM (evL intM (evCons (ev2 addM (ev2 addM (ev2 mulM (ev2 idxM (evVar 0) (evC (.int 0))) (evC (.int 48271))) (ev2 mulM (ev2 idxM (evVar 0) (evC (.int 1))) (evC (.int 69621)))) (evC (.int 11))) evNil)) (evC (.int 2147483647)))) [some (.loc n), some (.int m), none] s1
        = .ok (.nx, [some (.loc n), some (.int m), none]) (s1.set n (.lst [.int ((a * 48271 + b * 69621 + 11) % 2147483647), .int b, .int 0])) := by
      refine sSub_eq (o := .loc n) (i := .int 0) (d := .int ((a * 48271 + b * 69621 + 11) % 2147483647)) ?_ rfl rfl (set_lst (j := 0) g1 rfl)
      have m1 : ev2 mulM (ev2 idxM (evVar 0) (evC (.int 0))) (evC (.int 48271)) [some (.loc n), some (.int m), none] s1 = .ok (.int (a * 48271)) s1 := by
        refine (ev2_eq (at0 g1) (y := .int 48271) rfl).trans ?_
        show (if CMul a 48271 then (R.ok (D.int (a * 48271)) s1 : R Xn D) else .no) = _
        rw [if_pos (show CMul a 48271 from .inr ⟨by decide, by decide⟩)]
      have m2 : ev2 mulM (ev2 idxM (evVar 0) (evC (.int 1))) (evC (.int 69621)) [some (.loc n), some (.int m), none] s1 = .ok (.int (b * 69621)) s1 := by
        refine (ev2_eq (at1 g1) (y := .int 69621) rfl).trans ?_
        show (if CMul b 69621 then (R.ok (D.int (b * 69621)) s1 : R Xn D) else .no) = _
        rw [if_pos (show CMul b 69621 from .inr ⟨by decide, by decide⟩)]
      have m3 : (ev2 addM (ev2 addM (ev2 mulM (ev2 idxM (evVar 0) (evC (.int 0))) (evC (.int 48271))) (ev2 mulM (ev2 idxM (evVar 0) (evC (.int 1))) (evC (.int 69621)))) (evC (.int 11))) [some (.loc n), some (.int m), none] s1 = .ok (.int (a * 48271 + b * 69621 + 11)) s1 := (ev2_eq (x := .int (a * 48271 + b * 69621)) (y := .int 11) ((ev2_eq m1 m2).trans rfl) rfl).trans rfl
      exact ev2_eq (x := .int (a * 48271 + b * 69621 + 11)) (y := .int 2147483647) ((evL1_eq m3).trans rfl) rfl
    have g2 := get_set_self (o := .lst [.int ((a * 48271 + b * 69621 + 11) % 2147483647), .int b, .int 0]) g1
    generalize (a * 48271 + b * 69621 + 11) % 2147483647 = a2 at e2 g2
    generalize hs2 : s1.set n (.lst [.int a2, .int b, .int 0]) = s2 at e2 g2
    have e3 : (sSub (evVar 0) (evC (.int 1)) (ev2 addM (ev2 idxM (evVar 0) (evC (.int 1))) (evC (.int 1)))) [some (.loc n), some (.int m), none] s2 = .ok (.nx, [some (.loc n), some (.int m), none]) (s2.set n (.lst [.int a2, .int (b + 1), .int 0])) :=
      sSub_eq (o := .loc n) (i := .int 1) (d := .int (b + 1)) (ev2_eq (at1 g2) (y := .int 1) rfl) rfl rfl (set_lst (j := 1) g2 rfl)
    have g3 := get_set_self (o := .lst [.int a2, .int (b + 1), .int 0]) g2
    generalize hs3 : s2.set n (.lst [.int a2, .int (b + 1), .int 0]) = s3 at e3 g3
    have e4 : (ev2 modM (evL intM (evCons (ev2 addM (ev2 fdivM (ev2 idxM (evVar 0) (evC (.int 0))) (evC (.int 7))) (ev2 idxM (evVar 0) (evC (.int 0)))) evNil)) (evVar 1)) [some (.loc n), some (.int m), none] s3 = .ok (.int ((a2 / 7 + a2) % m)) s3 := by
      have m1 : (ev2 addM (ev2 fdivM (ev2 idxM (evVar 0) (evC (.int 0))) (evC (.int 7))) (ev2 idxM (evVar 0) (evC (.int 0)))) [some (.loc n), some (.int m), none] s3 = .ok (.int (a2 / 7 + a2)) s3 := (ev2_eq (x := .int (a2 / 7)) (y := .int a2) ((ev2_eq (at0 g3) (y := .int 7) rfl).trans rfl) (at0 g3)).trans rfl
      refine (ev2_eq (x := .int (a2 / 7 + a2)) (y := .int m) ((evL1_eq m1).trans rfl) rfl).trans ?_
      show (if 0 < m then (R.ok (D.int ((a2 / 7 + a2) % m)) s3 : R Xn D) else .no) = _
      rw [if_pos h0]
    refine ⟨(a2 / 7 + a2) % m, [some (.loc n), some (.int m), none], s3, ?_, Int.emod_nonneg _ (by omega), Int.emod_lt_of_pos _ h0, ⟨?_, ⟨_, _, _, g3⟩, fun k hk => ?_⟩⟩
    · rw [sSeq_eq e0, sSeq_eq e1, sSeq_eq e2, sSeq_eq e3]
      show thenS _ _ _ = _
      rw [e4]
      rfl
    · rw [← hs3, ← hs2, ← hs1]; rfl
    · rw [← hs3, ← hs2, ← hs1, get_set_ne _ hk, get_set_ne _ hk, get_set_ne _ hk]
end
end Mp
namespace Mp
open PySem PySem.Spec PyProof.Rows L2

def diceS : SM := (sSeq (sIf (evCh (ordM .Lt) (ordM .Lt) (ev2 subM (evC (.int 0)) (evC (.int 10))) (evVar 0) (evC (.int 10))) (sRet false (evL lstN (evCons (evL absM (evCons (evVar 0) evNil)) (evCons (evC (.int 0)) (evCons (evC (.int 2)) evNil))))) sNil) (sRet false (evL lstN (evCons (evVar 0) (evCons (ev2 addM (evC (.int 1)) (ev2 modM (evL intM (evCons (evVar 0) evNil)) (evC (.int 1009)))) (evCons (evL intM (evCons (ev2 (ordM .GtE) (evVar 0) (ev2 powM (evC (.int 10)) (evC (.int 18)))) evNil)) evNil))))))
theorem dice_ok (x : Int) (st : Sto) : ∃ (a b c : Int) (ρ' : Ev), diceS [some (.int x)] st = .ok (.rt (.loc st.next), ρ') (st.new (.lst [.int a, .int b, .int c])) := by
  have t : (evCh (ordM .Lt) (ordM .Lt) (ev2 subM (evC (.int 0)) (evC (.int 10))) (evVar 0) (evC (.int 10))) [some (.int x)] st = .ok (.bl (ordI .Lt (0 - 10) x && ordI .Lt x 10)) st := by
    show (match D.bl (ordI .Lt (0 - 10) x) with
      | .bl true => ((evC (.int 10) [some (.int x)]).bind fun u => ordM .Lt (.int x) u : M D)
      | .bl false => M.ret (.bl false)
      | _ => M.no) st = _
    cases ordI .Lt (0 - 10) x <;> rfl
  unfold diceS
  cases q : (ordI .Lt (0 - 10) x && ordI .Lt x 10) with
  | true =>
    rw [q] at t
    refine ⟨if x < 0 then -x else x, 0, 2, [some (.int x)], sSeq_rt ((sIf_eq t).trans ?_)⟩
    rw [if_pos rfl]
    show thenS (evL lstN _ [some (.int x)] st) _ _ = _
    have e : (evL lstN (evCons (evL absM (evCons (evVar 0) evNil)) (evCons (evC (.int 0)) (evCons (evC (.int 2)) evNil)))) [some (.int x)] st = .ok (.loc st.next) (st.new (.lst [.int (if x < 0 then -x else x), .int 0, .int 2])) := by
      show lstN [D.int (if x < 0 then -x else x), .int 0, .int 2] st = _
      unfold lstN
      rw [if_pos (by show 3 ≤ sizeLine; decide)]
    rw [e]
    rfl
  | false =>
    rw [q] at t
    refine ⟨x, 1 + x % 1009, if ordI .GtE x (10 ^ 18) then 1 else 0, [some (.int x)], (sSeq_eq ((sIf_eq t).trans (if_neg (by decide)))).trans ?_⟩
    have e : (evL lstN (evCons (evVar 0) (evCons (ev2 addM (evC (.int 1)) (ev2 modM (evL intM (evCons (evVar 0) evNil)) (evC (.int 1009)))) (evCons (evL intM (evCons (ev2 (ordM .GtE) (evVar 0) (ev2 powM (evC (.int 10)) (evC (.int 18)))) evNil)) evNil)))) [some (.int x)] st = .ok (.loc st.next) (st.new (.lst [.int x, .int (1 + x % 1009), .int (if ordI .GtE x (10 ^ 18) then 1 else 0)])) := by
      have p : powM (.int 10) (.int 18) st = .ok (.int (10 ^ 18)) st := by
        show (if CPow 10 18 then (R.ok (D.int (10 ^ (18 : Int).toNat)) st : R Xn D) else .no) = _
        rw [if_pos (show CPow 10 18 from ⟨by decide, by decide, by decide⟩)]
        rfl
      have c3 : evL intM (evCons (ev2 (ordM .GtE) (evVar 0) (ev2 powM (evC (.int 10)) (evC (.int 18)))) evNil) [some (.int x)] st = .ok (.int (if ordI .GtE x (10 ^ 18) then 1 else 0)) st := by
        refine (evL1_eq (x := .bl (ordI .GtE x (10 ^ 18))) ((ev2_eq (x := .int x) (y := .int (10 ^ 18)) rfl ((ev2_eq rfl rfl).trans p)).trans rfl)).trans rfl
      have all : (evCons (evVar 0) (evCons (ev2 addM (evC (.int 1)) (ev2 modM (evL intM (evCons (evVar 0) evNil)) (evC (.int 1009)))) (evCons (evL intM (evCons (ev2 (ordM .GtE) (evVar 0) (ev2 powM (evC (.int 10)) (evC (.int 18)))) evNil)) evNil))) [some (.int x)] st = .ok [.int x, .int (1 + x % 1009), .int (if ordI .GtE x (10 ^ 18) then 1 else 0)] st := by
        show (((evL intM (evCons (ev2 (ordM .GtE) (evVar 0) (ev2 powM (evC (.int 10)) (evC (.int 18)))) evNil) [some (.int x)] st).bind fun d => (M.ret ([] : List D)).bind fun ds => M.ret (d :: ds)).bind fun ds => M.ret (D.int (1 + x % 1009) :: ds)).bind (fun ds => M.ret (D.int x :: ds)) = _
        rw [c3]
        rfl
      have ev : ∀ (ms : Ev → M (List D)) (ρ : Ev), evL lstN ms ρ st = (ms ρ st).bind lstN := fun _ _ => rfl
      rw [ev, all]
      show lstN [D.int x, .int (1 + x % 1009), .int (if ordI .GtE x (10 ^ 18) then 1 else 0)] st = _
      unfold lstN
      rw [if_pos (by show 3 ≤ sizeLine; decide)]
    show thenS _ _ _ = _
    rw [e]
    rfl

/-- what a call of _law_dice gives -/
def DiceC (call : Calls) : Prop := ∀ (x : Int) (st : Sto), ∃ a b c : Int, call "_law_dice" [.int x] st = .ok (.loc st.next) (st.new (.lst [.int a, .int b, .int c]))
theorem die_new (st : Sto) (a b c : Int) : Die (st.new (.lst [.int a, .int b, .int c])) st.next := ⟨Nat.lt_succ_self _, a, b, c, get_new_self _ _⟩
theorem lc_dice {call : Calls} (hc : DiceC call) {x0 x1 x2 : Option D} : ∀ (ms : List Int) (st : Sto), ∃ (ks : List Nat) (st' : Sto), lcL (.nm 3) evTrue (evL (call "_law_dice") (evCons (evVar 3) evNil)) [x0, x1, x2, none] (ms.map D.int) st = .ok (ks.map D.loc) st' ∧ Keep st st' ∧ (∀ k ∈ ks, Die st' k) ∧ ks.length = ms.length
  | [], st => ⟨[], st, rfl, Keep.refl st, (fun _ h => nomatch h), rfl⟩
  | x :: ms, st => by
    obtain ⟨a, b, c, e⟩ := hc x st
    obtain ⟨ks, st', e1, k1, d1, l1⟩ := lc_dice hc (x0 := x0) (x1 := x1) (x2 := x2) ms (st.new (.lst [.int a, .int b, .int c]))
    refine ⟨st.next :: ks, st', ?_, (keep_new _ _).trans k1, fun k hk => ?_, by simp [l1]⟩
    · show ((noX (call "_law_dice" [.int x] st)).bind fun y st => (lcL (.nm 3) evTrue (evL (call "_law_dice") (evCons (evVar 3) evNil)) [x0, x1, x2, none] (ms.map D.int) st).bind fun ys st => .ok (y :: ys) st) = _
      rw [e]
      show ((lcL (.nm 3) evTrue (evL (call "_law_dice") (evCons (evVar 3) evNil)) [x0, x1, x2, none] (ms.map D.int) (st.new (.lst [.int a, .int b, .int c]))).bind fun ys s => .ok (D.loc st.next :: ys) s) = _
      rw [e1]
      rfl
    · rcases List.mem_cons.mp hk with rfl | hk
      · exact (die_new st a b c).keep k1
      · exact d1 k hk
def roundsS (call : Calls) : SM := (sSeq (sAsg 2 (evSli (evVar 0) none (some (evVar 1)))) (sSeq (sIf (ev2 (eqM false) (evVar 2) (evL lstM evNil)) (sAsg 2 (evL lstM (evCons (evC (.int 0)) evNil))) sNil) (sRet true (evLc (evWalk (evVar 2)) (.nm 3) [3] evTrue (evL (call "_law_dice") (evCons (evVar 3) evNil))))))
theorem toPs_ints : ∀ ms : List Int, toPs (ms.map D.int) = some (ms.map PyData.int)
  | [] => rfl
  | x :: ms => by
    show (match toP (.int x), toPs (ms.map D.int) with
      | some p, some ps => some (p :: ps)
      | _, _ => none) = _
    rw [toPs_ints ms]
    rfl
theorem lay_ints : ∀ ms : List Int, PyData.canLayAll0 (ms.map PyData.int) = true
  | [] => rfl
  | x :: ms => by
    show (PyData.canLay0 (.int x) && PyData.canLayAll0 (ms.map PyData.int)) = true
    rw [lay_ints ms]
    rfl
theorem eq_nil (ms : List Int) (st : Sto) : eqM false (.lst (ms.map D.int)) (.lst []) st = .ok (.bl ms.isEmpty) st := by
  show (match (toPs (ms.map D.int)).map PyData.list, some (PyData.list []) with
    | some p, some q => if eqOk p q = true then (R.ok (D.bl (PyData.eqv p q != false)) st : R Xn D) else .no
    | _, _ => .no) = _
  rw [toPs_ints]
  show (if eqOk (.list (ms.map PyData.int)) (.list []) = true then (R.ok (D.bl (PyData.eqv (.list (ms.map PyData.int)) (.list []) != false)) st : R Xn D) else .no) = _
  have k : eqOk (.list (ms.map PyData.int)) (.list []) = true := by
    unfold eqOk
    have z : PyData.canLay0 (.list (ms.map PyData.int)) = true := lay_ints ms
    rw [z]
    have d : (PyData.list []).depth ≤ 64 := by decide
    simp only [Bool.true_and, Bool.and_eq_true, decide_eq_true_eq]
    exact ⟨rfl, Nat.le_trans (Nat.min_le_right _ _) d⟩
  rw [if_pos k]
  cases ms with
  | nil => rfl
  | cons x ms => rfl
theorem rounds_ok {call : Calls} (hc : DiceC call) (ns : List Int) (m : Int) (st : Sto) (hl : ns.length ≤ 63) : ∃ (ks : List Nat) (ρ' : Ev) (st' : Sto), roundsS call [some (.scr ns), some (.int m), none, none] st = .ok (.rt (.lst (ks.map D.loc)), ρ') st' ∧ Keep st st' ∧ (∀ k ∈ ks, Die st' k) ∧ ks.length ≤ 63 := by
  obtain ⟨ms, hm, hml⟩ : ∃ ms : List Int, cutD (ns.map D.int) none (some m) = ms.map D.int ∧ ms.length ≤ 63 := by
    unfold cutD
    rw [← List.map_drop, ← List.map_take]
    refine ⟨_, rfl, ?_⟩
    rw [List.length_take, List.length_drop]
    omega
  have e1 : (sAsg 2 (evSli (evVar 0) none (some (evVar 1)))) [some (.scr ns), some (.int m), none, none] st = .ok (.nx, [some (.scr ns), some (.int m), some (.lst (ms.map D.int)), none]) st := by
    show R.ok (Fl.nx, [some (D.scr ns), some (D.int m), some (D.lst (cutD (ns.map D.int) none (some m))), none]) st = _
    rw [hm]
  have e2 : ∃ ms2 : List Int, ms2.length ≤ 63 ∧ (sIf (ev2 (eqM false) (evVar 2) (evL lstM evNil)) (sAsg 2 (evL lstM (evCons (evC (.int 0)) evNil))) sNil) [some (.scr ns), some (.int m), some (.lst (ms.map D.int)), none] st = .ok (.nx, [some (.scr ns), some (.int m), some (.lst (ms2.map D.int)), none]) st := by
    have t : (ev2 (eqM false) (evVar 2) (evL lstM evNil)) [some (.scr ns), some (.int m), some (.lst (ms.map D.int)), none] st = .ok (.bl ms.isEmpty) st := (ev2_eq (y := .lst []) rfl rfl).trans (eq_nil ms st)
    cases q : ms.isEmpty with
    | true =>
      rw [q] at t
      exact ⟨[0], by decide, (sIf_eq t).trans ((if_pos rfl).trans rfl)⟩
    | false =>
      rw [q] at t
      exact ⟨ms, hml, (sIf_eq t).trans ((if_neg (by decide)).trans rfl)⟩
  obtain ⟨ms2, l2, e2⟩ := e2
  obtain ⟨ks, st', e3, k3, d3, l3⟩ := lc_dice hc (x0 := some (.scr ns)) (x1 := some (.int m)) (x2 := some (.lst (ms2.map D.int))) ms2 st
  refine ⟨ks, [some (.scr ns), some (.int m), some (.lst (ms2.map D.int)), none], st', ?_, k3, d3, by omega⟩
  unfold roundsS
  rw [sSeq_eq e1, sSeq_eq e2]
  show thenS (((lcL (.nm 3) evTrue (evL (call "_law_dice") (evCons (evVar 3) evNil)) [some (.scr ns), some (.int m), some (.lst (ms2.map D.int)), none] (ms2.map D.int) st).bind (lcEnd []))) _ _ = _
  rw [e3]
  show thenS (lcEnd [] (ks.map D.loc) st') _ _ = _
  have le : lcEnd [] (ks.map D.loc) st' = .ok (.lst (ks.map D.loc)) st' := by
    unfold lcEnd
    rw [List.nil_append, if_pos]
    rw [List.length_map]
    have : (63 : Nat) < sizeLine := by decide
    omega
  rw [le]
  rfl
end Mp
namespace Mp
open PySem PySem.Spec PyProof.Rows L2
section
variable {ρ : Ev} {s s1 s2 s3 : Sto}
theorem call_eq {T : Tb} {n : Nat} {x : Str} {I : FnI} {ds : List D} {st : Sto} (hI : T.lookup x = some I) (hl : ds.length = I.ps.length) (hc : I.cut = false) : callM T (n + 1) x ds st = endM false st.next (I.den (callM T n) (env0 I.N.length ds) st) := by
  show (match T.lookup x with
    | some I => runM I (callM T n) ds
    | none => M.no) st = _
  rw [hI]
  show (if ds.length = I.ps.length then endM I.cut st.next (I.den (callM T n) (env0 I.N.length ds) st) else .no) = _
  rw [if_pos hl, hc]
theorem cons_st {m : Ev → M D} {ms : Ev → M (List D)} {x : D} {xs : List D} (h : m ρ s = .ok x s1) (k : ms ρ s1 = .ok xs s2) : evCons m ms ρ s = .ok (x :: xs) s2 := by
  show (m ρ s).bind _ = _
  rw [h]
  show (ms ρ s1).bind _ = _
  rw [k]
  rfl
theorem ev2_st {f : D → D → M D} {ma mb : Ev → M D} {x y : D} (h : ma ρ s = .ok x s1) (k : mb ρ s1 = .ok y s2) : ev2 f ma mb ρ s = f x y s2 := by
  show (ma ρ s).bind _ = _
  rw [h]
  show (mb ρ s1).bind _ = _
  rw [k]
  rfl
theorem evL_st {f : List D → M D} {ms : Ev → M (List D)} {xs : List D} (h : ms ρ s = .ok xs s1) : evL f ms ρ s = f xs s1 := by
  show (ms ρ s).bind _ = _
  rw [h]
  rfl
theorem then_st {α : Type} {r : R Xn α} {a : α} {k : α → Sto → SR} (h : r = .ok a s1) : thenS r ρ k = k a s1 := by rw [h]; rfl
theorem asg_st {i : Nat} {m : Ev → M D} {d : D} (h : m ρ s = .ok d s1) : sAsg i m ρ s = .ok (.nx, ρ.set i (some d)) s1 := then_st h
theorem if_st {mt : Ev → M D} {a b : SM} {x : Bool} (h : evT mt ρ s = .ok x s1) : sIf mt a b ρ s = if x = true then a ρ s1 else b ρ s1 := then_st h
theorem evT_st {m : Ev → M D} {b : Bool} (h : m ρ s = .ok (.bl b) s1) : evT m ρ s = .ok b s1 := by
  show (m ρ s).bind _ = _
  rw [h]
  rfl
theorem or_st {ma mb : Ev → M D} {y : Bool} (h : evT ma ρ s = .ok false s1) (k : evT mb ρ s1 = .ok y s2) : evT (evOr ma mb) ρ s = .ok y s2 := by
  rw [evT_or]
  show (evT ma ρ s).bind _ = _
  rw [h]
  exact k
theorem and_t {ma mb : Ev → M D} {y : Bool} (h : evT ma ρ s = .ok true s1) (k : evT mb ρ s1 = .ok y s2) : evT (evAnd ma mb) ρ s = .ok y s2 := by
  rw [evT_and]
  show (evT ma ρ s).bind _ = _
  rw [h]
  exact k
theorem and_f {ma mb : Ev → M D} (h : evT ma ρ s = .ok false s1) : evT (evAnd ma mb) ρ s = .ok false s1 := by
  rw [evT_and]
  show (evT ma ρ s).bind _ = _
  rw [h]
  rfl
theorem not_st {ma : Ev → M D} {x : Bool} (h : evT ma ρ s = .ok x s1) : evT (evNot ma) ρ s = .ok (!x) s1 := by
  rw [evT_not]
  show (evT ma ρ s).bind _ = _
  rw [h]
  rfl
theorem seq_assoc (a b d : SM) (ρ : Ev) (s : Sto) : sSeq (sSeq a b) d ρ s = sSeq a (sSeq b d) ρ s := by
  unfold sSeq
  cases a ρ s with
  | no => rfl
  | exc _ _ => rfl
  | ok r s' =>
    obtain ⟨f, ρ'⟩ := r
    cases f <;> rfl
end
/-- a roll by call -/
def RollC (call : Calls) : Prop := ∀ (n : Nat) (m : Int) (st : Sto), Die st n → 0 < m → m < 1073741824 → ∃ (v : Int) (st' : Sto), call "_law_roll" [.loc n, .int m] st = .ok (.int v) st' ∧ 0 ≤ v ∧ v < m ∧ Rolled n st st'
theorem rollC_of {T : Tb} {I : FnI} {k : Nat} (hI : T.lookup ("_law_roll" : Str) = some I) (hp : I.ps.length = 2) (hN : I.N.length = 3) (hc : I.cut = false) (hd : ∀ call, I.den call = rollS) : RollC (callM T (k + 1)) := by
  intro n m st ⟨_, a, b, c, h⟩ h0 h1
  obtain ⟨v, ρ', st', e, z0, z1, r⟩ := roll_ok h h0 h1
  refine ⟨v, st', ?_, z0, z1, r⟩
  rw [call_eq hI (by rw [hp]; rfl) hc, hN, hd]
  show endM false st.next (rollS [some (.loc n), some (.int m), none] st) = _
  rw [e]
  rfl
theorem diceC_of {T : Tb} {I : FnI} {k : Nat} (hI : T.lookup ("_law_dice" : Str) = some I) (hp : I.ps.length = 1) (hN : I.N.length = 1) (hc : I.cut = false) (hd : ∀ call, I.den call = diceS) : DiceC (callM T (k + 1)) := by
  intro x st
  obtain ⟨a, b, c, ρ', e⟩ := dice_ok x st
  refine ⟨a, b, c, ?_⟩
  rw [call_eq hI (by rw [hp]; rfl) hc, hN, hd]
  show endM false st.next (diceS [some (.int x)] st) = _
  rw [e]
  rfl
/-- the rounds by call -/
def RoundsC (call : Calls) : Prop := ∀ (ns : List Int) (m : Int) (st : Sto), ns.length ≤ 63 → ∃ (ks : List Nat) (st' : Sto), call "_law_rounds" [.scr ns, .int m] st = .ok (.lst (ks.map D.loc)) st' ∧ Keep st st' ∧ (∀ k ∈ ks, Die st' k) ∧ ks.length ≤ 63
theorem roundsC_of {T : Tb} {I : FnI} {k : Nat} (dc : DiceC (callM T k)) (hI : T.lookup ("_law_rounds" : Str) = some I) (hp : I.ps.length = 2) (hN : I.N.length = 4) (hc : I.cut = false) (hd : ∀ call, I.den call = roundsS call) : RoundsC (callM T (k + 1)) := by
  intro ns m st hl
  obtain ⟨ks, ρ', st', e, z⟩ := rounds_ok dc ns m st hl
  refine ⟨ks, st', ?_, z⟩
  rw [call_eq hI (by rw [hp]; rfl) hc, hN, hd]
  show endM false st.next (roundsS (callM T k) [some (.scr ns), some (.int m), none, none] st) = _
  rw [e]
  rfl
/-- dice stay dice -/
def Go (st st' : Sto) : Prop := ∀ k, Die st k → Die st' k
theorem Go.refl (st : Sto) : Go st st := fun _ h => h
theorem Go.trans {a b d : Sto} (h : Go a b) (k : Go b d) : Go a d := fun n z => k n (h n z)
theorem Keep.go {a b : Sto} (h : Keep a b) : Go a b := fun _ z => z.keep h
theorem Rolled.go {n : Nat} {a b : Sto} (h : Rolled n a b) : Go a b := fun _ z => h.die z
/-- a law over dice: each round ends well -/
theorem law_rounds {body : SM} {x0 : Option D} {len : Nat} (hb : ∀ (n : Nat) (xs : Ev) (st : Sto), Die st n → xs.length = len → ∃ ys st', body (x0 :: some (.loc n) :: xs) st = .ok (.nx, x0 :: some (.loc n) :: ys) st' ∧ ys.length = len ∧ Go st st') :
    ∀ (ks : List Nat) (x1 : Option D) (xs : Ev) (st : Sto), (∀ k ∈ ks, Die st k) → xs.length = len → ∃ ρ' st', forL (.nm 1) body (ks.map D.loc) (x0 :: x1 :: xs) st = .ok (.nx, ρ') st'
  | [], x1, xs, st, _, _ => ⟨_, st, rfl⟩
  | k :: ks, x1, xs, st, hd, hl => by
    obtain ⟨ys, st', e, ly, g⟩ := hb k xs st (hd k (List.mem_cons_self ..)) hl
    obtain ⟨ρ', st2, e2⟩ := law_rounds hb ks (some (.loc k)) ys st' (fun j hj => g j (hd j (List.mem_cons_of_mem _ hj))) ly
    refine ⟨ρ', st2, ?_⟩
    show (match body (x0 :: some (.loc k) :: xs) st with
      | .ok (.nx, ρ2) st2 => forL (.nm 1) body (ks.map D.loc) ρ2 st2
      | .ok (.ct, ρ2) st2 => forL (.nm 1) body (ks.map D.loc) ρ2 st2
      | .ok (.bk, ρ2) st2 => .ok (.nx, ρ2) st2
      | r => r) = _
    rw [e]
    exact e2
end Mp
namespace Mp
open PySem PySem.Spec PyProof.Rows L2
theorem lookup_mem {α β : Type} [BEq α] [LawfulBEq α] {x : α} {y : β} : ∀ {l : List (α × β)}, l.lookup x = some y → (x, y) ∈ l
  | [], h => by cases h
  | (a, b) :: l, h => by
    cases q : x == a with
    | true =>
      simp only [List.lookup, q] at h
      cases h
      rw [eq_of_beq q]
      exact List.mem_cons_self ..
    | false =>
      simp only [List.lookup, q] at h
      exact List.mem_cons_of_mem _ (lookup_mem h)
theorem lookup_some {α β : Type} [BEq α] [LawfulBEq α] {x : α} {y : β} : ∀ {l : List (α × β)}, (x, y) ∈ l → ∃ z, l.lookup x = some z
  | [], h => by cases h
  | (a, b) :: l, h => by
    cases q : x == a with
    | true => exact ⟨b, by simp only [List.lookup, q]⟩
    | false =>
      rcases List.mem_cons.mp h with e | h
      · cases e
        rw [beq_self_eq_true] at q
        cases q
      · obtain ⟨z, e⟩ := lookup_some h
        exact ⟨z, by simp only [List.lookup, q, e]⟩
/-- a tuple of texts at the top -/
theorem rel_strs {K : PySem.W.Frag} {H : Hp} {w : Wd} {nx : Nat} : ∀ zs : List Str, RelDs K H w nx (zs.map D.str) (zs.map V.str)
  | [] => rfl
  | z :: zs => by
    show RelDs K H w nx (D.str z :: zs.map D.str) _
    unfold RelDs
    exact ⟨.str z, zs.map V.str, rfl, rfl, rel_strs zs⟩
theorem krel_strs {K : PySem.W.Frag} {x : Str} {z : Str} {zs : List Str} (h : He.tupB K x ((z :: zs).map He.Dv.str) = true) : KRel K (.tup ((z :: zs).map D.str)) (.ref (He.ga K x)) := by
  intro H w nx
  have q := He.tupB_ok h (fun _ => none)
  have kt : KTup K (He.ga K x) ((z :: zs).map V.str) := by
    have e : ((z :: zs).map He.Dv.str).map (He.Dv.v K) = (z :: zs).map V.str := by rw [List.map_map]; rfl
    rw [e] at q
    rcases q with q | q
    · rcases q with q | ⟨_, q⟩ <;> cases q
    · exact q
  unfold RelD
  exact ⟨_, (z :: zs).map V.str, rfl, .inr ⟨kt, z, zs.map V.str, rfl⟩, rel_strs _⟩
theorem cls_of {K : PySem.W.Frag} {mg : Str → Option Value} {x : Str} (h : mg x = some (.ref (He.ga K x))) (e : (He.Fa.exc x).ok K = true) : ClsOk K mg x := by
  obtain ⟨e1, e2, e3, e4⟩ := He.exc_ok e
  refine ⟨h, fun X hK hm gl db m j p p2 pos => ?_⟩
  subst hK
  subst hm
  exact pmk_own PySem.F.excBase_ValueError e1 h e2 (raises_own e3 e4) gl db
end Mp
namespace Mp.K04
open PySem PySem.Spec PyProof.Rows L2
def top (i : Nat) : Stmt := PySem.Challenge.pw_sheetdesk_k04_values_and_their_order.main.body.getD i (.Pass ⟨0, 0, 0, 0⟩)
def fns : List Str := ["is_whole", "is_bad", "is_value", "check_value", "kind_of", "as_number", "as_text", "as_truth", "rank", "alike", "ahead", "blank_beside", "shown", "_law_dice", "_law_roll", "_law_rounds", "_law_number", "_law_text", "_law_rank", "_law_within", "_law_op", "_law_value", "_law_refused", "law"]
def conL : List (Str × D) := [("FAR", .int (1000000000000000000000000000000)), ("WORDS", .tup [.str "div", .str "ref", .str "kind", .str "ring", .str "large", .str "none"])]
def bltL : List Str := ["abs", "bool", "int", "isinstance", "len", "str", "tuple"]
def clsL : List Str := ["BadValue"]
def exmL : List ((Str × Str) × Bool) := [(("BadValue", "BadValue"), true)]
def hintL : List ((Nat × Nat) × Nat) := [((77, 8), 1), ((77, 15), 1), ((78, 4), 1), ((78, 11), 1), ((227, 11), 5)]
def g : G0 := ⟨fns, fun x => conL.lookup x, fun x => bltL.contains x, fun x => clsL.contains x, fun x y => exmL.lookup (x, y), fun l c => (hintL.lookup (l, c)).getD 0⟩
def p_is_whole : List Str := ["thing", "low", "high"]
def n_is_whole : List Str := ["thing", "low", "high"]
def p_is_bad : List Str := ["value"]
def n_is_bad : List Str := ["value"]
def p_is_value : List Str := ["thing"]
def n_is_value : List Str := ["thing"]
def p_check_value : List Str := ["thing"]
def n_check_value : List Str := ["thing"]
def p_kind_of : List Str := ["value"]
def n_kind_of : List Str := ["value"]
def p_as_number : List Str := ["value"]
def n_as_number : List Str := ["value", "kind"]
def p_as_text : List Str := ["value"]
def n_as_text : List Str := ["value", "kind"]
def p_as_truth : List Str := ["value"]
def n_as_truth : List Str := ["value", "number"]
def p_rank : List Str := ["value"]
def n_rank : List Str := ["value", "kind"]
def p_alike : List Str := ["one", "other"]
def n_alike : List Str := ["one", "other"]
def p_ahead : List Str := ["one", "other"]
def n_ahead : List Str := ["one", "other"]
def p_blank_beside : List Str := ["value"]
def n_blank_beside : List Str := ["value", "kind"]
def p_shown : List Str := ["value"]
def n_shown : List Str := ["value"]
def p__law_dice : List Str := ["cell"]
def n__law_dice : List Str := ["cell"]
def p__law_roll : List Str := ["dice", "many"]
def n__law_roll : List Str := ["dice", "many", "found"]
def p__law_rounds : List Str := ["script", "most"]
def n__law_rounds : List Str := ["script", "most", "cells", "cell"]
def p__law_number : List Str := ["value"]
def n__law_number : List Str := ["value"]
def p__law_text : List Str := ["value"]
def n__law_text : List Str := ["value"]
def p__law_rank : List Str := ["value", "other"]
def n__law_rank : List Str := ["value", "other"]
def p__law_within : List Str := ["value"]
def n__law_within : List Str := ["value"]
def p__law_op : List Str := ["word", "one", "two"]
def n__law_op : List Str := ["word", "one", "two", "left", "right", "same", "a", "b"]
def p__law_value : List Str := ["dice"]
def n__law_value : List Str := ["dice"]
def p__law_refused : List Str := ["thing"]
def n__law_refused : List Str := ["thing"]
def p_law : List Str := ["script"]
def n_law : List Str := ["script", "dice", "number", "holds", "kinds", "wrong", "bad", "one", "two", "three", "kind"]
def e_is_whole (call : Calls) : SM := (sRet true (evAnd (ev1 (isiM "int") (evVar 0)) (evAnd (evNot (ev1 (isiM "bool") (evVar 0))) (evCh (ordM .LtE) (ordM .LtE) (evVar 1) (evVar 0) (evVar 2)))))
def e_is_bad (call : Calls) : SM := (sRet true (ev1 (isiM "tuple") (evVar 0)))
def e_is_value (call : Calls) : SM := (sSeq (sIf (evOr (ev2 (isNM false) (evVar 0) (evC .non)) (ev1 (isiM "bool") (evVar 0))) (sRet true (evC (.bl true))) sNil) (sSeq (sIf (ev1 (isiM "str") (evVar 0)) (sRet true (ev2 (ordM .LtE) (evL lenM (evCons (evVar 0) evNil)) (evC (.int 400)))) sNil) (sSeq (sIf (ev1 (isiM "tuple") (evVar 0)) (sRet true (evAnd (ev2 (eqM false) (evL lenM (evCons (evVar 0) evNil)) (evC (.int 2))) (evAnd (ev2 (eqM false) (ev2 idxM (evVar 0) (evC (.int 0))) (evC (.str "bad"))) (ev2 (inM false) (ev2 idxM (evVar 0) (evC (.int 1))) (evC (.tup [(.str "div"), (.str "ref"), (.str "kind"), (.str "ring"), (.str "large"), (.str "none")])))))) sNil) (sRet true (evL (call "is_whole") (evCons (evVar 0) (evCons (ev1 negM (evC (.int 1000000000000000000000000000000))) (evCons (evC (.int 1000000000000000000000000000000)) evNil))))))))
def e_check_value (call : Calls) : SM := (sIf (evNot (evL (call "is_value") (evCons (evVar 0) evNil))) (sRaise "BadValue") sNil)
def e_kind_of (call : Calls) : SM := (sSeq (sIf (ev2 (isNM false) (evVar 0) (evC .non)) (sRet true (evC (.str "nothing"))) sNil) (sSeq (sIf (ev1 (isiM "bool") (evVar 0)) (sRet true (evC (.str "truth"))) sNil) (sSeq (sIf (ev1 (isiM "int") (evVar 0)) (sRet true (evC (.str "number"))) sNil) (sRet true (evIf (ev1 (isiM "str") (evVar 0)) (evC (.str "text")) (evC (.str "bad")))))))
def e_as_number (call : Calls) : SM := (sSeq (sAsg 1 (evL (call "kind_of") (evCons (evVar 0) evNil))) (sSeq (sIf (ev2 (eqM false) (evVar 1) (evC (.str "text"))) (sRet true (evL tupM (evCons (evC (.str "bad")) (evCons (evC (.str "kind")) evNil)))) sNil) (sSeq (sIf (ev2 (eqM false) (evVar 1) (evC (.str "bad"))) (sRet true (evVar 0)) sNil) (sRet true (evIf (ev2 (eqM false) (evVar 1) (evC (.str "nothing"))) (evC (.int 0)) (evL intM (evCons (evVar 0) evNil)))))))
def e_as_text (call : Calls) : SM := (sSeq (sAsg 1 (evL (call "kind_of") (evCons (evVar 0) evNil))) (sSeq (sIf (ev2 (eqM false) (evVar 1) (evC (.str "bad"))) (sRet true (evVar 0)) sNil) (sSeq (sIf (ev2 (eqM false) (evVar 1) (evC (.str "nothing"))) (sRet true (evC (.str ""))) sNil) (sSeq (sIf (ev2 (eqM false) (evVar 1) (evC (.str "truth"))) (sRet true (evIf (evVar 0) (evC (.str "true")) (evC (.str "false")))) sNil) (sRet true (evIf (ev2 (eqM false) (evVar 1) (evC (.str "text"))) (evVar 0) (evL strM (evCons (evVar 0) evNil))))))))
def e_as_truth (call : Calls) : SM := (sSeq (sAsg 1 (evL (call "as_number") (evCons (evVar 0) evNil))) (sRet true (evIf (evL (call "is_bad") (evCons (evVar 1) evNil)) (evVar 1) (ev2 (eqM true) (evVar 1) (evC (.int 0))))))
def e_rank (call : Calls) : SM := (sSeq (sAsg 1 (evL (call "kind_of") (evCons (evVar 0) evNil))) (sSeq (sIf (ev2 (inM false) (evVar 1) (evL tupM (evCons (evC (.str "number")) (evCons (evC (.str "nothing")) evNil)))) (sRet true (evL tupM (evCons (evC (.int 0)) (evCons (evL (call "as_number") (evCons (evVar 0) evNil)) evNil)))) sNil) (sRet true (evIf (ev2 (eqM false) (evVar 1) (evC (.str "text"))) (evL tupM (evCons (evC (.int 1)) (evCons (evVar 0) evNil))) (evL tupM (evCons (evC (.int 2)) (evCons (evL intM (evCons (evVar 0) evNil)) evNil)))))))
def e_alike (call : Calls) : SM := (sSeq (sIf (evOr (ev2 (isNM false) (evVar 0) (evC .non)) (ev2 (isNM false) (evVar 1) (evC .non))) (sRet true (evAnd (ev2 (inM false) (evVar 0) (evL tupM (evCons (evC .non) (evCons (evC (.int 0)) (evCons (evC (.str "")) evNil))))) (ev2 (inM false) (evVar 1) (evL tupM (evCons (evC .non) (evCons (evC (.int 0)) (evCons (evC (.str "")) evNil))))))) sNil) (sRet true (ev2 (eqM false) (evL (call "rank") (evCons (evVar 0) evNil)) (evL (call "rank") (evCons (evVar 1) evNil)))))
def e_ahead (call : Calls) : SM := (sSeq (sIf (ev2 (isNM false) (evVar 0) (evC .non)) (sAsg 0 (evL (call "blank_beside") (evCons (evVar 1) evNil))) sNil) (sSeq (sIf (ev2 (isNM false) (evVar 1) (evC .non)) (sAsg 1 (evL (call "blank_beside") (evCons (evVar 0) evNil))) sNil) (sRet true (ev2 (ordM .Lt) (evL (call "rank") (evCons (evVar 0) evNil)) (evL (call "rank") (evCons (evVar 1) evNil))))))
def e_blank_beside (call : Calls) : SM := (sSeq (sAsg 1 (evL (call "kind_of") (evCons (evVar 0) evNil))) (sSeq (sIf (ev2 (eqM false) (evVar 1) (evC (.str "text"))) (sRet true (evC (.str ""))) sNil) (sRet true (evIf (ev2 (eqM false) (evVar 1) (evC (.str "truth"))) (evC (.bl false)) (evC (.int 0))))))
def e_shown (call : Calls) : SM := (sRet true (evIf (evL (call "is_bad") (evCons (evVar 0) evNil)) (ev2 addM (evC (.str "#")) (ev2 idxM (evVar 0) (evC (.int 1)))) (evL (call "as_text") (evCons (evVar 0) evNil))))
def e__law_dice (call : Calls) : SM := (sSeq (sIf (evCh (ordM .Lt) (ordM .Lt) (ev2 subM (evC (.int 0)) (evC (.int 10))) (evVar 0) (evC (.int 10))) (sRet false (evL lstN (evCons (evL absM (evCons (evVar 0) evNil)) (evCons (evC (.int 0)) (evCons (evC (.int 2)) evNil))))) sNil) (sRet false (evL lstN (evCons (evVar 0) (evCons (ev2 addM (evC (.int 1)) (ev2 modM (evL intM (evCons (evVar 0) evNil)) (evC (.int 1009)))) (evCons (evL intM (evCons (ev2 (ordM .GtE) (evVar 0) (ev2 powM (evC (.int 10)) (evC (.int 18)))) evNil)) evNil))))))
def s__law_roll_1 (call : Calls) : SM := (sIf (evOr (ev2 (eqM false) (ev2 idxM (evVar 0) (evC (.int 2))) (evC (.int 2))) (evAnd (ev2 (eqM false) (ev2 idxM (evVar 0) (evC (.int 2))) (evC (.int 1))) (ev2 (ordM .Gt) (ev2 idxM (evVar 0) (evC (.int 0))) (evC (.int 0))))) (sSeq (sAsg 2 (ev2 modM (evL intM (evCons (ev2 idxM (evVar 0) (evC (.int 0))) evNil)) (evVar 1))) (sSeq (sSub (evVar 0) (evC (.int 0)) (ev2 fdivM (ev2 idxM (evVar 0) (evC (.int 0))) (evVar 1))) (sRet true (evVar 2)))) sNil)
def s__law_roll_2 (call : Calls) : SM := (sSub (evVar 0) (evC (.int 2)) (evC (.int 0)))
def s__law_roll_3 (call : Calls) : SM := (sSub (evVar 0) (evC (.int 0)) (ev2 modM (evL intM (evCons (ev2 addM (ev2 addM (ev2 mulM (ev2 idxM (evVar 0) (evC (.int 0))) (evC (.int 48271))) (ev2 mulM (ev2 idxM (evVar 0) (evC (.int 1))) (evC (.int 69621)))) (evC (.int 11))) evNil)) (evC (.int 2147483647))))
def s__law_roll_4 (call : Calls) : SM := (sSub (evVar 0) (evC (.int 1)) (ev2 addM (ev2 idxM (evVar 0) (evC (.int 1))) (evC (.int 1))))
def s__law_roll_5 (call : Calls) : SM := (sRet true (ev2 modM (evL intM (evCons (ev2 addM (ev2 fdivM (ev2 idxM (evVar 0) (evC (.int 0))) (evC (.int 7))) (ev2 idxM (evVar 0) (evC (.int 0)))) evNil)) (evVar 1)))
def s__law_roll_r5 (call : Calls) : SM := s__law_roll_5 call
def s__law_roll_r4 (call : Calls) : SM := sSeq (s__law_roll_4 call) (s__law_roll_r5 call)
def s__law_roll_r3 (call : Calls) : SM := sSeq (s__law_roll_3 call) (s__law_roll_r4 call)
def s__law_roll_r2 (call : Calls) : SM := sSeq (s__law_roll_2 call) (s__law_roll_r3 call)
def s__law_roll_r1 (call : Calls) : SM := sSeq (s__law_roll_1 call) (s__law_roll_r2 call)
def e__law_roll (call : Calls) : SM := s__law_roll_r1 call
def e__law_rounds (call : Calls) : SM := (sSeq (sAsg 2 (evSli (evVar 0) none (some (evVar 1)))) (sSeq (sIf (ev2 (eqM false) (evVar 2) (evL lstM evNil)) (sAsg 2 (evL lstM (evCons (evC (.int 0)) evNil))) sNil) (sRet true (evLc (evWalk (evVar 2)) (.nm 3) [3] evTrue (evL (call "_law_dice") (evCons (evVar 3) evNil))))))
def e__law_number (call : Calls) : SM := (sSeq (sIf (ev1 (isiM "tuple") (evVar 0)) (sRet true (evVar 0)) sNil) (sSeq (sIf (ev1 (isiM "str") (evVar 0)) (sRet true (evL tupM (evCons (evC (.str "bad")) (evCons (evC (.str "kind")) evNil)))) sNil) (sRet true (evIf (ev2 (isNM false) (evVar 0) (evC .non)) (evC (.int 0)) (evL intM (evCons (evVar 0) evNil))))))
def e__law_text (call : Calls) : SM := (sSeq (sIf (ev2 (isNM false) (evVar 0) (evC .non)) (sRet true (evC (.str ""))) sNil) (sSeq (sIf (ev1 (isiM "bool") (evVar 0)) (sRet true (ev2 idxM (evL lstM (evCons (evC (.str "false")) (evCons (evC (.str "true")) evNil))) (evL intM (evCons (evVar 0) evNil)))) sNil) (sRet true (evL strM (evCons (evVar 0) evNil)))))
def e__law_rank (call : Calls) : SM := (sSeq (sIf (ev2 (isNM false) (evVar 0) (evC .non)) (sAsg 0 (evIf (ev1 (isiM "str") (evVar 1)) (evC (.str "")) (evIf (ev1 (isiM "bool") (evVar 1)) (evC (.bl false)) (evC (.int 0))))) sNil) (sSeq (sIf (ev1 (isiM "str") (evVar 0)) (sRet true (evL tupM (evCons (evC (.int 1)) (evCons (evVar 0) evNil)))) sNil) (sRet true (evIf (ev1 (isiM "bool") (evVar 0)) (evL tupM (evCons (evC (.int 2)) (evCons (evL intM (evCons (evVar 0) evNil)) evNil))) (evL tupM (evCons (evC (.int 0)) (evCons (evVar 0) evNil)))))))
def e__law_within (call : Calls) : SM := (sSeq (sIf (ev1 (isiM "str") (evVar 0)) (sRet true (evIf (ev2 (ordM .LtE) (evL lenM (evCons (evVar 0) evNil)) (evC (.int 400))) (evVar 0) (evL tupM (evCons (evC (.str "bad")) (evCons (evC (.str "large")) evNil))))) sNil) (sRet true (evIf (ev2 (ordM .LtE) (evL absM (evCons (evVar 0) evNil)) (ev2 powM (evC (.int 10)) (evC (.int 30)))) (evVar 0) (evL tupM (evCons (evC (.str "bad")) (evCons (evC (.str "large")) evNil))))))
def s__law_op_1 (call : Calls) : SM := (sIf (evOr (ev1 (isiM "tuple") (evVar 1)) (ev1 (isiM "tuple") (evVar 2))) (sRet true (evIf (ev1 (isiM "tuple") (evVar 1)) (evVar 1) (evVar 2))) sNil)
def s__law_op_2 (call : Calls) : SM := (sIf (ev2 (eqM false) (evVar 0) (evC (.str "&"))) (sRet true (evL (call "_law_within") (evCons (ev2 addM (evL (call "_law_text") (evCons (evVar 1) evNil)) (evL (call "_law_text") (evCons (evVar 2) evNil))) evNil))) sNil)
def s__law_op_3 (call : Calls) : SM := (sPar [3, 4] (evCons (evL (call "_law_rank") (evCons (evVar 1) (evCons (evVar 2) evNil))) (evCons (evL (call "_law_rank") (evCons (evVar 2) (evCons (evVar 1) evNil))) evNil)))
def s__law_op_4 (call : Calls) : SM := (sIf (ev2 (inM false) (evVar 0) (evL lstM (evCons (evC (.str "=")) (evCons (evC (.str "<>")) evNil)))) (sSeq (sAsg 5 (evOr (ev2 (eqM false) (evVar 3) (evVar 4)) (evAnd (ev2 (inM false) (evC .non) (evL lstM (evCons (evVar 1) (evCons (evVar 2) evNil)))) (ev2 (inM false) (evL lstM (evCons (evVar 1) (evCons (evVar 2) evNil))) (evL lstM (evCons (evL lstM (evCons (evC .non) (evCons (evC (.bl false)) evNil))) (evCons (evL lstM (evCons (evC (.bl false)) (evCons (evC .non) evNil))) evNil))))))) (sRet true (ev2 (eqM false) (evVar 5) (ev2 (eqM false) (evVar 0) (evC (.str "=")))))) sNil)
def s__law_op_5 (call : Calls) : SM := (sIf (ev2 (inM false) (evVar 0) (evL lstM (evCons (evC (.str "<")) (evCons (evC (.str ">")) (evCons (evC (.str "<=")) (evCons (evC (.str ">=")) evNil)))))) (sRet true (ev2 idxM (evDisp [((evC (.str "<")), (ev2 (ordM .Lt) (evVar 3) (evVar 4))), ((evC (.str ">")), (ev2 (ordM .Gt) (evVar 3) (evVar 4))), ((evC (.str "<=")), (ev2 (ordM .LtE) (evVar 3) (evVar 4))), ((evC (.str ">=")), (ev2 (ordM .GtE) (evVar 3) (evVar 4)))]) (evVar 0))) sNil)
def s__law_op_6 (call : Calls) : SM := (sPar [6, 7] (evCons (evL (call "_law_number") (evCons (evVar 1) evNil)) (evCons (evL (call "_law_number") (evCons (evVar 2) evNil)) evNil)))
def s__law_op_7 (call : Calls) : SM := (sIf (evOr (ev1 (isiM "tuple") (evVar 6)) (ev1 (isiM "tuple") (evVar 7))) (sRet true (evIf (ev1 (isiM "tuple") (evVar 6)) (evVar 6) (evVar 7))) sNil)
def s__law_op_8 (call : Calls) : SM := (sIf (ev2 (eqM false) (evVar 0) (evC (.str "/"))) (sRet true (evIf (ev2 (eqM false) (evVar 7) (evC (.int 0))) (evL tupM (evCons (evC (.str "bad")) (evCons (evC (.str "div")) evNil))) (ev2 fdivM (evVar 6) (evVar 7)))) sNil)
def s__law_op_9 (call : Calls) : SM := (sRet true (evL (call "_law_within") (evCons (ev2 idxM (evDisp [((evC (.str "+")), (ev2 addM (evVar 6) (evVar 7))), ((evC (.str "-")), (ev2 subM (evVar 6) (evVar 7))), ((evC (.str "*")), (ev2 mulM (evVar 6) (evVar 7)))]) (evVar 0)) evNil)))
def s__law_op_r9 (call : Calls) : SM := s__law_op_9 call
def s__law_op_r8 (call : Calls) : SM := sSeq (s__law_op_8 call) (s__law_op_r9 call)
def s__law_op_r7 (call : Calls) : SM := sSeq (s__law_op_7 call) (s__law_op_r8 call)
def s__law_op_r6 (call : Calls) : SM := sSeq (s__law_op_6 call) (s__law_op_r7 call)
def s__law_op_r5 (call : Calls) : SM := sSeq (s__law_op_5 call) (s__law_op_r6 call)
def s__law_op_r4 (call : Calls) : SM := sSeq (s__law_op_4 call) (s__law_op_r5 call)
def s__law_op_r3 (call : Calls) : SM := sSeq (s__law_op_3 call) (s__law_op_r4 call)
def s__law_op_r2 (call : Calls) : SM := sSeq (s__law_op_2 call) (s__law_op_r3 call)
def s__law_op_r1 (call : Calls) : SM := sSeq (s__law_op_1 call) (s__law_op_r2 call)
def e__law_op (call : Calls) : SM := s__law_op_r1 call
def s__law_value_1 (call : Calls) : SM := (sRet true (ev2 idxM (evL lstM (evCons (evC .non) (evCons (ev2 subM (evL (call "_law_roll") (evCons (evVar 0) (evCons (evC (.int 20)) evNil))) (evC (.int 9))) (evCons (evL (call "_law_roll") (evCons (evVar 0) (evCons (evC (.int 9)) evNil))) (evCons (evC (.str "ab")) (evCons (evC (.str "b")) (evCons (evC (.bl true)) (evCons (evC (.bl false)) (evCons (evC (.int 0)) (evCons (evC (.str "")) evNil)))))))))) (evL (call "_law_roll") (evCons (evVar 0) (evCons (evC (.int 9)) evNil)))))
def s__law_value_r1 (call : Calls) : SM := s__law_value_1 call
def e__law_value (call : Calls) : SM := s__law_value_r1 call
def e__law_refused (call : Calls) : SM := (sSeq (sTry (g.exm "BadValue") (sExpr (evL (call "check_value") (evCons (evVar 0) evNil))) (sRet true (evC (.bl true)))) (sRet true (evC (.bl false))))
def s_law_1b_1 (call : Calls) : SM := (sPar [7, 8, 9] (evCons (evL (call "_law_value") (evCons (evVar 1) evNil)) (evCons (evL (call "_law_value") (evCons (evVar 1) evNil)) (evCons (evL (call "_law_value") (evCons (evVar 1) evNil)) evNil))))
def s_law_1b_2 (call : Calls) : SM := (sIf (evOr (ev2 (eqM true) (evL (call "as_number") (evCons (evVar 7) evNil)) (evL (call "_law_number") (evCons (evVar 7) evNil))) (evOr (ev2 (eqM true) (evL (call "as_text") (evCons (evVar 7) evNil)) (evL (call "_law_text") (evCons (evVar 7) evNil))) (ev2 (eqM true) (evL (call "shown") (evCons (evVar 7) evNil)) (evL (call "_law_text") (evCons (evVar 7) evNil))))) (sRet true (evC (.bl false))) sNil)
def s_law_1b_3 (call : Calls) : SM := (sAsg 2 (evL (call "_law_number") (evCons (evVar 7) evNil)))
def s_law_1b_4 (call : Calls) : SM := (sIf (evOr (ev2 (eqM true) (evL (call "as_truth") (evCons (evVar 7) evNil)) (evIf (ev1 (isiM "tuple") (evVar 2)) (evVar 2) (ev2 (eqM true) (evVar 2) (evC (.int 0))))) (evOr (evL (call "is_bad") (evCons (evVar 7) evNil)) (evNot (evL (call "is_value") (evCons (evVar 7) evNil))))) (sRet true (evC (.bl false))) sNil)
def s_law_1b_5 (call : Calls) : SM := (sAsg 3 (evL lstM (evCons (evL (call "ahead") (evCons (evVar 7) (evCons (evVar 8) evNil))) (evCons (evL (call "alike") (evCons (evVar 7) (evCons (evVar 8) evNil))) (evCons (evL (call "ahead") (evCons (evVar 8) (evCons (evVar 7) evNil))) evNil)))))
def s_law_1b_6 (call : Calls) : SM := (sIf (evOr (ev2 (eqM true) (evMt "list" cntM (evVar 3) (evCons (evC (.bl true)) evNil)) (evC (.int 1))) (evOr (ev2 (eqM true) (ev2 idxM (evVar 3) (evC (.int 0))) (evL (call "_law_op") (evCons (evC (.str "<")) (evCons (evVar 7) (evCons (evVar 8) evNil))))) (ev2 (eqM true) (ev2 idxM (evVar 3) (evC (.int 1))) (evL (call "_law_op") (evCons (evC (.str "=")) (evCons (evVar 7) (evCons (evVar 8) evNil))))))) (sRet true (evC (.bl false))) sNil)
def s_law_1b_7 (call : Calls) : SM := (sIf (evOr (ev2 (eqM true) (evL (call "alike") (evCons (evVar 7) (evCons (evVar 8) evNil))) (evL (call "alike") (evCons (evVar 8) (evCons (evVar 7) evNil)))) (evNot (evL (call "alike") (evCons (evVar 7) (evCons (evVar 7) evNil))))) (sRet true (evC (.bl false))) sNil)
def s_law_1b_8 (call : Calls) : SM := (sIf (evAnd (ev2 (inM true) (evC .non) (evL lstM (evCons (evVar 7) (evCons (evVar 8) (evCons (evVar 9) evNil))))) (evAnd (evL (call "ahead") (evCons (evVar 7) (evCons (evVar 8) evNil))) (evAnd (evL (call "ahead") (evCons (evVar 8) (evCons (evVar 9) evNil))) (evNot (evL (call "ahead") (evCons (evVar 7) (evCons (evVar 9) evNil))))))) (sRet true (evC (.bl false))) sNil)
def s_law_1b_9 (call : Calls) : SM := (sAsg 4 (evDisp [((evC (.str "nothing")), (ev2 (isNM false) (evVar 7) (evC .non))), ((evC (.str "truth")), (ev1 (isiM "bool") (evVar 7))), ((evC (.str "text")), (ev1 (isiM "str") (evVar 7)))]))
def s_law_1b_10 (call : Calls) : SM := (sSub (evVar 4) (evC (.str "number")) (evAnd (ev1 (isiM "int") (evVar 7)) (evNot (ev1 (isiM "bool") (evVar 7)))))
def s_law_1b_11 (call : Calls) : SM := (sIf (ev2 (eqM true) (evLock 4 (evLc (evWalk (evVar 4)) (.nm 10) [10] (evT (ev2 idxM (evVar 4) (evVar 10))) (evVar 10))) (evL lstM (evCons (evL (call "kind_of") (evCons (evVar 7) evNil)) evNil))) (sRet true (evC (.bl false))) sNil)
def s_law_1b_12 (call : Calls) : SM := (sAsg 5 (evL tupM (evCons (evC (.str "bad")) (evCons (ev2 idxM (evL lstM (evCons (evC (.str "div")) (evCons (evC (.str "ref")) (evCons (evC (.str "kind")) (evCons (evC (.str "ring")) (evCons (evC (.str "large")) (evCons (evC (.str "none")) evNil))))))) (evL (call "_law_roll") (evCons (evVar 1) (evCons (evC (.int 6)) evNil)))) evNil))))
def s_law_1b_13 (call : Calls) : SM := (sIf (evOr (ev2 (eqM true) (evL lstM (evCons (evL (call "as_number") (evCons (evVar 5) evNil)) (evCons (evL (call "as_text") (evCons (evVar 5) evNil)) (evCons (evL (call "as_truth") (evCons (evVar 5) evNil)) evNil)))) (ev2 mulM (evL lstM (evCons (evVar 5) evNil)) (evC (.int 3)))) (evOr (ev2 (eqM true) (evL (call "shown") (evCons (evVar 5) evNil)) (ev2 addM (evC (.str "#")) (ev2 idxM (evVar 5) (evC (.int 1))))) (evNot (evL (call "is_bad") (evCons (evVar 5) evNil))))) (sRet true (evC (.bl false))) sNil)
def s_law_1b_14 (call : Calls) : SM := (sFor (evWalk (evL lstM (evCons (evL tupM (evCons (evC (.str "bad")) (evCons (evC (.str "odd")) evNil))) (evCons (evL tupM (evCons (evC (.str "bad")) evNil)) (evCons (evL lstM (evCons (evC (.int 1)) evNil)) (evCons (ev2 powM (evC (.int 10)) (evC (.int 31))) (evCons (ev2 mulM (evC (.str "a")) (evC (.int 401))) (evCons evNewK evNil)))))))) (.nm 6) (sIf (evOr (evL (call "is_value") (evCons (evVar 6) evNil)) (evNot (evL (call "_law_refused") (evCons (evVar 6) evNil)))) (sRet true (evC (.bl false))) sNil))
def s_law_1b_r14 (call : Calls) : SM := s_law_1b_14 call
def s_law_1b_r13 (call : Calls) : SM := sSeq (s_law_1b_13 call) (s_law_1b_r14 call)
def s_law_1b_r12 (call : Calls) : SM := sSeq (s_law_1b_12 call) (s_law_1b_r13 call)
def s_law_1b_r11 (call : Calls) : SM := sSeq (s_law_1b_11 call) (s_law_1b_r12 call)
def s_law_1b_r10 (call : Calls) : SM := sSeq (s_law_1b_10 call) (s_law_1b_r11 call)
def s_law_1b_r9 (call : Calls) : SM := sSeq (s_law_1b_9 call) (s_law_1b_r10 call)
def s_law_1b_r8 (call : Calls) : SM := sSeq (s_law_1b_8 call) (s_law_1b_r9 call)
def s_law_1b_r7 (call : Calls) : SM := sSeq (s_law_1b_7 call) (s_law_1b_r8 call)
def s_law_1b_r6 (call : Calls) : SM := sSeq (s_law_1b_6 call) (s_law_1b_r7 call)
def s_law_1b_r5 (call : Calls) : SM := sSeq (s_law_1b_5 call) (s_law_1b_r6 call)
def s_law_1b_r4 (call : Calls) : SM := sSeq (s_law_1b_4 call) (s_law_1b_r5 call)
def s_law_1b_r3 (call : Calls) : SM := sSeq (s_law_1b_3 call) (s_law_1b_r4 call)
def s_law_1b_r2 (call : Calls) : SM := sSeq (s_law_1b_2 call) (s_law_1b_r3 call)
def s_law_1b_r1 (call : Calls) : SM := sSeq (s_law_1b_1 call) (s_law_1b_r2 call)
def s_law_1 (call : Calls) : SM := sFor (evWalk (evL (call "_law_rounds") (evCons (evVar 0) (evCons (evC (.int 5)) evNil)))) (.nm 1) (s_law_1b_r1 call)
def s_law_2 (call : Calls) : SM := (sRet true (evC (.bl true)))
def s_law_r2 (call : Calls) : SM := s_law_2 call
def s_law_r1 (call : Calls) : SM := sSeq (s_law_1 call) (s_law_r2 call)
def e_law (call : Calls) : SM := s_law_r1 call
def I_is_whole : FnI := ⟨p_is_whole, n_is_whole, defScope (top 4), defBody (top 4), false, e_is_whole⟩
def I_is_bad : FnI := ⟨p_is_bad, n_is_bad, defScope (top 8), defBody (top 8), false, e_is_bad⟩
def I_is_value : FnI := ⟨p_is_value, n_is_value, defScope (top 9), defBody (top 9), false, e_is_value⟩
def I_check_value : FnI := ⟨p_check_value, n_check_value, defScope (top 10), defBody (top 10), false, e_check_value⟩
def I_kind_of : FnI := ⟨p_kind_of, n_kind_of, defScope (top 11), defBody (top 11), false, e_kind_of⟩
def I_as_number : FnI := ⟨p_as_number, n_as_number, defScope (top 12), defBody (top 12), false, e_as_number⟩
def I_as_text : FnI := ⟨p_as_text, n_as_text, defScope (top 13), defBody (top 13), false, e_as_text⟩
def I_as_truth : FnI := ⟨p_as_truth, n_as_truth, defScope (top 14), defBody (top 14), false, e_as_truth⟩
def I_rank : FnI := ⟨p_rank, n_rank, defScope (top 15), defBody (top 15), false, e_rank⟩
def I_alike : FnI := ⟨p_alike, n_alike, defScope (top 16), defBody (top 16), false, e_alike⟩
def I_ahead : FnI := ⟨p_ahead, n_ahead, defScope (top 17), defBody (top 17), false, e_ahead⟩
def I_blank_beside : FnI := ⟨p_blank_beside, n_blank_beside, defScope (top 18), defBody (top 18), false, e_blank_beside⟩
def I_shown : FnI := ⟨p_shown, n_shown, defScope (top 19), defBody (top 19), false, e_shown⟩
def I__law_dice : FnI := ⟨p__law_dice, n__law_dice, defScope (top 21), defBody (top 21), false, e__law_dice⟩
def I__law_roll : FnI := ⟨p__law_roll, n__law_roll, defScope (top 22), defBody (top 22), false, e__law_roll⟩
def I__law_rounds : FnI := ⟨p__law_rounds, n__law_rounds, defScope (top 23), defBody (top 23), false, e__law_rounds⟩
def I__law_number : FnI := ⟨p__law_number, n__law_number, defScope (top 24), defBody (top 24), false, e__law_number⟩
def I__law_text : FnI := ⟨p__law_text, n__law_text, defScope (top 25), defBody (top 25), false, e__law_text⟩
def I__law_rank : FnI := ⟨p__law_rank, n__law_rank, defScope (top 26), defBody (top 26), false, e__law_rank⟩
def I__law_within : FnI := ⟨p__law_within, n__law_within, defScope (top 27), defBody (top 27), false, e__law_within⟩
def I__law_op : FnI := ⟨p__law_op, n__law_op, defScope (top 28), defBody (top 28), false, e__law_op⟩
def I__law_value : FnI := ⟨p__law_value, n__law_value, defScope (top 33), defBody (top 33), false, e__law_value⟩
def I__law_refused : FnI := ⟨p__law_refused, n__law_refused, defScope (top 34), defBody (top 34), false, e__law_refused⟩
def I_law : FnI := ⟨p_law, n_law, defScope (top 35), defBody (top 35), false, e_law⟩
theorem ok_is_whole : I_is_whole.Ok g := by
  intro call
  kernel_rfl
theorem sc_is_whole : fnScB I_is_whole.N I_is_whole.ps I_is_whole.sc = true := by kernel_rfl
theorem ok_is_bad : I_is_bad.Ok g := by
  intro call
  kernel_rfl
theorem sc_is_bad : fnScB I_is_bad.N I_is_bad.ps I_is_bad.sc = true := by kernel_rfl
theorem ok_is_value : I_is_value.Ok g := by
  intro call
  kernel_rfl
theorem sc_is_value : fnScB I_is_value.N I_is_value.ps I_is_value.sc = true := by kernel_rfl
theorem ok_check_value : I_check_value.Ok g := by
  intro call
  kernel_rfl
theorem sc_check_value : fnScB I_check_value.N I_check_value.ps I_check_value.sc = true := by kernel_rfl
theorem ok_kind_of : I_kind_of.Ok g := by
  intro call
  kernel_rfl
theorem sc_kind_of : fnScB I_kind_of.N I_kind_of.ps I_kind_of.sc = true := by kernel_rfl
theorem ok_as_number : I_as_number.Ok g := by
  intro call
  kernel_rfl
theorem sc_as_number : fnScB I_as_number.N I_as_number.ps I_as_number.sc = true := by kernel_rfl
theorem ok_as_text : I_as_text.Ok g := by
  intro call
  kernel_rfl
theorem sc_as_text : fnScB I_as_text.N I_as_text.ps I_as_text.sc = true := by kernel_rfl
theorem ok_as_truth : I_as_truth.Ok g := by
  intro call
  kernel_rfl
theorem sc_as_truth : fnScB I_as_truth.N I_as_truth.ps I_as_truth.sc = true := by kernel_rfl
theorem ok_rank : I_rank.Ok g := by
  intro call
  kernel_rfl
theorem sc_rank : fnScB I_rank.N I_rank.ps I_rank.sc = true := by kernel_rfl
theorem ok_alike : I_alike.Ok g := by
  intro call
  kernel_rfl
theorem sc_alike : fnScB I_alike.N I_alike.ps I_alike.sc = true := by kernel_rfl
theorem ok_ahead : I_ahead.Ok g := by
  intro call
  kernel_rfl
theorem sc_ahead : fnScB I_ahead.N I_ahead.ps I_ahead.sc = true := by kernel_rfl
theorem ok_blank_beside : I_blank_beside.Ok g := by
  intro call
  kernel_rfl
theorem sc_blank_beside : fnScB I_blank_beside.N I_blank_beside.ps I_blank_beside.sc = true := by kernel_rfl
theorem ok_shown : I_shown.Ok g := by
  intro call
  kernel_rfl
theorem sc_shown : fnScB I_shown.N I_shown.ps I_shown.sc = true := by kernel_rfl
theorem ok__law_dice : I__law_dice.Ok g := by
  intro call
  kernel_rfl
theorem sc__law_dice : fnScB I__law_dice.N I__law_dice.ps I__law_dice.sc = true := by kernel_rfl
theorem ok__law_roll : I__law_roll.Ok g := by
  intro call
  kernel_rfl
theorem sc__law_roll : fnScB I__law_roll.N I__law_roll.ps I__law_roll.sc = true := by kernel_rfl
theorem ok__law_rounds : I__law_rounds.Ok g := by
  intro call
  kernel_rfl
theorem sc__law_rounds : fnScB I__law_rounds.N I__law_rounds.ps I__law_rounds.sc = true := by kernel_rfl
theorem ok__law_number : I__law_number.Ok g := by
  intro call
  kernel_rfl
theorem sc__law_number : fnScB I__law_number.N I__law_number.ps I__law_number.sc = true := by kernel_rfl
theorem ok__law_text : I__law_text.Ok g := by
  intro call
  kernel_rfl
theorem sc__law_text : fnScB I__law_text.N I__law_text.ps I__law_text.sc = true := by kernel_rfl
theorem ok__law_rank : I__law_rank.Ok g := by
  intro call
  kernel_rfl
theorem sc__law_rank : fnScB I__law_rank.N I__law_rank.ps I__law_rank.sc = true := by kernel_rfl
theorem ok__law_within : I__law_within.Ok g := by
  intro call
  kernel_rfl
theorem sc__law_within : fnScB I__law_within.N I__law_within.ps I__law_within.sc = true := by kernel_rfl
theorem ok__law_op : I__law_op.Ok g := by
  intro call
  kernel_rfl
theorem sc__law_op : fnScB I__law_op.N I__law_op.ps I__law_op.sc = true := by kernel_rfl
theorem ok__law_value : I__law_value.Ok g := by
  intro call
  kernel_rfl
theorem sc__law_value : fnScB I__law_value.N I__law_value.ps I__law_value.sc = true := by kernel_rfl
theorem ok__law_refused : I__law_refused.Ok g := by
  intro call
  kernel_rfl
theorem sc__law_refused : fnScB I__law_refused.N I__law_refused.ps I__law_refused.sc = true := by kernel_rfl
theorem ok_law : I_law.Ok g := by
  intro call
  kernel_rfl
theorem sc_law : fnScB I_law.N I_law.ps I_law.sc = true := by kernel_rfl
def T : Tb := [("is_whole", I_is_whole), ("is_bad", I_is_bad), ("is_value", I_is_value), ("check_value", I_check_value), ("kind_of", I_kind_of), ("as_number", I_as_number), ("as_text", I_as_text), ("as_truth", I_as_truth), ("rank", I_rank), ("alike", I_alike), ("ahead", I_ahead), ("blank_beside", I_blank_beside), ("shown", I_shown), ("_law_dice", I__law_dice), ("_law_roll", I__law_roll), ("_law_rounds", I__law_rounds), ("_law_number", I__law_number), ("_law_text", I__law_text), ("_law_rank", I__law_rank), ("_law_within", I__law_within), ("_law_op", I__law_op), ("_law_value", I__law_value), ("_law_refused", I__law_refused), ("law", I_law)]
end Mp.K04
namespace Mp.K04
open PySem PySem.Spec PyProof.Rows L2
abbrev c : Calls := callM T 9
def intV : List D := [.int (-9), .int (-8), .int (-7), .int (-6), .int (-5), .int (-4), .int (-3), .int (-2), .int (-1), .int 0, .int 1, .int 2, .int 3, .int 4, .int 5, .int 6, .int 7, .int 8, .int 9, .int 10]
def vals : List D := intV ++ [.non, .str "ab", .str "b", .bl true, .bl false, .str ""]
def prs : List (D × D) := vals.flatMap fun a => vals.map fun b => (a, b)
theorem prs_mem {a b : D} (ha : a ∈ vals) (hb : b ∈ vals) : (a, b) ∈ prs := List.mem_flatMap.mpr ⟨a, ha, List.mem_map.mpr ⟨b, hb, rfl⟩⟩
def s0 : Sto := ⟨0, []⟩
def dOf (r : R Xn D) : D := match r with
  | .ok d _ => d
  | _ => .non
def bOf (r : R Xn D) : Bool := match r with
  | .ok (.bl b) _ => b
  | _ => false
def num (a : D) : D := dOf (c "_law_number" [a] s0)
def ah (a b : D) : Bool := bOf (c "ahead" [a, b] s0)
def al (a b : D) : Bool := bOf (c "alike" [a, b] s0)
def lr (a b : D) : D := dOf (callM T 8 "_law_rank" [a, b] s0)
def cmpv (op : CmpOp) (a b : D) : Bool := bOf (ordM op (lr a b) (lr b a) s0)
section
variable (st : Sto) (x0 x1 x2 x3 x4 x5 x6 x7 x8 x9 x10 : Option D)
theorem k2 : (vals.map fun a => s_law_1b_2 c [x0, x1, x2, x3, x4, x5, x6, some a, x8, x9, x10] st) = vals.map fun a => .ok (.nx, [x0, x1, x2, x3, x4, x5, x6, some a, x8, x9, x10]) st := by kernel_rfl
theorem k3 : (vals.map fun a => s_law_1b_3 c [x0, x1, x2, x3, x4, x5, x6, some a, x8, x9, x10] st) = vals.map fun a => .ok (.nx, [x0, x1, some (num a), x3, x4, x5, x6, some a, x8, x9, x10]) st := by kernel_rfl
theorem k4 : (vals.map fun a => s_law_1b_4 c [x0, x1, some (num a), x3, x4, x5, x6, some a, x8, x9, x10] st) = vals.map fun a => .ok (.nx, [x0, x1, some (num a), x3, x4, x5, x6, some a, x8, x9, x10]) st := by kernel_rfl
theorem kah : (prs.map fun p => c "ahead" [p.1, p.2] st) = prs.map fun p => .ok (.bl (ah p.1 p.2)) st := by kernel_rfl
theorem kal : (prs.map fun p => c "alike" [p.1, p.2] st) = prs.map fun p => .ok (.bl (al p.1 p.2)) st := by kernel_rfl
theorem keq : (prs.map fun p => c "_law_op" [.str "=", p.1, p.2] st) = prs.map fun p => .ok (.bl (al p.1 p.2)) st := by kernel_rfl
theorem kop : (prs.map fun p => sSeq (s__law_op_1 (callM T 8)) (sSeq (s__law_op_2 (callM T 8)) (sSeq (s__law_op_3 (callM T 8)) (s__law_op_4 (callM T 8)))) [some (.str "<"), some p.1, some p.2, none, none, none, none, none] st) = prs.map fun p => .ok (.nx, [some (.str "<"), some p.1, some p.2, some (lr p.1 p.2), some (lr p.2 p.1), none, none, none]) st := by kernel_rfl
theorem kcmp : (prs.map fun p => (ordM .Lt (lr p.1 p.2) (lr p.2 p.1) st, ordM .Gt (lr p.1 p.2) (lr p.2 p.1) st, ordM .LtE (lr p.1 p.2) (lr p.2 p.1) st, ordM .GtE (lr p.1 p.2) (lr p.2 p.1) st)) = prs.map fun p => (.ok (.bl (ah p.1 p.2)) st, .ok (.bl (cmpv .Gt p.1 p.2)) st, .ok (.bl (cmpv .LtE p.1 p.2)) st, .ok (.bl (cmpv .GtE p.1 p.2)) st) := by kernel_rfl
theorem kone : (prs.map fun p => ([ah p.1 p.2, al p.1 p.2, ah p.2 p.1].count true, al p.1 p.2, al p.1 p.1)) = prs.map fun p => (1, al p.2 p.1, true) := by kernel_rfl
end
end Mp.K04
namespace Mp.K04
open PySem PySem.Spec PyProof.Rows L2
theorem lk_roll : T.lookup ("_law_roll" : Str) = some I__law_roll := by kernel_rfl
theorem lk_dice : T.lookup ("_law_dice" : Str) = some I__law_dice := by kernel_rfl
theorem lk_rounds : T.lookup ("_law_rounds" : Str) = some I__law_rounds := by kernel_rfl
theorem lk_value : T.lookup ("_law_value" : Str) = some I__law_value := by kernel_rfl
theorem lk_op : T.lookup ("_law_op" : Str) = some I__law_op := by kernel_rfl
theorem lk_isv : T.lookup ("is_value" : Str) = some I_is_value := by kernel_rfl
theorem lk_whole : T.lookup ("is_whole" : Str) = some I_is_whole := by kernel_rfl
theorem lk_check : T.lookup ("check_value" : Str) = some I_check_value := by kernel_rfl
theorem lk_ref : T.lookup ("_law_refused" : Str) = some I__law_refused := by kernel_rfl
theorem lk_law : T.lookup ("law" : Str) = some I_law := by kernel_rfl
theorem rollC (k : Nat) : RollC (callM T (k + 1)) := rollC_of lk_roll rfl rfl rfl fun _ => rfl
theorem roundsC : RoundsC c := roundsC_of (k := 8) (diceC_of (k := 7) lk_dice rfl rfl rfl fun _ => rfl) lk_rounds rfl rfl rfl fun _ => rfl

theorem int_mem (i : Int) (h : -9 ≤ i) (k : i ≤ 10) : D.int i ∈ vals := by
  have z : i = -9 ∨ i = -8 ∨ i = -7 ∨ i = -6 ∨ i = -5 ∨ i = -4 ∨ i = -3 ∨ i = -2 ∨ i = -1 ∨ i = 0 ∨ i = 1 ∨ i = 2 ∨ i = 3 ∨ i = 4 ∨ i = 5 ∨ i = 6 ∨ i = 7 ∨ i = 8 ∨ i = 9 ∨ i = 10 := by omega
  refine List.mem_append_left _ ?_
  unfold intV
  rcases z with rfl | rfl | rfl | rfl | rfl | rfl | rfl | rfl | rfl | rfl | rfl | rfl | rfl | rfl | rfl | rfl | rfl | rfl | rfl | rfl <;> simp
theorem rest_mem (d : D) (h : d ∈ ([.non, .str "ab", .str "b", .bl true, .bl false, .str ""] : List D)) : d ∈ vals := List.mem_append_right _ h
theorem val_c {n : Nat} {st : Sto} (h : Die st n) : ∃ a st', c "_law_value" [.loc n] st = .ok a st' ∧ a ∈ vals ∧ Go st st' := by
  obtain ⟨v1, s1, e1, a1, b1, r1⟩ := rollC 7 n 20 st h (by decide) (by decide)
  obtain ⟨v2, s2, e2, a2, b2, r2⟩ := rollC 7 n 9 s1 (r1.die h) (by decide) (by decide)
  obtain ⟨v3, s3, e3, a3, b3, r3⟩ := rollC 7 n 9 s2 (r2.die (r1.die h)) (by decide) (by decide)
  have go : Go st s3 := (r1.go.trans r2.go).trans r3.go
  have key : ∀ a : D, a.isLoc = false → idxM (.lst [.non, .int (v1 - 9), .int v2, .str "ab", .str "b", .bl true, .bl false, .int 0, .str ""]) (.int v3) s3 = .ok a s3 → c "_law_value" [.loc n] st = .ok a s3 := by
    intro a ha e
    have l : (evCons (evC .non) (evCons (ev2 subM (evL (callM T 8 "_law_roll") (evCons (evVar 0) (evCons (evC (.int 20)) evNil))) (evC (.int 9))) (evCons (evL (callM T 8 "_law_roll") (evCons (evVar 0) (evCons (evC (.int 9)) evNil))) (evCons (evC (.str "ab")) (evCons (evC (.str "b")) (evCons (evC (.bl true)) (evCons (evC (.bl false)) (evCons (evC (.int 0)) (evCons (evC (.str "")) evNil))))))))) [some (.loc n)] st
        = .ok [.non, .int (v1 - 9), .int v2, .str "ab", .str "b", .bl true, .bl false, .int 0, .str ""] s2 :=
      cons_st rfl (cons_st ((ev2_st (x := .int v1) (y := .int 9) ((evL_st rfl).trans e1) rfl).trans rfl) (cons_st ((evL_st rfl).trans e2) rfl))
    have m : lstM [.non, .int (v1 - 9), .int v2, .str "ab", .str "b", .bl true, .bl false, .int 0, .str ""] s2 = .ok (.lst [.non, .int (v1 - 9), .int v2, .str "ab", .str "b", .bl true, .bl false, .int 0, .str ""]) s2 := if_pos (by show 9 ≤ sizeLine; decide)
    have f : s__law_value_1 (callM T 8) [some (.loc n)] st = .ok (.rt a, [some (.loc n)]) s3 := by
      refine (then_st ((ev2_st ((evL_st l).trans m) ((evL_st rfl).trans e3)).trans e)).trans ?_
      cases a <;> first | rfl | cases ha
    refine (call_eq (n := 8) lk_value rfl rfl).trans ?_
    show endM false st.next (s__law_value_1 (callM T 8) [some (.loc n)] st) = _
    rw [f]
    rfl
  have z : v3 = 0 ∨ v3 = 1 ∨ v3 = 2 ∨ v3 = 3 ∨ v3 = 4 ∨ v3 = 5 ∨ v3 = 6 ∨ v3 = 7 ∨ v3 = 8 := by omega
  rcases z with rfl | rfl | rfl | rfl | rfl | rfl | rfl | rfl | rfl
  · exact ⟨_, s3, key _ rfl rfl, rest_mem _ (by simp), go⟩
  · exact ⟨_, s3, key (.int (v1 - 9)) rfl rfl, int_mem _ (by omega) (by omega), go⟩
  · exact ⟨_, s3, key (.int v2) rfl rfl, int_mem _ (by omega) (by omega), go⟩
  · exact ⟨_, s3, key (.str "ab") rfl rfl, rest_mem _ (by simp), go⟩
  · exact ⟨_, s3, key (.str "b") rfl rfl, rest_mem _ (by simp), go⟩
  · exact ⟨_, s3, key (.bl true) rfl rfl, rest_mem _ (by simp), go⟩
  · exact ⟨_, s3, key (.bl false) rfl rfl, rest_mem _ (by simp), go⟩
  · exact ⟨_, s3, key (.int 0) rfl rfl, int_mem _ (by omega) (by omega), go⟩
  · exact ⟨_, s3, key (.str "") rfl rfl, rest_mem _ (by simp), go⟩

theorem evP_cons {a b : Ev → M D} {l : List ((Ev → M D) × (Ev → M D))} {ρ : Ev} {s : Sto} {k v : D} {r : List D} (h1 : a ρ s = .ok k s) (h2 : b ρ s = .ok v s) (h3 : evP l ρ s = .ok r s) : evP ((a, b) :: l) ρ s = .ok (k :: v :: r) s := by
  exact cons_st h1 (cons_st h2 h3)
theorem op_lt {a b : D} (ha : a ∈ vals) (hb : b ∈ vals) (st : Sto) : ∃ st', c "_law_op" [.str "<", a, b] st = .ok (.bl (ah a b)) st' ∧ Keep st st' := by
  have hp := prs_mem ha hb
  have e0 := all_of (kop st) hp
  dsimp only at e0
  have ec : ∀ s, (ordM .Lt (lr a b) (lr b a) s, ordM .Gt (lr a b) (lr b a) s, ordM .LtE (lr a b) (lr b a) s, ordM .GtE (lr a b) (lr b a) s) = (.ok (.bl (ah a b)) s, .ok (.bl (cmpv .Gt a b)) s, .ok (.bl (cmpv .LtE a b)) s, .ok (.bl (cmpv .GtE a b)) s) := fun s => all_of (kcmp s) hp
  generalize hg : cmpv .Gt a b = y2 at ec
  generalize hl : cmpv .LtE a b = y3 at ec
  generalize hge : cmpv .GtE a b = y4 at ec
  generalize ah a b = y1 at ec ⊢
  generalize lr a b = l1 at e0 ec
  generalize lr b a = l2 at e0 ec
  have d := gDisp (st := st) (kvs := [(.inr "<", .bl y1), (.inr ">", .bl y2), (.inr "<=", .bl y3), (.inr ">=", .bl y4)]) (ρ := [some (.str "<"), some a, some b, some l1, some l2, none, none, none])
    (l := [((evC (.str "<")), (ev2 (ordM .Lt) (evVar 3) (evVar 4))), ((evC (.str ">")), (ev2 (ordM .Gt) (evVar 3) (evVar 4))), ((evC (.str "<=")), (ev2 (ordM .LtE) (evVar 3) (evVar 4))), ((evC (.str ">=")), (ev2 (ordM .GtE) (evVar 3) (evVar 4)))])
    (ds := [.str "<", .bl y1, .str ">", .bl y2, .str "<=", .bl y3, .str ">=", .bl y4])
    (fun s => evP_cons rfl ((ev2_eq rfl rfl).trans (Prod.mk.inj (ec s)).1) (evP_cons rfl ((ev2_eq rfl rfl).trans (Prod.mk.inj (Prod.mk.inj (ec s)).2).1) (evP_cons rfl ((ev2_eq rfl rfl).trans (Prod.mk.inj (Prod.mk.inj (Prod.mk.inj (ec s)).2).2).1) (evP_cons rfl ((ev2_eq rfl rfl).trans (Prod.mk.inj (Prod.mk.inj (Prod.mk.inj (ec s)).2).2).2) rfl)))) rfl (by show 4 ≤ 15; decide)
  have mg : mergeD [(.inr "<", .bl y1), (.inr ">", .bl y2), (.inr "<=", .bl y3), (.inr ">=", .bl y4)] = [((.inr "<" : Key), D.bl y1), (.inr ">", .bl y2), (.inr "<=", .bl y3), (.inr ">=", .bl y4)] := by kernel_rfl
  rw [mg] at d
  refine ⟨st.new (.dk [(.inr "<", .bl y1), (.inr ">", .bl y2), (.inr "<=", .bl y3), (.inr ">=", .bl y4)]), ?_, keep_new _ _⟩
  have ix : idxM (.loc st.next) (.str "<") (st.new (.dk [(.inr "<", .bl y1), (.inr ">", .bl y2), (.inr "<=", .bl y3), (.inr ">=", .bl y4)])) = .ok (.bl y1) (st.new (.dk [(.inr "<", .bl y1), (.inr ">", .bl y2), (.inr "<=", .bl y3), (.inr ">=", .bl y4)])) := by
    have v : valD [((.inr "<" : Key), D.bl y1), (.inr ">", .bl y2), (.inr "<=", .bl y3), (.inr ">=", .bl y4)] (.inr "<") = some (.bl y1) := by kernel_rfl
    simp only [idxM, dictAt, get_new_self, keyD, Option.map_some, v]
  have t5 : evT (ev2 (inM false) (evVar 0) (evL lstM (evCons (evC (.str "<")) (evCons (evC (.str ">")) (evCons (evC (.str "<=")) (evCons (evC (.str ">=")) evNil)))))) [some (.str "<"), some a, some b, some l1, some l2, none, none, none] st = .ok true st := by kernel_rfl
  refine (call_eq (n := 8) lk_op rfl rfl).trans ?_
  have e5 : s__law_op_r5 (callM T 8) [some (.str "<"), some a, some b, some l1, some l2, none, none, none] st = .ok (.rt (.bl y1), [some (.str "<"), some a, some b, some l1, some l2, none, none, none]) (st.new (.dk [(.inr "<", .bl y1), (.inr ">", .bl y2), (.inr "<=", .bl y3), (.inr ">=", .bl y4)])) := by
    refine sSeq_rt ((if_st t5).trans ?_)
    rw [if_pos rfl]
    exact then_st ((ev2_st d rfl).trans ix)
  have f : e__law_op (callM T 8) [some (.str "<"), some a, some b, none, none, none, none, none] st = .ok (.rt (.bl y1), [some (.str "<"), some a, some b, some l1, some l2, none, none, none]) (st.new (.dk [(.inr "<", .bl y1), (.inr ">", .bl y2), (.inr "<=", .bl y3), (.inr ">=", .bl y4)])) := by
    have sp : e__law_op (callM T 8) [some (.str "<"), some a, some b, none, none, none, none, none] st = sSeq (sSeq (s__law_op_1 (callM T 8)) (sSeq (s__law_op_2 (callM T 8)) (sSeq (s__law_op_3 (callM T 8)) (s__law_op_4 (callM T 8))))) (s__law_op_r5 (callM T 8)) [some (.str "<"), some a, some b, none, none, none, none, none] st := by
      rw [seq_assoc]
      have q2 : sSeq (sSeq (s__law_op_2 (callM T 8)) (sSeq (s__law_op_3 (callM T 8)) (s__law_op_4 (callM T 8)))) (s__law_op_r5 (callM T 8)) = s__law_op_r2 (callM T 8) := by
        funext ρ s
        rw [seq_assoc]
        have q3 : sSeq (sSeq (s__law_op_3 (callM T 8)) (s__law_op_4 (callM T 8))) (s__law_op_r5 (callM T 8)) = s__law_op_r3 (callM T 8) := by
          funext ρ s
          rw [seq_assoc]
          rfl
        rw [q3]
        rfl
      rw [q2]
      rfl
    rw [sp, sSeq_eq e0]
    exact e5
  show endM false st.next (e__law_op (callM T 8) [some (.str "<"), some a, some b, none, none, none, none, none] st) = _
  rw [f]
  rfl
end Mp.K04
namespace Mp.K04
open PySem PySem.Spec PyProof.Rows L2
def pv (a : D) : PyData := (toP a).getD .none
def rk : D → Int
  | .int i => i
  | .str s => if s == "" then 100 else if s == "ab" then 101 else 102
  | .bl b => if b then 201 else 200
  | _ => 0
def q2 (a : D) : Bool := bOf (isiM "bool" a s0)
def q3 (a : D) : Bool := bOf (isiM "str" a s0)
def q4 (a : D) : Bool := bOf (isiM "int" a s0)
def kd (a : D) : D := dOf (c "kind_of" [a] s0)
def ks (a : D) : List (D × Bool) := [(.str "nothing", isNon a), (.str "truth", q2 a), (.str "text", q3 a), (.str "number", q4 a && !q2 a)]
def told (l : List (D × Bool)) : List D := (l.filter (·.2)).map (·.1)
theorem kpv : (vals.map fun a => (toP a, PyData.canLay0 (pv a), PyData.eqv (pv a) .none)) = vals.map fun a => (some (pv a), true, isNon a) := by kernel_rfl
theorem krk : (prs.map fun p => (isNon p.1 || isNon p.2 || (ah p.1 p.2 == decide (rk p.1 < rk p.2)))) = prs.map fun _ => true := by kernel_rfl
section
variable (st : Sto)
theorem kisi : (vals.map fun a => (isNM false a .non st, isiM "bool" a st, isiM "str" a st, isiM "int" a st)) = vals.map fun a => (.ok (.bl (isNon a)) st, .ok (.bl (q2 a)) st, .ok (.bl (q3 a)) st, .ok (.bl (q4 a)) st) := by kernel_rfl
theorem kkd : (vals.map fun a => c "kind_of" [a] st) = vals.map fun a => .ok (kd a) st := by kernel_rfl
theorem keqk : (vals.map fun a => eqM true (.lst (told (ks a))) (.lst [kd a]) st) = vals.map fun _ => .ok (.bl false) st := by kernel_rfl
end
/-- three drawn values: the order goes on -/
theorem ah_trans {a b d : D} (ha : a ∈ vals) (hb : b ∈ vals) (hd : d ∈ vals) (na : isNon a = false) (nb : isNon b = false) (nd : isNon d = false) (h : ah a b = true) (k : ah b d = true) : ah a d = true := by
  have e1 := all_of krk (prs_mem ha hb)
  have e2 := all_of krk (prs_mem hb hd)
  have e3 := all_of krk (prs_mem ha hd)
  simp only [na, nb, nd, Bool.false_or, beq_iff_eq] at e1 e2 e3
  rw [e1] at h
  rw [e2] at k
  rw [e3]
  simp only [decide_eq_true_eq] at h k ⊢
  omega
theorem in_non {a b d : D} (ha : a ∈ vals) (hb : b ∈ vals) (hd : d ∈ vals) (st : Sto) : inM true .non (.lst [a, b, d]) st = .ok (.bl (!(isNon a || isNon b || isNon d))) st := by
  have e1 := all_of kpv ha
  have e2 := all_of kpv hb
  have e3 := all_of kpv hd
  obtain ⟨a1, a2⟩ := Prod.mk.inj e1
  obtain ⟨a2, a3⟩ := Prod.mk.inj a2
  obtain ⟨b1, b2⟩ := Prod.mk.inj e2
  obtain ⟨b2, b3⟩ := Prod.mk.inj b2
  obtain ⟨d1, d2⟩ := Prod.mk.inj e3
  obtain ⟨d2, d3⟩ := Prod.mk.inj d2
  have tp : toPs [a, b, d] = some [pv a, pv b, pv d] := by simp only [toPs, a1, b1, d1]
  show (match some PyData.none, (toPs [a, b, d]).map PyData.list with
      | some p, some (.list qs) => if p.canLay0 = true ∧ PyData.canLayAll0 qs = true ∧ p.depth ≤ 64 then (R.ok (D.bl ((qs.any fun z => PyData.eqv z p) != true)) st : R Xn D) else .no
      | some p, some (.tuple qs) => if p.canLay0 = true ∧ PyData.canLayAll0 qs = true ∧ p.depth ≤ 64 then .ok (.bl ((qs.any fun z => PyData.eqv z p) != true)) st else .no
      | _, _ => .no) = _
  rw [tp]
  have ly : PyData.canLayAll0 [pv a, pv b, pv d] = true := by simp only [PyData.canLayAll0, a2, b2, d2, Bool.and_self]
  show (if PyData.canLay0 .none = true ∧ PyData.canLayAll0 [pv a, pv b, pv d] = true ∧ PyData.depth .none ≤ 64 then (R.ok (D.bl (([pv a, pv b, pv d].any fun z => PyData.eqv z .none) != true)) st : R Xn D) else .no) = _
  rw [if_pos ⟨rfl, ly, by decide⟩]
  simp only [List.any_cons, List.any_nil, a3, b3, d3, Bool.or_false, Bool.bne_true, Bool.or_assoc]
section
variable {st : Sto} {n : Nat} {a b d : D} (ha : a ∈ vals) (hb : b ∈ vals) (hd : d ∈ vals) {x0 x1 x2 x3 x4 x5 x6 x7 x8 x9 x10 : Option D}
include ha hb
theorem ahE (s : Sto) : c "ahead" [a, b] s = .ok (.bl (ah a b)) s := all_of (kah s) (prs_mem ha hb)
theorem alE (s : Sto) : c "alike" [a, b] s = .ok (.bl (al a b)) s := all_of (kal s) (prs_mem ha hb)
theorem st5 : s_law_1b_5 c [x0, x1, x2, x3, x4, x5, x6, some a, some b, x9, x10] st = .ok (.nx, [x0, x1, x2, some (.lst [.bl (ah a b), .bl (al a b), .bl (ah b a)]), x4, x5, x6, some a, some b, x9, x10]) st := by
  refine asg_st (d := .lst [.bl (ah a b), .bl (al a b), .bl (ah b a)]) ((evL_st (cons_st ((evL_st rfl).trans (ahE ha hb st)) (cons_st ((evL_st rfl).trans (alE ha hb st)) (cons_st ((evL_st rfl).trans (ahE hb ha st)) rfl)))).trans ?_)
  exact if_pos (by show 3 ≤ sizeLine; decide)
theorem eq_self (x : Bool) (s : Sto) : eqM true (.bl x) (.bl x) s = .ok (.bl false) s := by cases x <;> rfl
theorem st6 : ∃ st', s_law_1b_6 c [x0, x1, x2, some (.lst [.bl (ah a b), .bl (al a b), .bl (ah b a)]), x4, x5, x6, some a, some b, x9, x10] st = .ok (.nx, [x0, x1, x2, some (.lst [.bl (ah a b), .bl (al a b), .bl (ah b a)]), x4, x5, x6, some a, some b, x9, x10]) st' ∧ Keep st st' := by
  obtain ⟨st', e, k⟩ := op_lt ha hb st
  refine ⟨st', ?_, k⟩
  have one := (Prod.mk.inj (all_of kone (prs_mem ha hb))).1
  dsimp only at one
  have t1 : evT (ev2 (eqM true) (evMt "list" cntM (evVar 3) (evCons (evC (.bl true)) evNil)) (evC (.int 1))) [x0, x1, x2, some (.lst [.bl (ah a b), .bl (al a b), .bl (ah b a)]), x4, x5, x6, some a, some b, x9, x10] st = .ok false st := by
    refine evT_st ((ev2_st (x := .int (([ah a b, al a b, ah b a].count true : Nat) : Int)) (y := .int 1) rfl rfl).trans ?_)
    rw [one]
    exact eqM_int true 1 1 st
  have t2 : evT (ev2 (eqM true) (ev2 idxM (evVar 3) (evC (.int 0))) (evL (c "_law_op") (evCons (evC (.str "<")) (evCons (evVar 7) (evCons (evVar 8) evNil))))) [x0, x1, x2, some (.lst [.bl (ah a b), .bl (al a b), .bl (ah b a)]), x4, x5, x6, some a, some b, x9, x10] st = .ok false st' :=
    evT_st ((ev2_st (x := .bl (ah a b)) (y := .bl (ah a b)) rfl ((evL_st rfl).trans e)).trans (eq_self ha hb _ _))
  have t3 : evT (ev2 (eqM true) (ev2 idxM (evVar 3) (evC (.int 1))) (evL (c "_law_op") (evCons (evC (.str "=")) (evCons (evVar 7) (evCons (evVar 8) evNil))))) [x0, x1, x2, some (.lst [.bl (ah a b), .bl (al a b), .bl (ah b a)]), x4, x5, x6, some a, some b, x9, x10] st' = .ok false st' :=
    evT_st ((ev2_st (x := .bl (al a b)) (y := .bl (al a b)) rfl ((evL_st rfl).trans (all_of (keq st') (prs_mem ha hb)))).trans (eq_self ha hb _ _))
  exact (if_st (or_st t1 (or_st t2 t3))).trans (if_neg (by decide))
theorem st7 : s_law_1b_7 c [x0, x1, x2, x3, x4, x5, x6, some a, some b, x9, x10] st = .ok (.nx, [x0, x1, x2, x3, x4, x5, x6, some a, some b, x9, x10]) st := by
  have two := (Prod.mk.inj (all_of kone (prs_mem ha hb))).2
  dsimp only at two
  obtain ⟨w1, w2⟩ := Prod.mk.inj two
  have t1 : evT (ev2 (eqM true) (evL (c "alike") (evCons (evVar 7) (evCons (evVar 8) evNil))) (evL (c "alike") (evCons (evVar 8) (evCons (evVar 7) evNil)))) [x0, x1, x2, x3, x4, x5, x6, some a, some b, x9, x10] st = .ok false st := by
    refine evT_st ((ev2_st ((evL_st rfl).trans (alE ha hb st)) ((evL_st rfl).trans (alE hb ha st))).trans ?_)
    rw [w1]
    exact eq_self ha hb _ _
  have t2 : evT (evNot (evL (c "alike") (evCons (evVar 7) (evCons (evVar 7) evNil)))) [x0, x1, x2, x3, x4, x5, x6, some a, some b, x9, x10] st = .ok false st := by
    have z := not_st (ma := evL (c "alike") (evCons (evVar 7) (evCons (evVar 7) evNil))) (evT_st (ρ := [x0, x1, x2, x3, x4, x5, x6, some a, some b, x9, x10]) ((evL_st rfl).trans (alE ha ha st)))
    rw [w2] at z
    exact z
  exact (if_st (or_st t1 t2)).trans (if_neg (by decide))
include hd
theorem st8 : s_law_1b_8 c [x0, x1, x2, x3, x4, x5, x6, some a, some b, some d, x10] st = .ok (.nx, [x0, x1, x2, x3, x4, x5, x6, some a, some b, some d, x10]) st := by
  have t0 : evT (ev2 (inM true) (evC .non) (evL lstM (evCons (evVar 7) (evCons (evVar 8) (evCons (evVar 9) evNil))))) [x0, x1, x2, x3, x4, x5, x6, some a, some b, some d, x10] st = .ok (!(isNon a || isNon b || isNon d)) st :=
    evT_st ((ev2_st (x := .non) (y := .lst [a, b, d]) rfl ((evL_st rfl).trans (if_pos (by show 3 ≤ sizeLine; decide)))).trans (in_non ha hb hd st))
  have t1 : evT (evL (c "ahead") (evCons (evVar 7) (evCons (evVar 8) evNil))) [x0, x1, x2, x3, x4, x5, x6, some a, some b, some d, x10] st = .ok (ah a b) st := evT_st ((evL_st rfl).trans (ahE ha hb st))
  have t2 : evT (evL (c "ahead") (evCons (evVar 8) (evCons (evVar 9) evNil))) [x0, x1, x2, x3, x4, x5, x6, some a, some b, some d, x10] st = .ok (ah b d) st := evT_st ((evL_st rfl).trans (ahE hb hd st))
  have t3 : evT (evNot (evL (c "ahead") (evCons (evVar 7) (evCons (evVar 9) evNil)))) [x0, x1, x2, x3, x4, x5, x6, some a, some b, some d, x10] st = .ok (!ah a d) st := not_st (evT_st ((evL_st rfl).trans (ahE ha hd st)))
  refine (if_st (x := false) (s1 := st) ?_).trans (if_neg (by decide))
  cases q0 : (isNon a || isNon b || isNon d) with
  | true =>
    rw [q0] at t0
    exact and_f t0
  | false =>
    rw [q0] at t0
    simp only [Bool.or_eq_false_iff] at q0
    refine and_t t0 ?_
    cases q1 : ah a b with
    | false => rw [q1] at t1; exact and_f t1
    | true =>
      rw [q1] at t1
      refine and_t t1 ?_
      cases q2 : ah b d with
      | false => rw [q2] at t2; exact and_f t2
      | true =>
        rw [q2] at t2
        refine and_t t2 ?_
        rw [ah_trans ha hb hd q0.1.1 q0.1.2 q0.2 q1 q2] at t3
        exact t3
end
end Mp.K04
namespace Mp.K04
open PySem PySem.Spec PyProof.Rows L2
abbrev kv3 (a : D) : List (Key × D) := [(.inr "nothing", .bl (isNon a)), (.inr "truth", .bl (q2 a)), (.inr "text", .bl (q3 a))]
abbrev kv4 (a : D) : List (Key × D) := [(.inr "nothing", .bl (isNon a)), (.inr "truth", .bl (q2 a)), (.inr "text", .bl (q3 a)), (.inr "number", .bl (q4 a && !q2 a))]
theorem isiE {a : D} (ha : a ∈ vals) (s : Sto) : isNM false a .non s = .ok (.bl (isNon a)) s ∧ isiM "bool" a s = .ok (.bl (q2 a)) s ∧ isiM "str" a s = .ok (.bl (q3 a)) s ∧ isiM "int" a s = .ok (.bl (q4 a)) s := by
  have e := all_of (kisi s) ha
  obtain ⟨e1, e2⟩ := Prod.mk.inj e
  obtain ⟨e2, e3⟩ := Prod.mk.inj e2
  obtain ⟨e3, e4⟩ := Prod.mk.inj e3
  exact ⟨e1, e2, e3, e4⟩
theorem ev1_st {f : D → M D} {ma : Ev → M D} {ρ : Ev} {s s1 : Sto} {x : D} (h : ma ρ s = .ok x s1) : ev1 f ma ρ s = f x s1 := by
  show (ma ρ s).bind _ = _
  rw [h]
  rfl
theorem merge3 (x y z : D) : mergeD [((.inr "nothing" : Key), x), (.inr "truth", y), (.inr "text", z)] = [(.inr "nothing", x), (.inr "truth", y), (.inr "text", z)] := by kernel_rfl
theorem put4 (x y z u : D) : putD [((.inr "nothing" : Key), x), (.inr "truth", y), (.inr "text", z)] (.inr "number") u = [(.inr "nothing", x), (.inr "truth", y), (.inr "text", z), (.inr "number", u)] := by kernel_rfl
theorem val4 (x y z u : D) : (valD [((.inr "nothing" : Key), x), (.inr "truth", y), (.inr "text", z), (.inr "number", u)] (.inr "nothing"), valD [((.inr "nothing" : Key), x), (.inr "truth", y), (.inr "text", z), (.inr "number", u)] (.inr "truth"), valD [((.inr "nothing" : Key), x), (.inr "truth", y), (.inr "text", z), (.inr "number", u)] (.inr "text"), valD [((.inr "nothing" : Key), x), (.inr "truth", y), (.inr "text", z), (.inr "number", u)] (.inr "number")) = (some x, some y, some z, some u) := by kernel_rfl
section
variable {st : Sto} {a : D} (ha : a ∈ vals) {x0 x1 x2 x3 x4 x5 x6 x7 x8 x9 x10 : Option D}
include ha
theorem st9 : s_law_1b_9 c [x0, x1, x2, x3, x4, x5, x6, some a, x8, x9, x10] st = .ok (.nx, [x0, x1, x2, x3, some (.loc st.next), x5, x6, some a, x8, x9, x10]) (st.new (.dk (kv3 a))) := by
  have d := gDisp (st := st) (kvs := kv3 a) (ρ := [x0, x1, x2, x3, x4, x5, x6, some a, x8, x9, x10])
    (l := [((evC (.str "nothing")), (ev2 (isNM false) (evVar 7) (evC .non))), ((evC (.str "truth")), (ev1 (isiM "bool") (evVar 7))), ((evC (.str "text")), (ev1 (isiM "str") (evVar 7)))])
    (ds := [.str "nothing", .bl (isNon a), .str "truth", .bl (q2 a), .str "text", .bl (q3 a)])
    (fun s => evP_cons rfl ((ev2_eq rfl rfl).trans (isiE ha s).1) (evP_cons rfl ((ev1_st rfl).trans (isiE ha s).2.1) (evP_cons rfl ((ev1_st rfl).trans (isiE ha s).2.2.1) rfl))) rfl (by show 3 ≤ 15; decide)
  rw [merge3] at d
  exact asg_st d
theorem st10 : s_law_1b_10 c [x0, x1, x2, x3, some (.loc st.next), x5, x6, some a, x8, x9, x10] (st.new (.dk (kv3 a))) = .ok (.nx, [x0, x1, x2, x3, some (.loc st.next), x5, x6, some a, x8, x9, x10]) (st.new (.dk (kv4 a))) := by
  have v : evAnd (ev1 (isiM "int") (evVar 7)) (evNot (ev1 (isiM "bool") (evVar 7))) [x0, x1, x2, x3, some (.loc st.next), x5, x6, some a, x8, x9, x10] (st.new (.dk (kv3 a))) = .ok (.bl (q4 a && !q2 a)) (st.new (.dk (kv3 a))) := by
    refine evAnd_eq ((ev1_st rfl).trans (isiE ha _).2.2.2) ?_
    show (ev1 (isiM "bool") (evVar 7) _ _).bind _ = _
    rw [ev1_st (x := a) rfl, (isiE ha _).2.1]
    rfl
  refine sSub_eq (o := .loc st.next) (i := .str "number") v rfl rfl ?_
  have p := put4 (.bl (isNon a)) (.bl (q2 a)) (.bl (q3 a)) (.bl (q4 a && !q2 a))
  have l : (kv3 a).length < sizeLine := by show 3 < sizeLine; decide
  simp only [setM, get_new_self, keyD, if_pos l, p, set_new_self]
theorem lc_keys {k : Nat} {s : Sto} : ∀ l : List (D × Bool), (∀ p ∈ l, idxM (.loc k) p.1 s = .ok (.bl p.2) s) → lcL (.nm 10) (evT (ev2 idxM (evVar 4) (evVar 10))) (evVar 10) [x0, x1, x2, x3, some (.loc k), x5, x6, some a, x8, x9, none] (l.map (·.1)) s = .ok (told l) s
  | [], _ => rfl
  | (x, b) :: l, h => by
    have ih := lc_keys l fun p hp => h p (List.mem_cons_of_mem _ hp)
    have e := h (x, b) (List.mem_cons_self ..)
    have t : evT (ev2 idxM (evVar 4) (evVar 10)) [x0, x1, x2, x3, some (.loc k), x5, x6, some a, x8, x9, some x] s = .ok b s := evT_st ((ev2_st (x := .loc k) (y := x) rfl rfl).trans e)
    show (noX (evT (ev2 idxM (evVar 4) (evVar 10)) [x0, x1, x2, x3, some (.loc k), x5, x6, some a, x8, x9, some x] s)).bind _ = _
    rw [t]
    cases b with
    | true =>
      show (lcL (.nm 10) (evT (ev2 idxM (evVar 4) (evVar 10))) (evVar 10) [x0, x1, x2, x3, some (.loc k), x5, x6, some a, x8, x9, none] (l.map (·.1)) s).bind (fun ys s => R.ok (x :: ys) s) = _
      rw [ih]
      rfl
    | false => exact ih
theorem st11 : s_law_1b_11 c [x0, x1, x2, x3, some (.loc st.next), x5, x6, some a, x8, x9, x10] (st.new (.dk (kv4 a))) = .ok (.nx, [x0, x1, x2, x3, some (.loc st.next), x5, x6, some a, x8, x9, x10]) (st.new (.dk (kv4 a))) := by
  have v4 := val4 (.bl (isNon a)) (.bl (q2 a)) (.bl (q3 a)) (.bl (q4 a && !q2 a))
  obtain ⟨w1, v4⟩ := Prod.mk.inj v4
  obtain ⟨w2, v4⟩ := Prod.mk.inj v4
  obtain ⟨w3, w4⟩ := Prod.mk.inj v4
  have ix : ∀ p ∈ ks a, idxM (.loc st.next) p.1 (st.new (.fdk (kv4 a))) = .ok (.bl p.2) (st.new (.fdk (kv4 a))) := by
    intro p hp
    have hp : p = (.str "nothing", isNon a) ∨ p = (.str "truth", q2 a) ∨ p = (.str "text", q3 a) ∨ p = (.str "number", q4 a && !q2 a) := by simpa [ks] using hp
    rcases hp with rfl | rfl | rfl | rfl
    · simp only [idxM, dictAt, get_new_self, keyD, Option.map_some, w1]
    · simp only [idxM, dictAt, get_new_self, keyD, Option.map_some, w2]
    · simp only [idxM, dictAt, get_new_self, keyD, Option.map_some, w3]
    · simp only [idxM, dictAt, get_new_self, keyD, Option.map_some, w4]
  have lc := lc_keys ha (x0 := x0) (x1 := x1) (x2 := x2) (x3 := x3) (x5 := x5) (x6 := x6) (x8 := x8) (x9 := x9) (ks a) ix
  have ln : (told (ks a)).length < sizeLine := by
    have h1 : (told (ks a)).length ≤ (ks a).length := by
      unfold told
      rw [List.length_map]
      exact List.length_filter_le _ _
    have h2 : (ks a).length = 4 := rfl
    have h3 : 4 < sizeLine := by decide
    omega
  have m : evLc (evWalk (evVar 4)) (.nm 10) [10] (evT (ev2 idxM (evVar 4) (evVar 10))) (evVar 10) [x0, x1, x2, x3, some (.loc st.next), x5, x6, some a, x8, x9, x10] (st.new (.fdk (kv4 a))) = .ok (.lst (told (ks a))) (st.new (.fdk (kv4 a))) := by
    have wk : walkM (.loc st.next) (st.new (.fdk (kv4 a))) = .ok ((ks a).map (·.1)) (st.new (.fdk (kv4 a))) := by
      simp only [walkM, get_new_self]
      rfl
    show ((walkM (.loc st.next) (st.new (.fdk (kv4 a)))).bind fun xs => (lcL (.nm 10) (evT (ev2 idxM (evVar 4) (evVar 10))) (evVar 10) [x0, x1, x2, x3, some (.loc st.next), x5, x6, some a, x8, x9, none] xs).bind (lcEnd [])) = _
    rw [wk]
    show ((lcL (.nm 10) (evT (ev2 idxM (evVar 4) (evVar 10))) (evVar 10) [x0, x1, x2, x3, some (.loc st.next), x5, x6, some a, x8, x9, none] ((ks a).map (·.1)) (st.new (.fdk (kv4 a)))).bind (lcEnd [])) = _
    rw [lc]
    show lcEnd [] (told (ks a)) _ = _
    unfold lcEnd
    rw [List.nil_append, if_pos ln]
  have lk : evLock 4 (evLc (evWalk (evVar 4)) (.nm 10) [10] (evT (ev2 idxM (evVar 4) (evVar 10))) (evVar 10)) [x0, x1, x2, x3, some (.loc st.next), x5, x6, some a, x8, x9, x10] (st.new (.dk (kv4 a))) = .ok (.lst (told (ks a))) (st.new (.dk (kv4 a))) := by
    have la : lockAt [x0, x1, x2, x3, some (.loc st.next), x5, x6, some a, x8, x9, x10] 4 (st.new (.dk (kv4 a))) = some (st.next, .fdk (kv4 a)) := by
      show (match (st.new (.dk (kv4 a))).get st.next with
        | some c => (lockO c).map fun c' => (st.next, c')
        | none => none) = _
      rw [get_new_self]
      rfl
    unfold evLock
    rw [la]
    show (noX (evLc _ _ _ _ _ _ ((st.new (.dk (kv4 a))).set st.next (.fdk (kv4 a))))).bind (lockEnd st.next) = _
    rw [set_new_self, m]
    show lockEnd st.next (.lst (told (ks a))) (st.new (.fdk (kv4 a))) = _
    unfold lockEnd
    rw [get_new_self]
    show R.ok _ ((st.new (.fdk (kv4 a))).set st.next (.dk (kv4 a))) = _
    rw [set_new_self]
  refine (if_st (x := false) (s1 := st.new (.dk (kv4 a))) (evT_st ((ev2_st lk ((evL_st (cons_st ((evL_st rfl).trans (all_of (kkd _) ha)) rfl)).trans (if_pos (by show 1 ≤ sizeLine; decide)))).trans (all_of (keqk _) ha)))).trans (if_neg (by decide))
end

def words : List Str := ["div", "ref", "kind", "ring", "large", "none"]
theorem k13 (st : Sto) (x0 x1 x2 x3 x4 x6 x7 x8 x9 x10 : Option D) : (words.map fun w => s_law_1b_13 c [x0, x1, x2, x3, x4, some (.tup [.str "bad", .str w]), x6, x7, x8, x9, x10] st) = words.map fun w => .ok (.nx, [x0, x1, x2, x3, x4, some (.tup [.str "bad", .str w]), x6, x7, x8, x9, x10]) st := by kernel_rfl
theorem st12 {st : Sto} {n : Nat} (h : Die st n) (x0 x2 x3 x4 x5 x6 x7 x8 x9 x10 : Option D) : ∃ w st', s_law_1b_12 c [x0, some (.loc n), x2, x3, x4, x5, x6, x7, x8, x9, x10] st = .ok (.nx, [x0, some (.loc n), x2, x3, x4, some (.tup [.str "bad", .str w]), x6, x7, x8, x9, x10]) st' ∧ w ∈ words ∧ Go st st' := by
  obtain ⟨v, s1, e, a1, b1, r⟩ := rollC 8 n 6 st h (by decide) (by decide)
  have key : ∀ w : Str, idxM (.lst [.str "div", .str "ref", .str "kind", .str "ring", .str "large", .str "none"]) (.int v) s1 = .ok (.str w) s1 → s_law_1b_12 c [x0, some (.loc n), x2, x3, x4, x5, x6, x7, x8, x9, x10] st = .ok (.nx, [x0, some (.loc n), x2, x3, x4, some (.tup [.str "bad", .str w]), x6, x7, x8, x9, x10]) s1 := by
    intro w z
    have l6 : evL lstM (evCons (evC (.str "div")) (evCons (evC (.str "ref")) (evCons (evC (.str "kind")) (evCons (evC (.str "ring")) (evCons (evC (.str "large")) (evCons (evC (.str "none")) evNil)))))) [x0, some (.loc n), x2, x3, x4, x5, x6, x7, x8, x9, x10] st = .ok (.lst [.str "div", .str "ref", .str "kind", .str "ring", .str "large", .str "none"]) st := (evL_st rfl).trans (if_pos (by show 6 ≤ sizeLine; decide))
    exact asg_st (d := .tup [.str "bad", .str w]) ((evL_st (cons_st (x := .str "bad") rfl (cons_st ((ev2_st l6 ((evL_st rfl).trans e)).trans z) rfl))).trans (if_pos (by show 2 ≤ sizeLine; decide)))
  have z : v = 0 ∨ v = 1 ∨ v = 2 ∨ v = 3 ∨ v = 4 ∨ v = 5 := by omega
  rcases z with rfl | rfl | rfl | rfl | rfl | rfl
  · exact ⟨"div", s1, key _ rfl, by simp [words], r.go⟩
  · exact ⟨"ref", s1, key _ rfl, by simp [words], r.go⟩
  · exact ⟨"kind", s1, key _ rfl, by simp [words], r.go⟩
  · exact ⟨"ring", s1, key _ rfl, by simp [words], r.go⟩
  · exact ⟨"large", s1, key _ rfl, by simp [words], r.go⟩
  · exact ⟨"none", s1, key _ rfl, by simp [words], r.go⟩

def five : List D := [.tup [.str "bad", .str "odd"], .tup [.str "bad"], .lst [.int 1], .int (10 ^ 31), .str (repStr "a" 401)]
def badB : SM := (sIf (evOr (evL (c "is_value") (evCons (evVar 6) evNil)) (evNot (evL (c "_law_refused") (evCons (evVar 6) evNil)))) (sRet true (evC (.bl false))) sNil)
theorem kfive (st : Sto) (x0 x1 x2 x3 x4 x5 x7 x8 x9 x10 : Option D) : (five.map fun x => badB [x0, x1, x2, x3, x4, x5, some x, x7, x8, x9, x10] st) = five.map fun x => .ok (.nx, [x0, x1, x2, x3, x4, x5, some x, x7, x8, x9, x10]) st := by kernel_rfl
theorem klist (st : Sto) (ρ : Ev) : evWalk (evL lstM (evCons (evL tupM (evCons (evC (.str "bad")) (evCons (evC (.str "odd")) evNil))) (evCons (evL tupM (evCons (evC (.str "bad")) evNil)) (evCons (evL lstM (evCons (evC (.int 1)) evNil)) (evCons (ev2 powM (evC (.int 10)) (evC (.int 31))) (evCons (ev2 mulM (evC (.str "a")) (evC (.int 401))) (evCons evNewK evNil))))))) ρ st = .ok [.tup [.str "bad", .str "odd"], .tup [.str "bad"], .lst [.int 1], .int (10 ^ 31), .str (repStr "a" 401), .loc st.next] (st.new (.dk [])) := by kernel_rfl
section
variable {st : Sto} {k : Nat} (hk : st.get k = some (.dk []))
include hk
theorem isi_dict (t : String) : isiM t (.loc k) st = .ok (.bl (isiB "dict" t)) st := by simp only [isiM, tyOfD, hk]
theorem whole_dict (j : Nat) (x y : D) : callM T (j + 1) "is_whole" [.loc k, x, y] st = .ok (.bl false) st := by
  refine (call_eq lk_whole rfl rfl).trans ?_
  have e : evAnd (ev1 (isiM "int") (evVar 0)) (evAnd (evNot (ev1 (isiM "bool") (evVar 0))) (evCh (ordM .LtE) (ordM .LtE) (evVar 1) (evVar 0) (evVar 2))) [some (.loc k), some x, some y] st = .ok (.bl false) st := by
    show (ev1 (isiM "int") (evVar 0) [some (.loc k), some x, some y] st).bind _ = _
    rw [ev1_st (x := .loc k) rfl, isi_dict hk]
    rfl
  have f : e_is_whole (callM T j) [some (.loc k), some x, some y] st = .ok (.rt (.bl false), [some (.loc k), some x, some y]) st := then_st e
  show endM false st.next (e_is_whole (callM T j) [some (.loc k), some x, some y] st) = _
  rw [f]
  rfl
theorem value_dict (j : Nat) : callM T (j + 2) "is_value" [.loc k] st = .ok (.bl false) st := by
  refine (call_eq (n := j + 1) lk_isv rfl rfl).trans ?_
  have t1 : evT (evOr (ev2 (isNM false) (evVar 0) (evC .non)) (ev1 (isiM "bool") (evVar 0))) [some (.loc k)] st = .ok false st := or_st (evT_st rfl) (evT_st ((ev1_st rfl).trans (isi_dict hk "bool")))
  have t2 : evT (ev1 (isiM "str") (evVar 0)) [some (.loc k)] st = .ok false st := evT_st ((ev1_st rfl).trans (isi_dict hk "str"))
  have t3 : evT (ev1 (isiM "tuple") (evVar 0)) [some (.loc k)] st = .ok false st := evT_st ((ev1_st rfl).trans (isi_dict hk "tuple"))
  have f : e_is_value (callM T (j + 1)) [some (.loc k)] st = .ok (.rt (.bl false), [some (.loc k)]) st :=
    (sSeq_eq ((if_st t1).trans (if_neg (by decide)))).trans ((sSeq_eq ((if_st t2).trans (if_neg (by decide)))).trans ((sSeq_eq ((if_st t3).trans (if_neg (by decide)))).trans (then_st ((evL_st rfl).trans (whole_dict hk j _ _)))))
  show endM false st.next (e_is_value (callM T (j + 1)) [some (.loc k)] st) = _
  rw [f]
  rfl
theorem refused_dict : c "_law_refused" [.loc k] st = .ok (.bl true) st := by
  refine (call_eq (n := 8) lk_ref rfl rfl).trans ?_
  have t : evT (evNot (evL (callM T 7 "is_value") (evCons (evVar 0) evNil))) [some (.loc k)] st = .ok true st := not_st (evT_st ((evL_st rfl).trans (value_dict hk 5)))
  have f : e_check_value (callM T 7) [some (.loc k)] st = .exc (⟨"BadValue", []⟩, [some (.loc k)]) st := (if_st t).trans (if_pos rfl)
  have ch : callM T 8 "check_value" [.loc k] st = .exc ⟨"BadValue", []⟩ st := by
    refine (call_eq (n := 7) lk_check rfl rfl).trans ?_
    show endM false st.next (e_check_value (callM T 7) [some (.loc k)] st) = _
    rw [f]
    rfl
  have ex : g.exm "BadValue" "BadValue" = some true := by kernel_rfl
  have tr : (sTry (g.exm "BadValue") (sExpr (evL (callM T 8 "check_value") (evCons (evVar 0) evNil))) (sRet true (evC (.bl true)))) [some (.loc k)] st = .ok (.rt (.bl true), [some (.loc k)]) st := by
    have b : sExpr (evL (callM T 8 "check_value") (evCons (evVar 0) evNil)) [some (.loc k)] st = .exc (⟨"BadValue", []⟩, [some (.loc k)]) st := by
      show thenS (callM T 8 "check_value" [.loc k] st) _ _ = _
      rw [ch]
      rfl
    unfold sTry
    rw [b]
    show (match g.exm "BadValue" "BadValue" with
      | some true => noXs (sRet true (evC (.bl true)) [some (.loc k)] st)
      | some false => R.exc (⟨"BadValue", []⟩, [some (.loc k)]) st
      | none => .no) = _
    rw [ex]
    rfl
  have r : e__law_refused (callM T 8) [some (.loc k)] st = .ok (.rt (.bl true), [some (.loc k)]) st := sSeq_rt tr
  show endM false st.next (e__law_refused (callM T 8) [some (.loc k)] st) = _
  rw [r]
  rfl
theorem bad_dict (x0 x1 x2 x3 x4 x5 x7 x8 x9 x10 : Option D) : badB [x0, x1, x2, x3, x4, x5, some (.loc k), x7, x8, x9, x10] st = .ok (.nx, [x0, x1, x2, x3, x4, x5, some (.loc k), x7, x8, x9, x10]) st :=
  (if_st (or_st (evT_st ((evL_st rfl).trans (value_dict hk 7))) (not_st (evT_st ((evL_st rfl).trans (refused_dict hk)))))).trans (if_neg (by decide))
end
theorem forL_cons {t : Tg} {body : SM} {x : D} {xs : List D} {ρ ρ1 ρ2 : Ev} {s s2 : Sto} (h : bindT t x ρ = some ρ1) (k : body ρ1 s = .ok (.nx, ρ2) s2) : forL t body (x :: xs) ρ s = forL t body xs ρ2 s2 := by
  show (match bindT t x ρ with
    | none => (R.no : SR)
    | some ρ1 => match body ρ1 s with
      | .ok (.nx, ρ2) st2 => forL t body xs ρ2 st2
      | .ok (.ct, ρ2) st2 => forL t body xs ρ2 st2
      | .ok (.bk, ρ2) st2 => .ok (.nx, ρ2) st2
      | r => r) = _
  rw [h]
  dsimp only
  rw [k]
theorem st14 (st : Sto) (x0 x1 x2 x3 x4 x5 x6 x7 x8 x9 x10 : Option D) : s_law_1b_14 c [x0, x1, x2, x3, x4, x5, x6, x7, x8, x9, x10] st = .ok (.nx, [x0, x1, x2, x3, x4, x5, some (.loc st.next), x7, x8, x9, x10]) (st.new (.dk [])) := by
  have kf : ∀ x ∈ five, badB [x0, x1, x2, x3, x4, x5, some x, x7, x8, x9, x10] (st.new (.dk [])) = .ok (.nx, [x0, x1, x2, x3, x4, x5, some x, x7, x8, x9, x10]) (st.new (.dk [])) := fun x hx => all_of (kfive _ x0 x1 x2 x3 x4 x5 x7 x8 x9 x10) hx
  have u : ∀ ρ, s_law_1b_14 c ρ st = thenS (evWalk (evL lstM (evCons (evL tupM (evCons (evC (.str "bad")) (evCons (evC (.str "odd")) evNil))) (evCons (evL tupM (evCons (evC (.str "bad")) evNil)) (evCons (evL lstM (evCons (evC (.int 1)) evNil)) (evCons (ev2 powM (evC (.int 10)) (evC (.int 31))) (evCons (ev2 mulM (evC (.str "a")) (evC (.int 401))) (evCons evNewK evNil))))))) ρ st) ρ (fun xs st => forL (.nm 6) badB xs ρ st) := fun _ => rfl
  rw [u, klist]
  show forL (.nm 6) badB [.tup [.str "bad", .str "odd"], .tup [.str "bad"], .lst [.int 1], .int (10 ^ 31), .str (repStr "a" 401), .loc st.next] [x0, x1, x2, x3, x4, x5, x6, x7, x8, x9, x10] (st.new (.dk [])) = _
  refine (forL_cons rfl (kf (.tup [.str "bad", .str "odd"]) (by simp [five]))).trans ?_
  refine (forL_cons rfl (kf (.tup [.str "bad"]) (by simp [five]))).trans ?_
  refine (forL_cons rfl (kf (.lst [.int 1]) (by simp [five]))).trans ?_
  refine (forL_cons rfl (kf (.int (10 ^ 31)) (by simp [five]))).trans ?_
  refine (forL_cons rfl (kf (.str (repStr "a" 401)) (by simp [five]))).trans ?_
  exact (forL_cons rfl (bad_dict (get_new_self _ _) x0 x1 x2 x3 x4 x5 x7 x8 x9 x10)).trans rfl

theorem round_ok (x0 : Option D) (n : Nat) (xs : Ev) (st : Sto) (h : Die st n) (hl : xs.length = 9) : ∃ ys st', s_law_1b_r1 c (x0 :: some (.loc n) :: xs) st = .ok (.nx, x0 :: some (.loc n) :: ys) st' ∧ ys.length = 9 ∧ Go st st' := by
  match xs, hl with
  | [x2, x3, x4, x5, x6, x7, x8, x9, x10], _ =>
    obtain ⟨a, t1, e1, ha, g1⟩ := val_c h
    obtain ⟨b, t2, e2, hb, g2⟩ := val_c (g1 n h)
    obtain ⟨d, t3, e3, hd, g3⟩ := val_c (g2 n (g1 n h))
    have s1 : s_law_1b_1 c [x0, some (.loc n), x2, x3, x4, x5, x6, x7, x8, x9, x10] st = .ok (.nx, [x0, some (.loc n), x2, x3, x4, x5, x6, some a, some b, some d, x10]) t3 := by
      have l : (evCons (evL (c "_law_value") (evCons (evVar 1) evNil)) (evCons (evL (c "_law_value") (evCons (evVar 1) evNil)) (evCons (evL (c "_law_value") (evCons (evVar 1) evNil)) evNil))) [x0, some (.loc n), x2, x3, x4, x5, x6, x7, x8, x9, x10] st = .ok [a, b, d] t3 := cons_st ((evL_st rfl).trans e1) (cons_st ((evL_st rfl).trans e2) (cons_st ((evL_st rfl).trans e3) rfl))
      have u : ∀ ρ, s_law_1b_1 c ρ st = thenS ((evCons (evL (c "_law_value") (evCons (evVar 1) evNil)) (evCons (evL (c "_law_value") (evCons (evVar 1) evNil)) (evCons (evL (c "_law_value") (evCons (evVar 1) evNil)) evNil))) ρ st) ρ (fun ds st => match bindAll [7, 8, 9] ds ρ with
        | some ρ' => .ok (.nx, ρ') st
        | none => .no) := fun _ => rfl
      rw [u, l]
      rfl
    obtain ⟨t6, e6, k6⟩ := st6 ha hb (st := t3) (x0 := x0) (x1 := some (.loc n)) (x2 := some (num a)) (x4 := x4) (x5 := x5) (x6 := x6) (x9 := some d) (x10 := x10)
    have g6 : Go st t6 := ((g1.trans g2).trans g3).trans k6.go
    have k11 : Keep t6 (t6.new (.dk (kv4 a))) := keep_new _ _
    have g11 : Go st (t6.new (.dk (kv4 a))) := g6.trans k11.go
    obtain ⟨w, t12, e12, hw, g12⟩ := st12 (g11 n h) x0 (some (num a)) (some (.lst [.bl (ah a b), .bl (al a b), .bl (ah b a)])) (some (.loc t6.next)) x5 x6 (some a) (some b) (some d) x10
    refine ⟨[some (num a), some (.lst [.bl (ah a b), .bl (al a b), .bl (ah b a)]), some (.loc t6.next), some (.tup [.str "bad", .str w]), some (.loc t12.next), some a, some b, some d, x10], t12.new (.dk []), ?_, rfl, (g11.trans g12).trans (keep_new t12 (.dk [])).go⟩
    · refine (sSeq_eq s1).trans ?_
      refine (sSeq_eq (all_of (k2 t3 x0 (some (.loc n)) x2 x3 x4 x5 x6 (some b) (some d) x10) ha)).trans ?_
      refine (sSeq_eq (all_of (k3 t3 x0 (some (.loc n)) x2 x3 x4 x5 x6 (some b) (some d) x10) ha)).trans ?_
      refine (sSeq_eq (all_of (k4 t3 x0 (some (.loc n)) x3 x4 x5 x6 (some b) (some d) x10) ha)).trans ?_
      refine (sSeq_eq (st5 ha hb)).trans ?_
      refine (sSeq_eq e6).trans ?_
      refine (sSeq_eq (st7 ha hb)).trans ?_
      refine (sSeq_eq (st8 ha hb hd)).trans ?_
      refine (sSeq_eq (st9 ha)).trans ?_
      refine (sSeq_eq (st10 ha)).trans ?_
      refine (sSeq_eq (st11 ha)).trans ?_
      refine (sSeq_eq e12).trans ?_
      refine (sSeq_eq (all_of (k13 t12 x0 (some (.loc n)) (some (num a)) (some (.lst [.bl (ah a b), .bl (al a b), .bl (ah b a)])) (some (.loc t6.next)) x6 (some a) (some b) (some d) x10) hw)).trans ?_
      exact st14 t12 _ _ _ _ _ _ _ _ _ _ _
theorem law_true (ns : List Int) (hl : ns.length ≤ 63) : ∃ st, callM T 10 "law" [.scr ns] ⟨0, []⟩ = .ok (.bl true) st := by
  obtain ⟨ks, st1, e1, k1, d1, l1⟩ := roundsC ns 5 ⟨0, []⟩ hl
  obtain ⟨ρ', st2, e2⟩ := law_rounds (x0 := some (.scr ns)) (len := 9) (fun n xs st h hx => round_ok (some (.scr ns)) n xs st h hx) ks none [none, none, none, none, none, none, none, none, none] st1 d1 rfl
  refine ⟨st2, ?_⟩
  refine (call_eq (n := 9) lk_law rfl rfl).trans ?_
  have f : s_law_1 c [some (.scr ns), none, none, none, none, none, none, none, none, none, none] ⟨0, []⟩ = .ok (.nx, ρ') st2 := by
    have w : evWalk (evL (c "_law_rounds") (evCons (evVar 0) (evCons (evC (.int 5)) evNil))) [some (.scr ns), none, none, none, none, none, none, none, none, none, none] ⟨0, []⟩ = .ok (ks.map D.loc) st1 := by
      show ((evL (c "_law_rounds") (evCons (evVar 0) (evCons (evC (.int 5)) evNil))) [some (.scr ns), none, none, none, none, none, none, none, none, none, none] ⟨0, []⟩).bind walkM = _
      rw [(evL_st rfl).trans e1]
      rfl
    exact (then_st w).trans e2
  have g : e_law c [some (.scr ns), none, none, none, none, none, none, none, none, none, none] ⟨0, []⟩ = .ok (.rt (.bl true), ρ') st2 := (sSeq_eq f).trans rfl
  show endM false 0 (e_law c [some (.scr ns), none, none, none, none, none, none, none, none, none, none] ⟨0, []⟩) = _
  rw [g]
  rfl
end Mp.K04
namespace Mp.K04
open PySem PySem.Spec PyProof.Rows L2
def d_is_whole : He.DefD := ⟨("is_whole", none), "is_whole", "is_whole", defArgs (top 4), defBody (top 4), defScope (top 4), [], []⟩
def d_is_bad : He.DefD := ⟨("is_bad", none), "is_bad", "is_bad", defArgs (top 8), defBody (top 8), defScope (top 8), [], []⟩
def d_is_value : He.DefD := ⟨("is_value", none), "is_value", "is_value", defArgs (top 9), defBody (top 9), defScope (top 9), [], []⟩
def d_check_value : He.DefD := ⟨("check_value", none), "check_value", "check_value", defArgs (top 10), defBody (top 10), defScope (top 10), [], []⟩
def d_kind_of : He.DefD := ⟨("kind_of", none), "kind_of", "kind_of", defArgs (top 11), defBody (top 11), defScope (top 11), [], []⟩
def d_as_number : He.DefD := ⟨("as_number", none), "as_number", "as_number", defArgs (top 12), defBody (top 12), defScope (top 12), [], []⟩
def d_as_text : He.DefD := ⟨("as_text", none), "as_text", "as_text", defArgs (top 13), defBody (top 13), defScope (top 13), [], []⟩
def d_as_truth : He.DefD := ⟨("as_truth", none), "as_truth", "as_truth", defArgs (top 14), defBody (top 14), defScope (top 14), [], []⟩
def d_rank : He.DefD := ⟨("rank", none), "rank", "rank", defArgs (top 15), defBody (top 15), defScope (top 15), [], []⟩
def d_alike : He.DefD := ⟨("alike", none), "alike", "alike", defArgs (top 16), defBody (top 16), defScope (top 16), [], []⟩
def d_ahead : He.DefD := ⟨("ahead", none), "ahead", "ahead", defArgs (top 17), defBody (top 17), defScope (top 17), [], []⟩
def d_blank_beside : He.DefD := ⟨("blank_beside", none), "blank_beside", "blank_beside", defArgs (top 18), defBody (top 18), defScope (top 18), [], []⟩
def d_shown : He.DefD := ⟨("shown", none), "shown", "shown", defArgs (top 19), defBody (top 19), defScope (top 19), [], []⟩
def d__law_dice : He.DefD := ⟨("_law_dice", none), "_law_dice", "_law_dice", defArgs (top 21), defBody (top 21), defScope (top 21), [], []⟩
def d__law_roll : He.DefD := ⟨("_law_roll", none), "_law_roll", "_law_roll", defArgs (top 22), defBody (top 22), defScope (top 22), [], []⟩
def d__law_rounds : He.DefD := ⟨("_law_rounds", none), "_law_rounds", "_law_rounds", defArgs (top 23), defBody (top 23), defScope (top 23), [], []⟩
def d__law_number : He.DefD := ⟨("_law_number", none), "_law_number", "_law_number", defArgs (top 24), defBody (top 24), defScope (top 24), [], []⟩
def d__law_text : He.DefD := ⟨("_law_text", none), "_law_text", "_law_text", defArgs (top 25), defBody (top 25), defScope (top 25), [], []⟩
def d__law_rank : He.DefD := ⟨("_law_rank", none), "_law_rank", "_law_rank", defArgs (top 26), defBody (top 26), defScope (top 26), [], []⟩
def d__law_within : He.DefD := ⟨("_law_within", none), "_law_within", "_law_within", defArgs (top 27), defBody (top 27), defScope (top 27), [], []⟩
def d__law_op : He.DefD := ⟨("_law_op", none), "_law_op", "_law_op", defArgs (top 28), defBody (top 28), defScope (top 28), [], []⟩
def d__law_value : He.DefD := ⟨("_law_value", none), "_law_value", "_law_value", defArgs (top 33), defBody (top 33), defScope (top 33), [], []⟩
def d__law_refused : He.DefD := ⟨("_law_refused", none), "_law_refused", "_law_refused", defArgs (top 34), defBody (top 34), defScope (top 34), [], []⟩
def d_law : He.DefD := ⟨("law", none), "law", "law", defArgs (top 35), defBody (top 35), defScope (top 35), [], []⟩
def hfn : List He.DefD := [d_is_whole, d_is_bad, d_is_value, d_check_value, d_kind_of, d_as_number, d_as_text, d_as_truth, d_rank, d_alike, d_ahead, d_blank_beside, d_shown, d__law_dice, d__law_roll, d__law_rounds, d__law_number, d__law_text, d__law_rank, d__law_within, d__law_op, d__law_value, d__law_refused, d_law]
def hfa : List He.Fa := [.glo "is_whole", .glo "is_bad", .glo "is_value", .glo "check_value", .glo "kind_of", .glo "as_number", .glo "as_text", .glo "as_truth", .glo "rank", .glo "alike", .glo "ahead", .glo "blank_beside", .glo "shown", .glo "_law_dice", .glo "_law_roll", .glo "_law_rounds", .glo "_law_number", .glo "_law_text", .glo "_law_rank", .glo "_law_within", .glo "_law_op", .glo "_law_value", .glo "_law_refused", .glo "law", .free "abs", .free "bool", .free "int", .free "isinstance", .free "len", .free "str", .free "tuple", .int "FAR" (1000000000000000000000000000000), .glo "WORDS", .glo "BadValue", .exc "BadValue", .exm "BadValue" "BadValue" true]
def exF (K : PySem.W.Frag) : Bool := He.tupB K "WORDS" [.str "div", .str "ref", .str "kind", .str "ring", .str "large", .str "none"]
abbrev hRow : PySem.W.OpenRow := PySem.W.OpenLaw.row PySem.Challenge.rw_sheetdesk_k04_values_and_their_order
abbrev hk : PySem.W.Hook := He.hookX 5 hfa hfn [] [] exF
def ob (s : PySem.W.SharedT) : He.AlX := He.obsX 5 hfa hfn [] [] exF (HandSHeadRun.getT s)
theorem ob_eq (s : PySem.W.SharedT) : ob s = hk.obs s.abs := He.obsX_eq (HandSHeadRun.getT_eq s)
def loose : List Str := (["SheetError", "BadValue", "is_whole", "FAR", "WORDS", "is_bad", "is_value", "check_value", "kind_of", "as_number", "as_text", "as_truth", "rank", "alike", "ahead", "blank_beside", "shown", "_law_dice", "_law_roll", "_law_rounds", "_law_number", "_law_text", "_law_rank", "_law_within", "_law_op", "_law_cells", "_law_gathered", "_law_call", "_law_reckon", "_law_value"] : List Str) ++ (["_law_refused"] : List Str)
theorem hrun (w : World) : HandSHeadRun.RunEq hRow (PySem.W.view hRow.prog [35]) hk ob 3000 loose w := by
  intro os
  kernel_rfl
section
variable {K : PySem.W.Frag} {h : Heap} {mg : Str → Option Value} {wl : World} (X : K.In h) (G : h.Ns mainGlobals mg) (cs : He.SaysX hfa hfn [] [] exF wl h K)
include X G cs
theorem f_is_whole : FnF K mg g "is_whole" I_is_whole := by
  obtain ⟨fd, F⟩ := cs.t.d.def_ 0 (d := d_is_whole) rfl
  exact ⟨⟨_, fd, "is_whole", defArgs (top 4), [], F, He.glo_ok X G (cs.t.d.fact 0 (f := .glo "is_whole") rfl), F.bindsN fun _ _ _ _ _ _ us hl => match us, hl with | [_, _, _], _ => rfl⟩, sc_is_whole, ok_is_whole⟩
theorem f_is_bad : FnF K mg g "is_bad" I_is_bad := by
  obtain ⟨fd, F⟩ := cs.t.d.def_ 1 (d := d_is_bad) rfl
  exact ⟨⟨_, fd, "is_bad", defArgs (top 8), [], F, He.glo_ok X G (cs.t.d.fact 1 (f := .glo "is_bad") rfl), F.bindsN fun _ _ _ _ _ _ us hl => match us, hl with | [_], _ => rfl⟩, sc_is_bad, ok_is_bad⟩
theorem f_is_value : FnF K mg g "is_value" I_is_value := by
  obtain ⟨fd, F⟩ := cs.t.d.def_ 2 (d := d_is_value) rfl
  exact ⟨⟨_, fd, "is_value", defArgs (top 9), [], F, He.glo_ok X G (cs.t.d.fact 2 (f := .glo "is_value") rfl), F.bindsN fun _ _ _ _ _ _ us hl => match us, hl with | [_], _ => rfl⟩, sc_is_value, ok_is_value⟩
theorem f_check_value : FnF K mg g "check_value" I_check_value := by
  obtain ⟨fd, F⟩ := cs.t.d.def_ 3 (d := d_check_value) rfl
  exact ⟨⟨_, fd, "check_value", defArgs (top 10), [], F, He.glo_ok X G (cs.t.d.fact 3 (f := .glo "check_value") rfl), F.bindsN fun _ _ _ _ _ _ us hl => match us, hl with | [_], _ => rfl⟩, sc_check_value, ok_check_value⟩
theorem f_kind_of : FnF K mg g "kind_of" I_kind_of := by
  obtain ⟨fd, F⟩ := cs.t.d.def_ 4 (d := d_kind_of) rfl
  exact ⟨⟨_, fd, "kind_of", defArgs (top 11), [], F, He.glo_ok X G (cs.t.d.fact 4 (f := .glo "kind_of") rfl), F.bindsN fun _ _ _ _ _ _ us hl => match us, hl with | [_], _ => rfl⟩, sc_kind_of, ok_kind_of⟩
theorem f_as_number : FnF K mg g "as_number" I_as_number := by
  obtain ⟨fd, F⟩ := cs.t.d.def_ 5 (d := d_as_number) rfl
  exact ⟨⟨_, fd, "as_number", defArgs (top 12), [], F, He.glo_ok X G (cs.t.d.fact 5 (f := .glo "as_number") rfl), F.bindsN fun _ _ _ _ _ _ us hl => match us, hl with | [_], _ => rfl⟩, sc_as_number, ok_as_number⟩
theorem f_as_text : FnF K mg g "as_text" I_as_text := by
  obtain ⟨fd, F⟩ := cs.t.d.def_ 6 (d := d_as_text) rfl
  exact ⟨⟨_, fd, "as_text", defArgs (top 13), [], F, He.glo_ok X G (cs.t.d.fact 6 (f := .glo "as_text") rfl), F.bindsN fun _ _ _ _ _ _ us hl => match us, hl with | [_], _ => rfl⟩, sc_as_text, ok_as_text⟩
theorem f_as_truth : FnF K mg g "as_truth" I_as_truth := by
  obtain ⟨fd, F⟩ := cs.t.d.def_ 7 (d := d_as_truth) rfl
  exact ⟨⟨_, fd, "as_truth", defArgs (top 14), [], F, He.glo_ok X G (cs.t.d.fact 7 (f := .glo "as_truth") rfl), F.bindsN fun _ _ _ _ _ _ us hl => match us, hl with | [_], _ => rfl⟩, sc_as_truth, ok_as_truth⟩
theorem f_rank : FnF K mg g "rank" I_rank := by
  obtain ⟨fd, F⟩ := cs.t.d.def_ 8 (d := d_rank) rfl
  exact ⟨⟨_, fd, "rank", defArgs (top 15), [], F, He.glo_ok X G (cs.t.d.fact 8 (f := .glo "rank") rfl), F.bindsN fun _ _ _ _ _ _ us hl => match us, hl with | [_], _ => rfl⟩, sc_rank, ok_rank⟩
theorem f_alike : FnF K mg g "alike" I_alike := by
  obtain ⟨fd, F⟩ := cs.t.d.def_ 9 (d := d_alike) rfl
  exact ⟨⟨_, fd, "alike", defArgs (top 16), [], F, He.glo_ok X G (cs.t.d.fact 9 (f := .glo "alike") rfl), F.bindsN fun _ _ _ _ _ _ us hl => match us, hl with | [_, _], _ => rfl⟩, sc_alike, ok_alike⟩
theorem f_ahead : FnF K mg g "ahead" I_ahead := by
  obtain ⟨fd, F⟩ := cs.t.d.def_ 10 (d := d_ahead) rfl
  exact ⟨⟨_, fd, "ahead", defArgs (top 17), [], F, He.glo_ok X G (cs.t.d.fact 10 (f := .glo "ahead") rfl), F.bindsN fun _ _ _ _ _ _ us hl => match us, hl with | [_, _], _ => rfl⟩, sc_ahead, ok_ahead⟩
theorem f_blank_beside : FnF K mg g "blank_beside" I_blank_beside := by
  obtain ⟨fd, F⟩ := cs.t.d.def_ 11 (d := d_blank_beside) rfl
  exact ⟨⟨_, fd, "blank_beside", defArgs (top 18), [], F, He.glo_ok X G (cs.t.d.fact 11 (f := .glo "blank_beside") rfl), F.bindsN fun _ _ _ _ _ _ us hl => match us, hl with | [_], _ => rfl⟩, sc_blank_beside, ok_blank_beside⟩
theorem f_shown : FnF K mg g "shown" I_shown := by
  obtain ⟨fd, F⟩ := cs.t.d.def_ 12 (d := d_shown) rfl
  exact ⟨⟨_, fd, "shown", defArgs (top 19), [], F, He.glo_ok X G (cs.t.d.fact 12 (f := .glo "shown") rfl), F.bindsN fun _ _ _ _ _ _ us hl => match us, hl with | [_], _ => rfl⟩, sc_shown, ok_shown⟩
theorem f__law_dice : FnF K mg g "_law_dice" I__law_dice := by
  obtain ⟨fd, F⟩ := cs.t.d.def_ 13 (d := d__law_dice) rfl
  exact ⟨⟨_, fd, "_law_dice", defArgs (top 21), [], F, He.glo_ok X G (cs.t.d.fact 13 (f := .glo "_law_dice") rfl), F.bindsN fun _ _ _ _ _ _ us hl => match us, hl with | [_], _ => rfl⟩, sc__law_dice, ok__law_dice⟩
theorem f__law_roll : FnF K mg g "_law_roll" I__law_roll := by
  obtain ⟨fd, F⟩ := cs.t.d.def_ 14 (d := d__law_roll) rfl
  exact ⟨⟨_, fd, "_law_roll", defArgs (top 22), [], F, He.glo_ok X G (cs.t.d.fact 14 (f := .glo "_law_roll") rfl), F.bindsN fun _ _ _ _ _ _ us hl => match us, hl with | [_, _], _ => rfl⟩, sc__law_roll, ok__law_roll⟩
theorem f__law_rounds : FnF K mg g "_law_rounds" I__law_rounds := by
  obtain ⟨fd, F⟩ := cs.t.d.def_ 15 (d := d__law_rounds) rfl
  exact ⟨⟨_, fd, "_law_rounds", defArgs (top 23), [], F, He.glo_ok X G (cs.t.d.fact 15 (f := .glo "_law_rounds") rfl), F.bindsN fun _ _ _ _ _ _ us hl => match us, hl with | [_, _], _ => rfl⟩, sc__law_rounds, ok__law_rounds⟩
theorem f__law_number : FnF K mg g "_law_number" I__law_number := by
  obtain ⟨fd, F⟩ := cs.t.d.def_ 16 (d := d__law_number) rfl
  exact ⟨⟨_, fd, "_law_number", defArgs (top 24), [], F, He.glo_ok X G (cs.t.d.fact 16 (f := .glo "_law_number") rfl), F.bindsN fun _ _ _ _ _ _ us hl => match us, hl with | [_], _ => rfl⟩, sc__law_number, ok__law_number⟩
theorem f__law_text : FnF K mg g "_law_text" I__law_text := by
  obtain ⟨fd, F⟩ := cs.t.d.def_ 17 (d := d__law_text) rfl
  exact ⟨⟨_, fd, "_law_text", defArgs (top 25), [], F, He.glo_ok X G (cs.t.d.fact 17 (f := .glo "_law_text") rfl), F.bindsN fun _ _ _ _ _ _ us hl => match us, hl with | [_], _ => rfl⟩, sc__law_text, ok__law_text⟩
theorem f__law_rank : FnF K mg g "_law_rank" I__law_rank := by
  obtain ⟨fd, F⟩ := cs.t.d.def_ 18 (d := d__law_rank) rfl
  exact ⟨⟨_, fd, "_law_rank", defArgs (top 26), [], F, He.glo_ok X G (cs.t.d.fact 18 (f := .glo "_law_rank") rfl), F.bindsN fun _ _ _ _ _ _ us hl => match us, hl with | [_, _], _ => rfl⟩, sc__law_rank, ok__law_rank⟩
theorem f__law_within : FnF K mg g "_law_within" I__law_within := by
  obtain ⟨fd, F⟩ := cs.t.d.def_ 19 (d := d__law_within) rfl
  exact ⟨⟨_, fd, "_law_within", defArgs (top 27), [], F, He.glo_ok X G (cs.t.d.fact 19 (f := .glo "_law_within") rfl), F.bindsN fun _ _ _ _ _ _ us hl => match us, hl with | [_], _ => rfl⟩, sc__law_within, ok__law_within⟩
theorem f__law_op : FnF K mg g "_law_op" I__law_op := by
  obtain ⟨fd, F⟩ := cs.t.d.def_ 20 (d := d__law_op) rfl
  exact ⟨⟨_, fd, "_law_op", defArgs (top 28), [], F, He.glo_ok X G (cs.t.d.fact 20 (f := .glo "_law_op") rfl), F.bindsN fun _ _ _ _ _ _ us hl => match us, hl with | [_, _, _], _ => rfl⟩, sc__law_op, ok__law_op⟩
theorem f__law_value : FnF K mg g "_law_value" I__law_value := by
  obtain ⟨fd, F⟩ := cs.t.d.def_ 21 (d := d__law_value) rfl
  exact ⟨⟨_, fd, "_law_value", defArgs (top 33), [], F, He.glo_ok X G (cs.t.d.fact 21 (f := .glo "_law_value") rfl), F.bindsN fun _ _ _ _ _ _ us hl => match us, hl with | [_], _ => rfl⟩, sc__law_value, ok__law_value⟩
theorem f__law_refused : FnF K mg g "_law_refused" I__law_refused := by
  obtain ⟨fd, F⟩ := cs.t.d.def_ 22 (d := d__law_refused) rfl
  exact ⟨⟨_, fd, "_law_refused", defArgs (top 34), [], F, He.glo_ok X G (cs.t.d.fact 22 (f := .glo "_law_refused") rfl), F.bindsN fun _ _ _ _ _ _ us hl => match us, hl with | [_], _ => rfl⟩, sc__law_refused, ok__law_refused⟩
theorem f_law : FnF K mg g "law" I_law := by
  obtain ⟨fd, F⟩ := cs.t.d.def_ 23 (d := d_law) rfl
  exact ⟨⟨_, fd, "law", defArgs (top 35), [], F, He.glo_ok X G (cs.t.d.fact 23 (f := .glo "law") rfl), F.bindsN fun _ _ _ _ _ _ us hl => match us, hl with | [_], _ => rfl⟩, sc_law, ok_law⟩
theorem hmod : ModF K mg g T where
  fns := fun x hx => by
    have e : T.map (·.1) = fns := rfl
    have hx : x ∈ fns := by simpa using (show fns.contains x = true from hx)
    rw [← e] at hx
    obtain ⟨p, hp, q⟩ := List.mem_map.mp hx
    exact lookup_some (by rw [← q]; exact hp)
  fn := fun x I hI => by
    have hm := lookup_mem hI
    have all : ∀ p ∈ T, FnF K mg g p.1 p.2 := by
      intro p hp
      simp only [T, List.mem_cons, List.not_mem_nil, or_false] at hp
      rcases hp with rfl | rfl | rfl | rfl | rfl | rfl | rfl | rfl | rfl | rfl | rfl | rfl | rfl | rfl | rfl | rfl | rfl | rfl | rfl | rfl | rfl | rfl | rfl | rfl
      · exact f_is_whole X G cs
      · exact f_is_bad X G cs
      · exact f_is_value X G cs
      · exact f_check_value X G cs
      · exact f_kind_of X G cs
      · exact f_as_number X G cs
      · exact f_as_text X G cs
      · exact f_as_truth X G cs
      · exact f_rank X G cs
      · exact f_alike X G cs
      · exact f_ahead X G cs
      · exact f_blank_beside X G cs
      · exact f_shown X G cs
      · exact f__law_dice X G cs
      · exact f__law_roll X G cs
      · exact f__law_rounds X G cs
      · exact f__law_number X G cs
      · exact f__law_text X G cs
      · exact f__law_rank X G cs
      · exact f__law_within X G cs
      · exact f__law_op X G cs
      · exact f__law_value X G cs
      · exact f__law_refused X G cs
      · exact f_law X G cs
    exact all (x, I) hm
  con := fun x d hd => by
    have hm := lookup_mem (show conL.lookup x = some d from hd)
    simp only [conL, List.mem_cons, List.not_mem_nil, or_false] at hm
    rcases hm with hm | hm
    · obtain ⟨rfl, rfl⟩ := Prod.mk.inj hm
      obtain ⟨t, e⟩ := He.int_ok X G (cs.t.d.fact 31 (f := .int "FAR" (1000000000000000000000000000000)) rfl)
      exact ⟨_, .int (1000000000000000000000000000000), e, ⟨t, rfl⟩, fun _ _ _ => rfl⟩
    · obtain ⟨rfl, rfl⟩ := Prod.mk.inj hm
      exact ⟨_, .ref (He.ga K "WORDS"), He.glo_ok X G (cs.t.d.fact 32 (f := .glo "WORDS") rfl), rfl, krel_strs (z := "div") (zs := ["ref", "kind", "ring", "large", "none"]) (by exact cs.more)⟩
  blt := fun x hx => by
    have hx : x ∈ bltL := by simpa using (show bltL.contains x = true from hx)
    simp only [bltL, List.mem_cons, List.not_mem_nil, or_false] at hx
    rcases hx with rfl | rfl | rfl | rfl | rfl | rfl | rfl
    · exact He.free_ok X G (cs.t.d.fact 24 (f := .free "abs") rfl)
    · exact He.free_ok X G (cs.t.d.fact 25 (f := .free "bool") rfl)
    · exact He.free_ok X G (cs.t.d.fact 26 (f := .free "int") rfl)
    · exact He.free_ok X G (cs.t.d.fact 27 (f := .free "isinstance") rfl)
    · exact He.free_ok X G (cs.t.d.fact 28 (f := .free "len") rfl)
    · exact He.free_ok X G (cs.t.d.fact 29 (f := .free "str") rfl)
    · exact He.free_ok X G (cs.t.d.fact 30 (f := .free "tuple") rfl)
  cls := fun x hx => by
    have hx : x ∈ clsL := by simpa using (show clsL.contains x = true from hx)
    simp only [clsL, List.mem_cons, List.not_mem_nil, or_false] at hx
    subst hx
    exact cls_of (He.glo_ok X G (cs.t.d.fact 33 (f := .glo "BadValue") rfl)) (cs.t.d.fact 34 (f := .exc "BadValue") rfl)
  exm := fun x y b hb => by
    have hm := lookup_mem (show exmL.lookup (x, y) = some b from hb)
    simp only [exmL, List.mem_cons, List.not_mem_nil, or_false] at hm
    · obtain ⟨hm1, rfl⟩ := Prod.mk.inj hm
      obtain ⟨rfl, rfl⟩ := Prod.mk.inj hm1
      exact ⟨_, .inl (He.glo_ok X G (cs.t.d.fact 33 (f := .glo "BadValue") rfl)), He.exm_ok (cs.t.d.fact 35 (f := .exm "BadValue" "BadValue" true) rfl)⟩
end
theorem facts {P : Program} {wl : World} {K : PySem.W.Frag} {h : Heap} {mg : Str → Option Value} {f : Addr} (X : K.In h) (G : h.Ns mainGlobals mg) (hf : mg ("law" : Str) = some (.ref f)) (cs : He.SaysX hfa hfn [] [] exF wl h K) :
    ∃ fd : FuncData, (∀ (s : Shared) (v : Value), BindsTo s fd ⟨[v], []⟩ [("script", v)]) ∧ ∀ base : Heap, K.In base → base.Ns mainGlobals mg → FnOk P wl K mg base CXe 10 f fd ["script"] (spM K (callM T 10 "law")) := by
  obtain ⟨fd, F⟩ := cs.t.d.def_ 23 (d := d_law) rfl
  have e := hf.symm.trans (He.glo_ok X G (cs.t.d.fact 23 (f := .glo "law") rfl))
  cases e
  have b := FunD.bindsA (ps := ["script"]) F fun _ _ _ _ _ _ us hl => match us, hl with | [_], _ => rfl
  exact ⟨fd, fun s v => b s [v] rfl, fun base _ _ => FnOk_cx (table_ok (P := P) (wl := wl) (base := base) (hmod X G cs) 10 "law" I_law lk_law _ fd "law" (defArgs (top 35)) [] F) fun _ _ _ _ _ _ z => ⟨_, _, z⟩⟩
end Mp.K04
open PySem PySem.W PySem.Calls PyProof.Rows
theorem PySem.Challenge.cw_sheetdesk_k04_values_and_their_order_holds : PySem.Challenge.rw_sheetdesk_k04_values_and_their_order.Holds := by
  w_on; o_law
  refine HandSHeadRun.head_any (r := OpenLaw.row PySem.Challenge.rw_sheetdesk_k04_values_and_their_order) (q := view (OpenLaw.row PySem.Challenge.rw_sheetdesk_k04_values_and_their_order).prog [35]) (H := Mp.K04.hk) (ob := Mp.K04.ob) (M := 3000) (loose := Mp.K04.loose) (d := HandSHeadRun.topDef (OpenLaw.row PySem.Challenge.rw_sheetdesk_k04_values_and_their_order).prog 35) (kwd := []) Mp.K04.ob_eq
    (by kernel_rfl) (fun s => by kernel_rfl) Mp.K04.hrun (by kernel_rfl) (by kernel_rfl) (by kernel_rfl) (by rfl) (by first | assumption | decide +kernel) (by decide +kernel) ⟨rfl, rfl, rfl, rfl, rfl, by decide +kernel⟩ ?hw ?hc
  case hw => w_witness2
  case hc =>
    refine L2.walk_ofE (l := PySem.Challenge.rw_sheetdesk_k04_values_and_their_order) (n := 63) (k := 10) (x := "script") (CX := Mp.CXe) rfl (by decide) (by kernel_rfl) ⟨rfl, by decide, by decide⟩ ?F Mp.CXe_none
    intro w mg fa h Y G hmg0
    obtain ⟨K, KX, cs⟩ := Y
    have hmg : mg ("law" : PySem.Str) = some (.ref fa) := by
      have e : (HandSHeadRun.topDef (OpenLaw.row PySem.Challenge.rw_sheetdesk_k04_values_and_their_order).prog 35).name = ("law" : PySem.Str) := by kernel_rfl
      rw [← e]
      exact hmg0
    obtain ⟨fd, hb, hF⟩ := Mp.K04.facts (P := (PySem.Challenge.rw_sheetdesk_k04_values_and_their_order).prog) (wl := w) KX G hmg cs
    exact ⟨K, fd, Mp.spM K (Mp.callM Mp.K04.T 10 "law"), KX, hb, fun H a ns hl ho hS => Mp.law_start hS ho (Mp.K04.law_true ns hl), hF⟩
