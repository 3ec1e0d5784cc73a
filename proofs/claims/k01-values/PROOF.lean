import PyProof.Rows.All
import HandS.ForMost
import HandS.ForExc
import HandS.Defaults
import HandS.HeadHook3
import HandS.IsInst
import HandS.Deep
import HandS.Wide
import HandS.TupAny
import HandS.TupMul
import HandS.RaiseMore
import HandS.Small
import HandS.Strs
import HandS.Head0
import HandS.Head1
import HandS.Head2
import HandS.HeadEnd
import HandS.EndBits
import PySem.Challenge.RW_dragswaps_k01_values_recognized
set_option Elab.async false
set_option linter.all false
set_option maxRecDepth 100000
namespace MP
open PySem L2
open PySem.Spec PyProof.Rows

/-! ## data, stores, the monad -/
inductive D where
  | non | bl (b : Bool) | int (i : Int) | str (s : Str)
  | tup (ds : List D) | lst (ds : List D) | dic (ks : List Key) (ds : List D)
  | scr (ns : List Int) | ref (n : Nat)
  deriving Inhabited

inductive Cell where
  | dead | lst (ds : List D) | dic (ks : List Key) (ds : List D) | ins (c : Str) (fs : List Str) (ds : List D)
  deriving Inhabited

abbrev Store := List Cell
structure Exn where
  cls : Str
  arg : Option D

inductive R (α : Type) where
  | ok (a : α) (st : Store) | exn (e : Exn) (st : Store) | stuck

def M (α : Type) : Type := Store → R α
def M.pure {α : Type} (a : α) : M α := fun st => .ok a st
def M.bind {α β : Type} (m : M α) (f : α → M β) : M β := fun st => match m st with
  | .ok a st' => f a st'
  | .exn e st' => .exn e st'
  | .stuck => .stuck
instance : Monad M := { pure := M.pure, bind := M.bind }
def M.stuck {α : Type} : M α := fun _ => .stuck
def M.raise {α : Type} (e : Exn) : M α := fun st => .exn e st
def M.get : M Store := fun st => .ok st st
theorem M.ext {α : Type} {m m' : M α} (h : ∀ st, m st = m' st) : m = m' := funext h
instance : LawfulMonad M := LawfulMonad.mk'
  (id_map := fun x => M.ext fun st => by show (match x st with | .ok a st' => R.ok a st' | .exn e st' => .exn e st' | .stuck => .stuck) = x st; cases x st <;> rfl)
  (pure_bind := fun _ _ => rfl)
  (bind_assoc := fun x f g => M.ext fun st => by
    show M.bind (M.bind x f) g st = M.bind x (fun a => M.bind (f a) g) st
    unfold M.bind
    cases x st <;> rfl)
theorem bind_def {α β : Type} (m : M α) (f : α → M β) (st : Store) : (m >>= f) st = (match m st with
  | .ok a st' => f a st'
  | .exn e st' => .exn e st'
  | .stuck => .stuck) := rfl
theorem pure_def {α : Type} (a : α) (st : Store) : (Pure.pure a : M α) st = .ok a st := rfl

def wpR {α : Type} (r : R α) (Q : α → Store → Prop) (X : Exn → Store → Prop) : Prop := match r with
  | .ok a st => Q a st
  | .exn e st => X e st
  | .stuck => False
theorem wpR.mono {α : Type} {r : R α} {Q Q' : α → Store → Prop} {X X' : Exn → Store → Prop} (h : wpR r Q X) (hQ : ∀ a st, Q a st → Q' a st) (hX : ∀ e st, X e st → X' e st) : wpR r Q' X' := by
  cases r with
  | ok a st => exact hQ _ _ h
  | exn e st => exact hX _ _ h
  | stuck => exact h
theorem wpR.bind {α β : Type} {m : M α} {f : α → M β} {st : Store} {Q : β → Store → Prop} {X : Exn → Store → Prop} : wpR ((m >>= f) st) Q X ↔ wpR (m st) (fun a st' => wpR (f a st') Q X) X := by
  rw [bind_def]
  cases m st <;> exact Iff.rfl

/-! ## places: where the store's cells lie, what else is reserved -/
structure Lo where
  l : List (Option Addr)
  z : List Addr
def Lo.av (o : Lo) (a : Addr) : Prop := some a ∉ o.l ∧ a ∉ o.z

def KTup (K : PySem.W.Frag) (a : Addr) (xs : List V) : Prop :=
  ∃ (o : Obj) (its : Array Value) (n : Nat), K.lookup a = some o ∧ o.cls = .type "tuple" ∧ o.data = .seq its n ∧ its.size ≤ sizeLine ∧ Vals xs its.toList

def KLst (K : PySem.W.Frag) (a : Addr) (xs : List V) : Prop :=
  ∃ (o : Obj) (its : Array Value) (n : Nat), K.lookup a = some o ∧ o.cls = .type "list" ∧ o.dict = none ∧ o.data = .seq its n ∧ its.size ≤ sizeLine ∧ Vals xs its.toList

mutual
def Rep (K : PySem.W.Frag) (H : Hp) (o : Lo) : D → V → Prop
  | .non, v => v = .non
  | .bl b, v => v = .bl b
  | .int i, v => v = .int i
  | .str s, v => v = .str s
  | .tup ds, v => ∃ a xs, v = .ref a ∧ ((H a = some (.tup xs) ∧ o.av a) ∨ KTup K a xs) ∧ Reps K H o ds xs
  | .lst ds, v => ∃ a xs, v = .ref a ∧ H a = some (.lst xs) ∧ o.av a ∧ Reps K H o ds xs
  | .dic ks ds, v => ∃ a kvs, v = .ref a ∧ H a = some (.dK kvs) ∧ o.av a ∧ kvs.map (·.1) = ks ∧ Reps K H o ds (kvs.map (·.2))
  | .scr ns, v => ∃ a, v = .ref a ∧ ((∃ ob, H a = some (.frz ob (.lst (ns.map V.int))) ∧ o.av a) ∨ KLst K a (ns.map V.int))
  | .ref n, v => ∃ a, v = .ref a ∧ (o.l[n]? = some (some a) ∨ o.l[n]? = some none)
def Reps (K : PySem.W.Frag) (H : Hp) (o : Lo) : List D → List V → Prop
  | [], vs => vs = []
  | d :: ds, vs => ∃ v vs', vs = v :: vs' ∧ Rep K H o d v ∧ Reps K H o ds vs'
end

structure Lc (H : Hp) (o : Lo) (H' : Hp) (o' : Lo) : Prop where
  keep : ∀ a u, H a = some u → some a ∉ o.l → H' a = some u ∧ some a ∉ o'.l
  loc : ∀ (n : Nat) (x : Option Addr), o.l[n]? = some x → o'.l[n]? = some x ∨ o'.l[n]? = some none
structure Le (H : Hp) (o : Lo) (H' : Hp) (o' : Lo) : Prop extends Lc H o H' o' where
  z : o'.z = o.z
theorem Lc.refl (H : Hp) (o : Lo) : Lc H o H o := ⟨fun _ _ h n => ⟨h, n⟩, fun _ _ h => .inl h⟩
theorem Le.refl (H : Hp) (o : Lo) : Le H o H o := ⟨Lc.refl _ _, rfl⟩
theorem Lc.trans {H H1 H2 : Hp} {o o1 o2 : Lo} (a : Lc H o H1 o1) (b : Lc H1 o1 H2 o2) : Lc H o H2 o2 :=
  ⟨fun p u h n => let ⟨h1, n1⟩ := a.keep p u h n; b.keep p u h1 n1, fun n x h => by
    rcases a.loc n x h with h | h
    · exact b.loc n x h
    · exact .inr ((b.loc n none h).elim id id)⟩
theorem Le.trans {H H1 H2 : Hp} {o o1 o2 : Lo} (a : Le H o H1 o1) (b : Le H1 o1 H2 o2) : Le H o H2 o2 := ⟨a.toLc.trans b.toLc, b.z.trans a.z⟩

section
variable {K : PySem.W.Frag} {H H' : Hp} {o o' : Lo}
theorem Lc.av (e : Lc H o H' o') (hz : ∀ a ∈ o'.z, a ∈ o.z ∨ H a = none) {a : Addr} {u : HO} (h : H a = some u) (v : o.av a) : H' a = some u ∧ o'.av a :=
  let ⟨h1, n1⟩ := e.keep a u h v.1
  ⟨h1, n1, fun q => (hz a q).elim v.2 fun e => by rw [h] at e; cases e⟩
mutual
theorem Rep.monoC (e : Lc H o H' o') (hz : ∀ a ∈ o'.z, a ∈ o.z ∨ H a = none) : ∀ (d : D) (v : V), Rep K H o d v → Rep K H' o' d v
  | .non, v, h => h
  | .bl _, v, h => h
  | .int _, v, h => h
  | .str _, v, h => h
  | .tup ds, v, h => by
    obtain ⟨a, xs, rfl, h1, h2⟩ := h
    refine ⟨a, xs, rfl, ?_, Reps.monoC e hz ds xs h2⟩
    rcases h1 with ⟨h1, h3⟩ | h1
    · exact .inl (e.av hz h1 h3)
    · exact .inr h1
  | .lst ds, v, h => by
    obtain ⟨a, xs, rfl, h1, h3, h2⟩ := h
    obtain ⟨h4, h5⟩ := e.av hz h1 h3
    exact ⟨a, xs, rfl, h4, h5, Reps.monoC e hz ds xs h2⟩
  | .dic ks ds, v, h => by
    obtain ⟨a, kvs, rfl, h1, h3, hk, h2⟩ := h
    obtain ⟨h4, h5⟩ := e.av hz h1 h3
    exact ⟨a, kvs, rfl, h4, h5, hk, Reps.monoC e hz ds _ h2⟩
  | .scr ns, v, h => by
    obtain ⟨a, rfl, h1⟩ := h
    refine ⟨a, rfl, ?_⟩
    rcases h1 with ⟨ob, h1, h3⟩ | h1
    · exact .inl ⟨ob, e.av hz h1 h3⟩
    · exact .inr h1
  | .ref n, v, h => by
    obtain ⟨a, rfl, h⟩ := h
    refine ⟨a, rfl, ?_⟩
    rcases h with h | h
    · exact e.loc n _ h
    · exact .inr ((e.loc n _ h).elim id id)
theorem Reps.monoC (e : Lc H o H' o') (hz : ∀ a ∈ o'.z, a ∈ o.z ∨ H a = none) : ∀ (ds : List D) (vs : List V), Reps K H o ds vs → Reps K H' o' ds vs
  | [], _, h => h
  | d :: ds, _, h => by
    obtain ⟨v, vs, rfl, h1, h2⟩ := h
    exact ⟨v, vs, rfl, Rep.monoC e hz d v h1, Reps.monoC e hz ds vs h2⟩
end
theorem Rep.mono (e : Le H o H' o') (d : D) (v : V) (h : Rep K H o d v) : Rep K H' o' d v := Rep.monoC e.toLc (fun a q => .inl (by rw [← e.z]; exact q)) d v h
theorem Reps.mono (e : Le H o H' o') (ds : List D) (vs : List V) (h : Reps K H o ds vs) : Reps K H' o' ds vs := Reps.monoC e.toLc (fun a q => .inl (by rw [← e.z]; exact q)) ds vs h

mutual
theorem Rep.avoid {p : Addr} (hp : p ∈ o.z) (hH : ∀ b, b ≠ p → H' b = H b) : ∀ (d : D) (v : V), Rep K H o d v → Rep K H' o d v
  | .non, v, h => h
  | .bl _, v, h => h
  | .int _, v, h => h
  | .str _, v, h => h
  | .tup ds, v, h => by
    obtain ⟨a, xs, rfl, h1, h2⟩ := h
    refine ⟨a, xs, rfl, ?_, Reps.avoid hp hH ds xs h2⟩
    rcases h1 with ⟨h1, h3⟩ | h1
    · exact .inl ⟨by rw [hH a (fun q => h3.2 (by rw [q]; exact hp))]; exact h1, h3⟩
    · exact .inr h1
  | .lst ds, v, h => by
    obtain ⟨a, xs, rfl, h1, h3, h2⟩ := h
    exact ⟨a, xs, rfl, by rw [hH a (fun q => h3.2 (by rw [q]; exact hp))]; exact h1, h3, Reps.avoid hp hH ds xs h2⟩
  | .dic ks ds, v, h => by
    obtain ⟨a, kvs, rfl, h1, h3, hk, h2⟩ := h
    exact ⟨a, kvs, rfl, by rw [hH a (fun q => h3.2 (by rw [q]; exact hp))]; exact h1, h3, hk, Reps.avoid hp hH ds _ h2⟩
  | .scr ns, v, h => by
    obtain ⟨a, rfl, h1⟩ := h
    refine ⟨a, rfl, ?_⟩
    rcases h1 with ⟨ob, h1, h3⟩ | h1
    · exact .inl ⟨ob, by rw [hH a (fun q => h3.2 (by rw [q]; exact hp))]; exact h1, h3⟩
    · exact .inr h1
  | .ref n, v, h => h
theorem Reps.avoid {p : Addr} (hp : p ∈ o.z) (hH : ∀ b, b ≠ p → H' b = H b) : ∀ (ds : List D) (vs : List V), Reps K H o ds vs → Reps K H' o ds vs
  | [], _, h => h
  | d :: ds, _, h => by
    obtain ⟨v, vs, rfl, h1, h2⟩ := h
    exact ⟨v, vs, rfl, Rep.avoid hp hH d v h1, Reps.avoid hp hH ds vs h2⟩
end
/-! ## lists of representations -/
theorem Reps.length : ∀ {ds : List D} {vs : List V}, Reps K H o ds vs → vs.length = ds.length
  | [], vs, h => by cases (show vs = [] from h); rfl
  | d :: ds, vs, h => by
    obtain ⟨v, vs', rfl, _, h2⟩ := h
    simp [Reps.length h2]
theorem Reps.get : ∀ {ds : List D} {vs : List V} {i : Nat} {d : D}, Reps K H o ds vs → ds[i]? = some d → ∃ v, vs[i]? = some v ∧ Rep K H o d v
  | [], _, _, _, _, e => by simp at e
  | d :: ds, vs, 0, d', h, e => by
    obtain ⟨v, vs', rfl, h1, _⟩ := h
    simp at e; subst e
    exact ⟨v, by simp, h1⟩
  | d :: ds, vs, i + 1, d', h, e => by
    obtain ⟨v, vs', rfl, _, h2⟩ := h
    obtain ⟨v', e1, e2⟩ := Reps.get (i := i) h2 (by simpa using e)
    exact ⟨v', by simpa using e1, e2⟩
theorem Reps.getV {ds : List D} {vs : List V} {i : Nat} {v : V} (h : Reps K H o ds vs) (e : vs[i]? = some v) : ∃ d, ds[i]? = some d ∧ Rep K H o d v := by
  have hi : i < ds.length := by rw [← h.length]; exact (List.getElem?_eq_some_iff.mp e).1
  obtain ⟨v', e1, e2⟩ := h.get (List.getElem?_eq_getElem hi)
  rw [e] at e1; cases e1
  exact ⟨_, List.getElem?_eq_getElem hi, e2⟩
theorem Reps.append : ∀ {ds : List D} {vs : List V} {ds' : List D} {vs' : List V}, Reps K H o ds vs → Reps K H o ds' vs' → Reps K H o (ds ++ ds') (vs ++ vs')
  | [], vs, _, _, h, h' => by cases (show vs = [] from h); exact h'
  | d :: ds, vs, _, _, h, h' => by
    obtain ⟨v, vs1, rfl, h1, h2⟩ := h
    exact ⟨v, vs1 ++ _, rfl, h1, Reps.append h2 h'⟩
theorem Reps.take : ∀ (n : Nat) {ds : List D} {vs : List V}, Reps K H o ds vs → Reps K H o (ds.take n) (vs.take n)
  | 0, _, _, _ => by simp [Reps]
  | n + 1, [], vs, h => by cases (show vs = [] from h); simp [Reps]
  | n + 1, d :: ds, vs, h => by
    obtain ⟨v, vs1, rfl, h1, h2⟩ := h
    exact ⟨v, vs1.take n, rfl, h1, Reps.take n h2⟩
theorem Reps.drop : ∀ (n : Nat) {ds : List D} {vs : List V}, Reps K H o ds vs → Reps K H o (ds.drop n) (vs.drop n)
  | 0, _, _, h => h
  | n + 1, [], vs, h => by cases (show vs = [] from h); simp [Reps]
  | n + 1, d :: ds, vs, h => by
    obtain ⟨v, vs1, rfl, h1, h2⟩ := h
    exact Reps.drop n h2
theorem Reps.set : ∀ {ds : List D} {vs : List V} (i : Nat) {d : D} {v : V}, Reps K H o ds vs → Rep K H o d v → Reps K H o (ds.set i d) (vs.set i v)
  | [], vs, _, _, _, h, _ => by cases (show vs = [] from h); simp [Reps]
  | d :: ds, vs, 0, d', v', h, r => by
    obtain ⟨v, vs1, rfl, h1, h2⟩ := h
    exact ⟨v', vs1, rfl, r, h2⟩
  | d :: ds, vs, i + 1, d', v', h, r => by
    obtain ⟨v, vs1, rfl, h1, h2⟩ := h
    exact ⟨v, vs1.set i v', rfl, h1, Reps.set i h2 r⟩
theorem Reps.one {d : D} {v : V} (h : Rep K H o d v) : Reps K H o [d] [v] := ⟨v, [], rfl, h, rfl⟩
theorem Reps.nil_iff {ds : List D} {vs : List V} (h : Reps K H o ds vs) : vs = [] ↔ ds = [] := by
  have e := h.length
  constructor
  · intro q; subst q; exact List.length_eq_zero_iff.mp e.symm
  · intro q; subst q; exact List.length_eq_zero_iff.mp e
theorem Reps.ints : ∀ {ns : List Int} {vs : List V}, Reps K H o (ns.map D.int) vs → vs = ns.map V.int
  | [], vs, h => h
  | n :: ns, vs, h => by
    obtain ⟨v, vs', rfl, h1, h2⟩ := h
    cases (show v = .int n from h1)
    rw [Reps.ints h2]; rfl
theorem Reps.bls : ∀ {bs : List Bool} {vs : List V}, Reps K H o (bs.map D.bl) vs → vs = bs.map V.bl
  | [], vs, h => h
  | n :: ns, vs, h => by
    obtain ⟨v, vs', rfl, h1, h2⟩ := h
    cases (show v = .bl n from h1)
    rw [Reps.bls h2]; rfl
theorem Reps.strs : ∀ {ss : List Str} {vs : List V}, Reps K H o (ss.map D.str) vs → vs = ss.map V.str
  | [], vs, h => h
  | n :: ns, vs, h => by
    obtain ⟨v, vs', rfl, h1, h2⟩ := h
    cases (show v = .str n from h1)
    rw [Reps.strs h2]; rfl
theorem Reps.ofStrs : ∀ (ss : List Str), Reps K H o (ss.map D.str) (ss.map V.str)
  | [] => rfl
  | s :: ss => ⟨_, _, rfl, rfl, Reps.ofStrs ss⟩
theorem Reps.ofInts : ∀ (ns : List Int), Reps K H o (ns.map D.int) (ns.map V.int)
  | [] => rfl
  | s :: ss => ⟨_, _, rfl, rfl, Reps.ofInts ss⟩
theorem KTup.sq {a : Addr} {xs : List V} (h : KTup K a xs) : SqT K H a xs := .inr h
theorem tup_sq {a : Addr} {xs : List V} (h : (H a = some (.tup xs) ∧ o.av a) ∨ KTup K a xs) : SqT K H a xs := h.elim (fun h => .inl (.inl h.1)) fun h => .inr h

/-! ## what keeps all representations -/
def LeR (K : PySem.W.Frag) (H : Hp) (o : Lo) (H' : Hp) (o' : Lo) : Prop := ∀ d v, Rep K H o d v → Rep K H' o' d v
theorem Le.rep (e : Le H o H' o') : LeR K H o H' o' := fun d v => Rep.mono e d v
theorem LeR.reps (e : LeR K H o H' o') : ∀ {ds : List D} {vs : List V}, Reps K H o ds vs → Reps K H' o' ds vs
  | [], _, h => h
  | d :: ds, _, h => by
    obtain ⟨v, vs, rfl, h1, h2⟩ := h
    exact ⟨v, vs, rfl, e d v h1, LeR.reps e h2⟩
theorem LeR.trans {H1 : Hp} {o1 : Lo} (a : LeR K H o H1 o1) (b : LeR K H1 o1 H' o') : LeR K H o H' o' := fun d v h => b d v (a d v h)

/-! ## the store -/
def CellOk (K : PySem.W.Frag) (H : Hp) (o : Lo) (x : Option (Option Addr)) : Cell → Prop
  | .dead => x = some none
  | .lst ds => ∃ a xs, x = some (some a) ∧ H a = some (.lst xs) ∧ Reps K H o ds xs
  | .dic ks ds => ∃ a kvs, x = some (some a) ∧ H a = some (.dK kvs) ∧ kvs.map (·.1) = ks ∧ Reps K H o ds (kvs.map (·.2))
  | .ins c fs ds => ∃ a dx vs, x = some (some a) ∧ H a = some (.ins (He.ga K c) dx vs) ∧ vs.map (·.1) = fs ∧ Reps K H o ds (vs.map (·.2))
structure StOk (K : PySem.W.Frag) (H : Hp) (o : Lo) (st : Store) : Prop where
  len : o.l.length = st.length
  nd : ∀ (n m : Nat) (a : Addr), o.l[n]? = some (some a) → o.l[m]? = some (some a) → n = m
  zt : ∀ a ∈ o.z, (∃ u, H a = some u) ∧ some a ∉ o.l
  cell : ∀ (n : Nat) (c : Cell), st[n]? = some c → CellOk K H o o.l[n]? c
variable {st : Store}
theorem StOk.live (s : StOk K H o st) {a : Addr} (h : some a ∈ o.l) : ∃ u, H a = some u := by
  obtain ⟨n, hn, e⟩ := List.getElem_of_mem h
  have e1 : o.l[n]? = some (some a) := by rw [List.getElem?_eq_getElem hn, e]
  have hs : n < st.length := by rw [← s.len]; exact hn
  have c := s.cell n _ (List.getElem?_eq_getElem hs)
  rw [e1] at c
  cases q : st[n] with
  | dead => rw [q] at c; cases c
  | lst ds => rw [q] at c; obtain ⟨b, xs, e2, h2, _⟩ := c; cases e2; exact ⟨_, h2⟩
  | dic ks ds => rw [q] at c; obtain ⟨b, xs, e2, h2, _⟩ := c; cases e2; exact ⟨_, h2⟩
  | ins cc fs ds => rw [q] at c; obtain ⟨b, dx, xs, e2, h2, _⟩ := c; cases e2; exact ⟨_, h2⟩
theorem StOk.avOf (s : StOk K H o st) {p : Addr} (h : H p = none) : o.av p :=
  ⟨fun q => (by obtain ⟨u, e⟩ := s.live q; rw [h] at e; cases e), fun q => (by obtain ⟨⟨u, e⟩, _⟩ := s.zt p q; rw [h] at e; cases e)⟩
theorem CellOk.mono {x : Option (Option Addr)} {c : Cell} (h : CellOk K H o x c) (r : LeR K H o H' o') (k : ∀ a u, x = some (some a) → H a = some u → H' a = some u) : CellOk K H' o' x c := by
  cases c with
  | dead => exact h
  | lst ds => obtain ⟨a, xs, e, h1, h2⟩ := h; exact ⟨a, xs, e, k a _ e h1, r.reps h2⟩
  | dic ks ds => obtain ⟨a, xs, e, h1, h3, h2⟩ := h; exact ⟨a, xs, e, k a _ e h1, h3, r.reps h2⟩
  | ins c fs ds => obtain ⟨a, dx, xs, e, h1, h3, h2⟩ := h; exact ⟨a, dx, xs, e, k a _ e h1, h3, r.reps h2⟩
theorem Le.new {p : Addr} {u : HO} (h : H p = none) : Le H o (upd H p u) o :=
  ⟨⟨fun a w e n => ⟨by rw [upd_ne (ne_of_none e h)]; exact e, n⟩, fun _ _ e => .inl e⟩, rfl⟩
theorem StOk.new {p : Addr} {u : HO} (s : StOk K H o st) (h : H p = none) : StOk K (upd H p u) o st :=
  ⟨s.len, s.nd, fun a ha => let ⟨⟨w, e⟩, n⟩ := s.zt a ha; ⟨⟨w, by rw [upd_ne (ne_of_none e h)]; exact e⟩, n⟩,
    fun n c e => (s.cell n c e).mono (Le.new h).rep fun a w _ e2 => by rw [upd_ne (ne_of_none e2 h)]; exact e2⟩
/-- a new object that is a value -/
theorem Rep.newTup {p : Addr} {ds : List D} {xs : List V} (s : StOk K H o st) (h : H p = none) (r : Reps K H o ds xs) : Rep K (upd H p (.tup xs)) o (.tup ds) (.ref p) :=
  ⟨p, xs, rfl, .inl ⟨upd_same, s.avOf h⟩, (Le.new h).rep.reps r⟩
theorem Rep.newLst {p : Addr} {ds : List D} {xs : List V} (s : StOk K H o st) (h : H p = none) (r : Reps K H o ds xs) : Rep K (upd H p (.lst xs)) o (.lst ds) (.ref p) :=
  ⟨p, xs, rfl, upd_same, s.avOf h, (Le.new h).rep.reps r⟩
theorem Rep.newDic {p : Addr} {kvs : List (Key × V)} {ds : List D} (s : StOk K H o st) (h : H p = none) (r : Reps K H o ds (kvs.map (·.2))) : Rep K (upd H p (.dK kvs)) o (.dic (kvs.map (·.1)) ds) (.ref p) :=
  ⟨p, kvs, rfl, upd_same, s.avOf h, rfl, (Le.new h).rep.reps r⟩
/-! ### a new cell -/
abbrev Lo.push (o : Lo) (p : Addr) : Lo := { o with l := o.l ++ [some p] }
theorem Le.alloc {p : Addr} {u : HO} (h : H p = none) : Le H o (upd H p u) (o.push p) :=
  ⟨⟨fun a w e n => ⟨by rw [upd_ne (ne_of_none e h)]; exact e, fun q => by
    rcases List.mem_append.mp q with q | q
    · exact n q
    · have q' : some a = some p := by simpa using q
      cases q'; rw [h] at e; cases e⟩, fun n x e => .inl (by
        rw [show (o.push p).l = o.l ++ [some p] from rfl, List.getElem?_append_left (List.getElem?_eq_some_iff.mp e).1]; exact e)⟩, rfl⟩
theorem StOk.alloc {p : Addr} {u : HO} {c : Cell} (s : StOk K H o st) (h : H p = none) (hc : CellOk K (upd H p u) (o.push p) (some (some p)) c) : StOk K (upd H p u) (o.push p) (st ++ [c]) := by
  have av := s.avOf h
  refine ⟨by simp [s.len], fun n m a e1 e2 => ?_, fun a ha => ?_, fun n c' e => ?_⟩
  · have g : ∀ n, (o.l ++ [some p])[n]? = some (some a) → (n < o.l.length ∧ o.l[n]? = some (some a)) ∨ (n = o.l.length ∧ a = p) := fun n e => by
      by_cases hn : n < o.l.length
      · rw [List.getElem?_append_left hn] at e; exact .inl ⟨hn, e⟩
      · have hl := (List.getElem?_eq_some_iff.mp e).1
        simp at hl
        have : n = o.l.length := by omega
        subst this
        rw [List.getElem?_append_right (Nat.le_refl _)] at e
        simp at e
        exact .inr ⟨rfl, e.symm⟩
    rcases g n e1 with ⟨_, h1⟩ | ⟨rfl, h1⟩ <;> rcases g m e2 with ⟨_, h2⟩ | ⟨rfl, h2⟩
    · exact s.nd n m a h1 h2
    · subst h2; exact absurd (List.mem_of_getElem? h1) av.1
    · subst h1; exact absurd (List.mem_of_getElem? h2) av.1
    · rfl
  · obtain ⟨⟨w, e⟩, n⟩ := s.zt a ha
    refine ⟨⟨w, by rw [upd_ne (ne_of_none e h)]; exact e⟩, fun q => ?_⟩
    rcases List.mem_append.mp q with q | q
    · exact n q
    · have q' : some a = some p := by simpa using q
      cases q'; rw [h] at e; cases e
  · by_cases hn : n < st.length
    · rw [List.getElem?_append_left hn] at e
      have hn2 : n < o.l.length := by rw [s.len]; exact hn
      show CellOk _ _ _ ((o.l ++ [some p])[n]?) _
      rw [List.getElem?_append_left hn2]
      exact (s.cell n c' e).mono (Le.alloc h).rep fun a w _ e2 => by rw [upd_ne (ne_of_none e2 h)]; exact e2
    · have hl := (List.getElem?_eq_some_iff.mp e).1
      simp at hl
      have e3 : n = st.length := by omega
      subst e3
      rw [List.getElem?_append_right (Nat.le_refl _)] at e
      simp at e
      subst e
      show CellOk _ _ _ ((o.l ++ [some p])[st.length]?) _
      rw [← s.len, List.getElem?_append_right (Nat.le_refl _)]
      simpa using hc
theorem Rep.alloc {p : Addr} {u : HO} (s : StOk K H o st) : Rep K (upd H p u) (o.push p) (.ref st.length) (.ref p) :=
  ⟨p, rfl, .inl (by show (o.l ++ [some p])[st.length]? = _; rw [← s.len, List.getElem?_append_right (Nat.le_refl _)]; simp)⟩
/-! ### a cell is changed -/
theorem Le.write {a : Addr} {u : HO} (h : some a ∈ o.l) : Le H o (upd H a u) o :=
  ⟨⟨fun b w e n => ⟨by rw [upd_ne (fun q => n (by rw [q]; exact h))]; exact e, n⟩, fun _ _ e => .inl e⟩, rfl⟩
theorem StOk.write {n : Nat} {a : Addr} {u : HO} {c : Cell} (s : StOk K H o st) (hl : o.l[n]? = some (some a)) (hc : CellOk K (upd H a u) o (some (some a)) c) : StOk K (upd H a u) o (st.set n c) := by
  have hm : some a ∈ o.l := List.mem_of_getElem? hl
  refine ⟨by simp [s.len], s.nd, fun b hb => ?_, fun m c' e => ?_⟩
  · obtain ⟨⟨w, e⟩, nm⟩ := s.zt b hb
    exact ⟨⟨w, by rw [upd_ne (fun q => nm (by rw [q]; exact hm))]; exact e⟩, nm⟩
  · by_cases hn : n = m
    · subst hn
      have hn' : n < st.length := by rw [← s.len]; exact (List.getElem?_eq_some_iff.mp hl).1
      rw [List.getElem?_set_self hn'] at e
      cases e
      rw [hl]; exact hc
    · rw [List.getElem?_set_ne hn] at e
      exact (s.cell m c' e).mono (Le.write hm).rep fun b w e1 e2 => by
        rw [upd_ne (fun q => hn (by subst q; exact s.nd n m _ hl e1))]; exact e2
/-! ### a cell ends; what it held is a value from now on -/
theorem Le.free {n : Nat} : Le H o H { o with l := o.l.set n none } :=
  ⟨⟨fun a u e h => ⟨e, fun q => by
    rcases List.mem_or_eq_of_mem_set q with q | q
    · exact h q
    · cases q⟩, fun m x e => by
      by_cases hn : n = m
      · subst hn
        right
        exact List.getElem?_set_self (List.getElem?_eq_some_iff.mp e).1
      · left; show (o.l.set n none)[m]? = some x; rw [List.getElem?_set_ne hn]; exact e⟩, rfl⟩
theorem StOk.free {n : Nat} {a : Addr} (s : StOk K H o st) (hl : o.l[n]? = some (some a)) : StOk K H { o with l := o.l.set n none } (st.set n .dead) ∧ Lo.av { o with l := o.l.set n none } a := by
  have hn0 : n < o.l.length := (List.getElem?_eq_some_iff.mp hl).1
  have g : ∀ (m : Nat) (b : Addr), (o.l.set n none)[m]? = some (some b) → m ≠ n ∧ o.l[m]? = some (some b) := fun m b e => by
    by_cases hn : n = m
    · subst hn; rw [List.getElem?_set_self hn0] at e; cases e
    · rw [List.getElem?_set_ne hn] at e; exact ⟨Ne.symm hn, e⟩
  refine ⟨⟨by simp [s.len], fun m k b e1 e2 => s.nd m k b (g m b e1).2 (g k b e2).2, fun b hb => ?_, fun m c e => ?_⟩, fun q => ?_, fun q => (s.zt a q).2 (List.mem_of_getElem? hl)⟩
  · obtain ⟨h1, h2⟩ := s.zt b hb
    refine ⟨h1, fun q => ?_⟩
    obtain ⟨m, hm, e⟩ := List.getElem_of_mem q
    exact h2 (List.mem_of_getElem? (g m b (by rw [List.getElem?_eq_getElem hm, e])).2)
  · by_cases hn : n = m
    · subst hn
      rw [List.getElem?_set_self (by rw [← s.len]; exact hn0)] at e
      cases e
      exact List.getElem?_set_self hn0
    · rw [List.getElem?_set_ne hn] at e
      show CellOk _ _ _ ((o.l.set n none)[m]?) c
      rw [List.getElem?_set_ne hn]
      exact (s.cell m c e).mono Le.free.rep fun b w _ e2 => e2
  · obtain ⟨m, hm, e⟩ := List.getElem_of_mem q
    obtain ⟨h1, h2⟩ := g m a (by rw [List.getElem?_eq_getElem hm, e])
    exact h1 (s.nd m n a h2 hl)

/-! ### an address is reserved -/
abbrev Lo.hold (o : Lo) (p : Addr) : Lo := { o with z := p :: o.z }
theorem Lc.hold {p : Addr} {u : HO} (h : H p = none) : Lc H o (upd H p u) (o.hold p) := ⟨fun a w e n => ⟨by rw [upd_ne (ne_of_none e h)]; exact e, n⟩, fun _ _ e => .inl e⟩
theorem LeR.hold {p : Addr} {u : HO} (h : H p = none) : LeR K H o (upd H p u) (o.hold p) := fun d v r =>
  Rep.monoC (Lc.hold h) (fun a q => by
    rcases List.mem_cons.mp q with q | q
    · exact .inr (by rw [q]; exact h)
    · exact .inl q) d v r
theorem StOk.hold {p : Addr} {u : HO} (s : StOk K H o st) (h : H p = none) : StOk K (upd H p u) (o.hold p) st :=
  ⟨s.len, s.nd, fun a ha => by
    rcases List.mem_cons.mp ha with q | q
    · subst q; exact ⟨⟨u, upd_same⟩, (s.avOf h).1⟩
    · obtain ⟨⟨w, e⟩, n⟩ := s.zt a q
      exact ⟨⟨w, by rw [upd_ne (ne_of_none e h)]; exact e⟩, n⟩,
    fun n c e => (s.cell n c e).mono (LeR.hold h) fun a w _ e2 => by rw [upd_ne (ne_of_none e2 h)]; exact e2⟩
/-- what is reserved may be written -/
theorem LeR.rewrite {p : Addr} {u : HO} (h : p ∈ o.z) : LeR K H o (upd H p u) o := fun d v r => by
  exact Rep.avoid h (fun b hb => by rw [upd_ne hb]) d v r
theorem StOk.rewrite {p : Addr} {u : HO} (s : StOk K H o st) (h : p ∈ o.z) : StOk K (upd H p u) o st :=
  ⟨s.len, s.nd, fun a ha => by
    obtain ⟨⟨w, e⟩, n⟩ := s.zt a ha
    by_cases q : a = p
    · subst q; exact ⟨⟨u, upd_same⟩, n⟩
    · exact ⟨⟨w, by rw [upd_ne q]; exact e⟩, n⟩,
    fun n c e => (s.cell n c e).mono (LeR.rewrite h) fun a w e1 e2 => by
      rw [upd_ne (fun q => by subst q; exact (s.zt a h).2 (List.mem_of_getElem? e1))]; exact e2⟩
theorem LeR.unhold {zs : List Addr} (h : ∀ a ∈ zs, a ∈ o.z) : LeR K H o H { o with z := zs } := fun d v r => Rep.monoC (K := K) (H := H) (H' := H) (o := o) (o' := { o with z := zs }) ⟨fun _ _ h n => ⟨h, n⟩, fun _ _ h => .inl h⟩ (fun a q => .inl (h a q)) d v r
theorem StOk.unhold {zs : List Addr} (s : StOk K H o st) (h : ∀ a ∈ zs, a ∈ o.z) : StOk K H { o with z := zs } st :=
  ⟨s.len, s.nd, fun a ha => s.zt a (h a ha), fun n c e => (s.cell n c e).mono (LeR.unhold h) fun a w _ e2 => e2⟩

/-! ## the frame -/
abbrev Env := List (Option D)
def EnvOk (K : PySem.W.Frag) (H : Hp) (o : Lo) (ρ : Env) (σ : L2.St) : Prop := σ.length = ρ.length ∧ ∀ (i : Nat) (d : D), ρ[i]? = some (some d) → ∃ v, σ[i]? = some (some v) ∧ Rep K H o d v
theorem EnvOk.mono {ρ : Env} {σ : L2.St} (e : EnvOk K H o ρ σ) (r : LeR K H o H' o') : EnvOk K H' o' ρ σ := ⟨e.1, fun i d h => let ⟨v, h1, h2⟩ := e.2 i d h; ⟨v, h1, r d v h2⟩⟩
theorem EnvOk.set {ρ : Env} {σ : L2.St} (e : EnvOk K H o ρ σ) (i : Nat) {d : D} {v : V} (r : Rep K H o d v) : EnvOk K H o (ρ.set i (some d)) (σ.set i (some v)) := by
  refine ⟨by simp [e.1], fun j d' h => ?_⟩
  by_cases hj : i = j
  · subst hj
    have hi : i < ρ.length := by have := (List.getElem?_eq_some_iff.mp h).1; simpa using this
    rw [List.getElem?_set_self hi] at h
    cases h
    exact ⟨v, List.getElem?_set_self (by rw [e.1]; exact hi), r⟩
  · rw [List.getElem?_set_ne hj] at h
    rw [List.getElem?_set_ne hj]
    exact e.2 j d' h
theorem EnvOk.clear {ρ : Env} {σ : L2.St} (e : EnvOk K H o ρ σ) (i : Nat) : EnvOk K H o (ρ.set i none) (σ.set i none) := by
  refine ⟨by simp [e.1], fun j d' h => ?_⟩
  by_cases hj : i = j
  · subst hj
    have hi : i < ρ.length := by have := (List.getElem?_eq_some_iff.mp h).1; simpa using this
    rw [List.getElem?_set_self hi] at h
    cases h
  · rw [List.getElem?_set_ne hj] at h
    rw [List.getElem?_set_ne hj]
    exact e.2 j d' h
end
end MP

namespace MP
open PySem L2
open PySem.Spec PyProof.Rows
abbrev Den := Env → M D
abbrev DenL := Env → M (List D)
abbrev DenB := Env → M Bool
abbrev Frag := PySem.W.Frag

/-- how an exception of the data looks to the layer -/
def ExIs (K : Frag) (H : Hp) (o : Lo) (e : Exn) (c : Value) (d : Option Addr) : Prop :=
  c = .ref (He.ga K e.cls) ∧ match e.arg with
    | none => d = none
    | some x => ∃ a v, d = some a ∧ H a = some (.xd [("line", v)]) ∧ Rep K H o x v
def XOk (K : Frag) (E : XK) (H : Hp) (o : Lo) (e : Exn) (st : Store) : Prop :=
  ∀ H' o' c d, Le H o H' o' → StOk K H' o' st → ExIs K H' o' e c d → E c d H'
theorem XOk.mono {K : Frag} {E : XK} {H H' : Hp} {o o' : Lo} {e : Exn} {st : Store} (x : XOk K E H o e st) (l : Le H o H' o') : XOk K E H' o' e st :=
  fun H2 o2 c d l2 => x H2 o2 c d (l.trans l2)
/-- a value is handed on -/
def VOk (K : Frag) (H : Hp) (o : Lo) (Q : VK) (d : D) (st : Store) : Prop := ∀ v H' o', Le H o H' o' → StOk K H' o' st → Rep K H' o' d v → Q v H'
theorem VOk.mono {K : Frag} {H H' : Hp} {o o' : Lo} {Q : VK} {d : D} {st : Store} (x : VOk K H o Q d st) (l : Le H o H' o') : VOk K H' o' Q d st :=
  fun v H2 o2 l2 => x v H2 o2 (l.trans l2)
def LOk (K : Frag) (H : Hp) (o : Lo) (Q : List V → Hp → Prop) (ds : List D) (st : Store) : Prop := ∀ vs H' o', Le H o H' o' → StOk K H' o' st → Reps K H' o' ds vs → Q vs H'
theorem LOk.mono {K : Frag} {H H' : Hp} {o o' : Lo} {Q : List V → Hp → Prop} {d : List D} {st : Store} (x : LOk K H o Q d st) (l : Le H o H' o') : LOk K H' o' Q d st :=
  fun v H2 o2 l2 => x v H2 o2 (l.trans l2)
def BOk (K : Frag) (H : Hp) (o : Lo) (Q : Bool → Hp → Prop) (b : Bool) (st : Store) : Prop := ∀ H' o', Le H o H' o' → StOk K H' o' st → Q b H'
theorem BOk.mono {K : Frag} {H H' : Hp} {o o' : Lo} {Q : Bool → Hp → Prop} {d : Bool} {st : Store} (x : BOk K H o Q d st) (l : Le H o H' o') : BOk K H' o' Q d st :=
  fun H2 o2 l2 => x H2 o2 (l.trans l2)

def tD (K : Frag) (E : XK) (f : Den) : TE := fun σ H Q => ∃ o ρ st, EnvOk K H o ρ σ ∧ StOk K H o st ∧ wpR (f ρ st) (VOk K H o Q) (XOk K E H o)
def tL (K : Frag) (E : XK) (f : DenL) : TA := fun σ H Q => ∃ o ρ st, EnvOk K H o ρ σ ∧ StOk K H o st ∧ wpR (f ρ st) (LOk K H o Q) (XOk K E H o)
def tT (K : Frag) (E : XK) (f : DenB) : TT := fun σ H Q => ∃ o ρ st, EnvOk K H o ρ σ ∧ StOk K H o st ∧ wpR (f ρ st) (BOk K H o Q) (XOk K E H o)
abbrev PD (X : Cx) (E : XK) (e : Expr) (f : Den) : Prop := PE X e (tD X.K E f)
abbrev PL (X : Cx) (E : XK) (es : List Expr) (f : DenL) : Prop := PA X es (tL X.K E f)
abbrev PB (X : Cx) (E : XK) (e : Expr) (f : DenB) : Prop := PT X e (tT X.K E f)
/-- by values -/
def rOne (K : Frag) (E : XK) (op : D → M D) : V → Hp → VK → Prop := fun x H Q => ∃ dx o st, Rep K H o dx x ∧ StOk K H o st ∧ wpR (op dx st) (VOk K H o Q) (XOk K E H o)
def rTwo (K : Frag) (E : XK) (op : D → D → M D) : R2 := fun x y H Q => ∃ dx dy o st, Rep K H o dx x ∧ Rep K H o dy y ∧ StOk K H o st ∧ wpR (op dx dy st) (VOk K H o Q) (XOk K E H o)
def rLst (K : Frag) (E : XK) (op : List D → M D) : List V → Hp → VK → Prop := fun xs H Q => ∃ ds o st, Reps K H o ds xs ∧ StOk K H o st ∧ wpR (op ds st) (VOk K H o Q) (XOk K E H o)
abbrev OpD (X : Cx) (E : XK) (f : Value → Value → Sem Value) (op : D → D → M D) : Prop := OpR X f (rTwo X.K E op)
abbrev UnD (X : Cx) (E : XK) (f : Value → Sem Value) (op : D → M D) : Prop := UnR X f (rOne X.K E op)
abbrev IxD (X : Cx) (E : XK) (op : D → D → M D) : Prop := IxR X (rTwo X.K E op)
abbrev CallD (X : Cx) (E : XK) (f : Value) (op : List D → M D) : Prop := CallR X f (rLst X.K E op)

theorem PE.imp {X : Cx} {e : Expr} {t t' : TE} (h : PE X e t) (m : ∀ σ H Q, t' σ H Q → t σ H Q) : PE X e t' := ⟨fun pins s σ H Q I q => h.run pins s σ H Q I (m σ H Q q)⟩
theorem PA.imp {X : Cx} {e : List Expr} {t t' : TA} (h : PA X e t) (m : ∀ σ H Q, t' σ H Q → t σ H Q) : PA X e t' := ⟨fun pos pins s σ H Q I q => h.run pos pins s σ H Q I (m σ H Q q)⟩
theorem PT.imp {X : Cx} {e : Expr} {t t' : TT} (h : PT X e t) (m : ∀ σ H Q, t' σ H Q → t σ H Q) : PT X e t' := ⟨fun pins s σ H Q I q => h.run pins s σ H Q I (m σ H Q q)⟩

section
variable {K : Frag} {E : XK} {σ : L2.St} {H : Hp} {Q : VK}
theorem tD_bind {f : Den} {g : D → Den} (h : tD K E (fun ρ => f ρ >>= fun d => g d ρ) σ H Q) :
    tD K E f σ H fun v H1 => ∃ d o ρ st, Rep K H1 o d v ∧ EnvOk K H1 o ρ σ ∧ StOk K H1 o st ∧ wpR (g d ρ st) (VOk K H1 o Q) (XOk K E H1 o) := by
  obtain ⟨o, ρ, st, he, hs, h⟩ := h
  refine ⟨o, ρ, st, he, hs, ?_⟩
  refine (wpR.bind.mp h).mono (fun d st1 h1 v H1 o1 l s1 r => ⟨d, o1, ρ, st1, r, he.mono l.rep, s1, ?_⟩) fun _ _ x => x
  exact h1.mono (fun _ _ x => x.mono l) fun _ _ x => x.mono l
theorem tL_bind {f : DenL} {g : List D → Den} (h : tD K E (fun ρ => f ρ >>= fun d => g d ρ) σ H Q) :
    tL K E f σ H fun v H1 => ∃ d o ρ st, Reps K H1 o d v ∧ EnvOk K H1 o ρ σ ∧ StOk K H1 o st ∧ wpR (g d ρ st) (VOk K H1 o Q) (XOk K E H1 o) := by
  obtain ⟨o, ρ, st, he, hs, h⟩ := h
  refine ⟨o, ρ, st, he, hs, ?_⟩
  refine (wpR.bind.mp h).mono (fun d st1 h1 v H1 o1 l s1 r => ⟨d, o1, ρ, st1, r, he.mono l.rep, s1, ?_⟩) fun _ _ x => x
  exact h1.mono (fun _ _ x => x.mono l) fun _ _ x => x.mono l
theorem tT_bind {f : DenB} {g : Bool → Den} (h : tD K E (fun ρ => f ρ >>= fun d => g d ρ) σ H Q) :
    tT K E f σ H fun b H1 => tD K E (g b) σ H1 Q := by
  obtain ⟨o, ρ, st, he, hs, h⟩ := h
  refine ⟨o, ρ, st, he, hs, ?_⟩
  refine (wpR.bind.mp h).mono (fun d st1 h1 H1 o1 l s1 => ⟨o1, ρ, st1, he.mono l.rep, s1, ?_⟩) fun _ _ x => x
  exact h1.mono (fun _ _ x => x.mono l) fun _ _ x => x.mono l
/-- two in a row -/
theorem tD_two {f g : Den} {op : D → D → M D} (h : tD K E (fun ρ => f ρ >>= fun x => g ρ >>= fun y => op x y) σ H Q) :
    tD K E f σ H fun x H1 => tD K E g σ H1 fun y H2 => rTwo K E op x y H2 Q := by
  obtain ⟨o, ρ, st, he, hs, h⟩ := h
  refine ⟨o, ρ, st, he, hs, ?_⟩
  refine (wpR.bind.mp h).mono (fun d st1 h1 v H1 o1 l s1 r => ⟨o1, ρ, st1, he.mono l.rep, s1, ?_⟩) fun _ _ x => x
  refine (wpR.bind.mp h1).mono (fun d2 st2 h2 v2 H2 o2 l2 s2 r2 => ⟨d, d2, o2, st2, Rep.mono l2 d v r, r2, s2, ?_⟩) fun _ _ x => x.mono l
  exact h2.mono (fun _ _ x => x.mono (l.trans l2)) fun _ _ x => x.mono (l.trans l2)
theorem tD_one {f : Den} {op : D → M D} (h : tD K E (fun ρ => f ρ >>= fun x => op x) σ H Q) : tD K E f σ H fun x H1 => rOne K E op x H1 Q := by
  obtain ⟨o, ρ, st, he, hs, h⟩ := h
  refine ⟨o, ρ, st, he, hs, ?_⟩
  refine (wpR.bind.mp h).mono (fun d st1 h1 v H1 o1 l s1 r => ⟨d, o1, st1, r, s1, ?_⟩) fun _ _ x => x
  exact h1.mono (fun _ _ x => x.mono l) fun _ _ x => x.mono l
theorem tD_lst {f : DenL} {op : List D → M D} (h : tD K E (fun ρ => f ρ >>= fun x => op x) σ H Q) : tL K E f σ H fun x H1 => rLst K E op x H1 Q := by
  obtain ⟨o, ρ, st, he, hs, h⟩ := h
  refine ⟨o, ρ, st, he, hs, ?_⟩
  refine (wpR.bind.mp h).mono (fun d st1 h1 v H1 o1 l s1 r => ⟨d, o1, st1, r, s1, ?_⟩) fun _ _ x => x
  exact h1.mono (fun _ _ x => x.mono l) fun _ _ x => x.mono l
theorem tD_pure {d : D} (v : V) (hv : ∀ H o, Rep K H o d v) (h : tD K E (fun _ => pure d) σ H Q) : Q v H := by
  obtain ⟨o, ρ, st, he, hs, h⟩ := h
  exact h v H o (Le.refl _ _) hs (hv _ _)
end

section
variable {X : Cx} {E : XK} {a b : Expr} {f g : Den} {pos : Pos}
theorem pd_bin {op : Operator} {p : D → D → M D} (ho : OpD X E (binaryOp op) p) (ha : PD X E a f) (hb : PD X E b g) : PD X E (.BinOp a op b pos) (fun ρ => f ρ >>= fun x => g ρ >>= fun y => p x y) :=
  PE.imp (pe_op ho ha hb) fun _ _ _ h => tD_two h
theorem pd_un {op : UnaryOp} {p : D → M D} (ho : UnD X E (unaryOp op) p) (ha : PD X E a f) : PD X E (.UnaryOp op a pos) (fun ρ => f ρ >>= fun x => p x) :=
  PE.imp (pe_un ho ha) fun _ _ _ h => tD_one h
theorem pd_cmp {op : CmpOp} {p : D → D → M D} (ho : OpD X E (compareOp op) p) (ha : PD X E a f) (hb : PD X E b g) (hm : behindInMarks op b = false) : PD X E (.Compare a [op] [b] pos) (fun ρ => f ρ >>= fun x => g ρ >>= fun y => p x y) :=
  PE.imp (pe_cmpR ho ha hb hm) fun _ _ _ h => tD_two h
theorem pd_ix {p : D → D → M D} (ho : IxD X E p) (ha : PD X E a f) (hb : PD X E b g) (hs : PlainIx b) : PD X E (.Subscript a b pos) (fun ρ => f ρ >>= fun x => g ρ >>= fun y => p x y) :=
  PE.imp (pe_ix ho ha hb hs) fun _ _ _ h => tD_two h
/-- a truth value -/
def asB : D → M Bool
  | .bl b => pure b
  | _ => M.stuck
theorem tT_of {K : Frag} {σ : L2.St} {H : Hp} {Q : Bool → Hp → Prop} {f : Den} (h : tT K E (fun ρ => f ρ >>= asB) σ H Q) : tD K E f σ H fun x H1 => ∃ k, x = .bl k ∧ Q k H1 := by
  obtain ⟨o, ρ, st, he, hs, h⟩ := h
  refine ⟨o, ρ, st, he, hs, ?_⟩
  refine (wpR.bind.mp h).mono (fun d st1 h1 v H1 o1 l s1 r => ?_) fun _ _ x => x
  cases d with
  | bl b => exact ⟨b, r, h1 H1 o1 l s1⟩
  | _ => exact False.elim h1
theorem pb_cmp {op : CmpOp} {p : D → D → M D} (ho : OpD X E (compareOp op) p) (ha : PD X E a f) (hb : PD X E b g) (hm : behindInMarks op b = false) : PB X E (.Compare a [op] [b] pos) (fun ρ => (f ρ >>= fun x => g ρ >>= fun y => p x y) >>= asB) :=
  PT.imp (pt_cmpR ho ha hb hm) fun _ _ _ h => by
    have h1 := tT_of h
    exact tD_two h1
theorem pb_val {e : Expr} (h : PD X E e f) (he : ∀ whole, isTrue e X.env whole = (do let v ← whole; standAt e.pos; holding [v] (truthy v))) : PB X E e (fun ρ => f ρ >>= asB) :=
  PT.imp (pt_val h he) fun _ _ _ h => tT_of h
end
end MP

namespace MP
open PySem L2
open PySem.Spec PyProof.Rows
abbrev big : Nat := 16000000
theorem big_le : big ≤ sizeLine := by rw [sizeLine_eq]; decide
theorem big_lt : big < sizeLine := by rw [sizeLine_eq]; decide

/-! ## lists that are read -/
def lstOf : D → M (List D)
  | .lst ds => pure ds
  | .ref n => fun st => match st[n]? with
    | some (.lst ds) => .ok ds st
    | _ => .stuck
  | _ => M.stuck
section
variable {K : Frag} {E : XK} {H : Hp} {o : Lo} {st : Store} {X : Cx}
theorem lstOf_wp {d : D} {v : V} {Q : List D → Store → Prop} {Z : Exn → Store → Prop} (r : Rep K H o d v) (s : StOk K H o st) (h : wpR (lstOf d st) Q Z) :
    ∃ ds a xs, v = .ref a ∧ H a = some (.lst xs) ∧ Reps K H o ds xs ∧ Q ds st := by
  cases d with
  | lst ds => obtain ⟨a, xs, e, h1, _, h2⟩ := r; exact ⟨ds, a, xs, e, h1, h2, h⟩
  | ref n =>
    have h' : wpR (match st[n]? with | some (.lst ds) => R.ok ds st | _ => .stuck) Q Z := h
    cases q : st[n]? with
    | none => rw [q] at h'; exact False.elim h'
    | some c =>
      rw [q] at h'
      cases c with
      | lst ds =>
        obtain ⟨a, xs, e1, e2, e3⟩ := s.cell n _ q
        obtain ⟨b, rfl, h1⟩ := r
        have : a = b := by
          rw [e1] at h1
          rcases h1 with h1 | h1
          · cases h1; rfl
          · cases h1
        subst this
        exact ⟨ds, a, xs, rfl, e2, e3, h'⟩
      | _ => exact False.elim h'
  | _ => exact False.elim h

/-! ## closing a value -/
theorem fin_flat {d : D} {v : V} {Q : VK} {op : R D} (h : wpR op (VOk K H o Q) (XOk K E H o)) (e : op = .ok d st) (s : StOk K H o st) (r : ∀ H o, Rep K H o d v) : Q v H := by
  subst e; exact h v H o (Le.refl _ _) s (r _ _)
theorem ok_flat {d : D} {v : V} {Q : VK} (h : VOk K H o Q d st) (s : StOk K H o st) (r : Rep K H o d v) : Q v H := h v H o (Le.refl _ _) s r
theorem ok_newTup {ds : List D} {xs : List V} {p : Addr} {Q : VK} (h : VOk K H o Q (.tup ds) st) (s : StOk K H o st) (r : Reps K H o ds xs) (hp : H p = none) : Q (.ref p) (upd H p (.tup xs)) :=
  h _ _ o (Le.new hp) (s.new hp) (Rep.newTup s hp r)
theorem ok_newLst {ds : List D} {xs : List V} {p : Addr} {Q : VK} (h : VOk K H o Q (.lst ds) st) (s : StOk K H o st) (r : Reps K H o ds xs) (hp : H p = none) : Q (.ref p) (upd H p (.lst xs)) :=
  h _ _ o (Le.new hp) (s.new hp) (Rep.newLst s hp r)

/-! ## + -/
def guardM (c : Bool) (m : M D) : M D := bif c then m else M.stuck
theorem guardM_wp {c : Bool} {m : M D} {Q : D → Store → Prop} {Z : Exn → Store → Prop} (h : wpR (guardM c m st) Q Z) : c = true ∧ wpR (m st) Q Z := by
  cases c with
  | true => exact ⟨rfl, h⟩
  | false => exact False.elim h
def catL (x y : D) : M D := lstOf x >>= fun a => lstOf y >>= fun b => guardM (decide (a.length + b.length ≤ big)) (pure (.lst (a ++ b)))
def opAdd : D → D → M D
  | .int i, .int j => pure (.int (i + j))
  | .str i, .str j => guardM (decide (i.length + j.length ≤ big)) (pure (.str (i ++ j)))
  | .tup xs, .tup ys => guardM (decide (xs.length + ys.length ≤ big)) (pure (.tup (xs ++ ys)))
  | .lst xs, y => catL (.lst xs) y
  | .ref n, y => catL (.ref n) y
  | _, _ => M.stuck
theorem catL_ok {x y : V} {dx dy : D} {Q : VK} (r1 : Rep K H o dx x) (r2 : Rep K H o dy y) (s : StOk K H o st) (h : wpR (catL dx dy st) (VOk K H o Q) (XOk K E H o)) : rCat x y H Q := by
  obtain ⟨da, a, xs, rfl, e1, q1, h⟩ := lstOf_wp r1 s (wpR.bind.mp h)
  obtain ⟨db, b, ys, rfl, e2, q2, h⟩ := lstOf_wp r2 s (wpR.bind.mp h)
  obtain ⟨hl, h⟩ := guardM_wp h
  refine ⟨a, b, xs, ys, rfl, rfl, e1, e2, ?_, fun p hp => ok_newLst h s (q1.append q2) hp⟩
  rw [q1.length, q2.length]
  exact Nat.le_trans (of_decide_eq_true hl) big_le
theorem od_add : OpD X E (binaryOp .Add) opAdd := by
  intro pins s σ H x y v u Q I rx ry h
  obtain ⟨dx, dy, o, st, r1, r2, so, h⟩ := h
  cases dx with
  | int i =>
    cases dy with
    | int j => exact op_add pins s σ H x y v u Q I rx ry ⟨i, j, r1, r2, ok_flat h so rfl⟩
    | _ => exact False.elim h
  | str i =>
    cases dy with
    | str j =>
      obtain ⟨hl, h⟩ := guardM_wp h
      exact op_add_str pins s σ H x y v u Q I rx ry ⟨i, j, r1, r2, Nat.le_trans (of_decide_eq_true hl) big_le, ok_flat h so rfl⟩
    | _ => exact False.elim h
  | tup ds =>
    cases dy with
    | tup es =>
      obtain ⟨hl, h⟩ := guardM_wp h
      obtain ⟨a, xs, rfl, k1, q1⟩ := r1
      obtain ⟨b, ys, rfl, k2, q2⟩ := r2
      refine op_catA pins s σ H _ _ v u Q I rx ry ⟨a, b, xs, ys, rfl, rfl, tup_sq k1, tup_sq k2, ?_, ?_⟩
      · rw [q1.length, q2.length]; exact Nat.le_trans (of_decide_eq_true hl) big_le
      · refine ⟨fun e => ?_, fun e1 e2 => ?_, fun _ _ p hp => ok_newTup h so (q1.append q2) hp⟩
        · have e' := (q1.nil_iff).mp e
          subst e'
          exact ok_flat h so ⟨b, ys, rfl, k2, q2⟩
        · have e' := (q2.nil_iff).mp e2
          subst e'
          exact ok_flat h so ⟨a, xs, rfl, k1, by simpa using q1⟩
    | _ => exact False.elim h
  | lst ds => exact op_cat pins s σ H x y v u Q I rx ry (catL_ok r1 r2 so h)
  | ref n => exact op_cat pins s σ H x y v u Q I rx ry (catL_ok r1 r2 so h)
  | _ => exact False.elim h

/-! ## ints -/
def opSub : D → D → M D
  | .int i, .int j => pure (.int (i - j))
  | _, _ => M.stuck
theorem od_sub : OpD X E (binaryOp .Sub) opSub := by
  intro pins s σ H x y v u Q I rx ry h
  obtain ⟨dx, dy, o, st, r1, r2, so, h⟩ := h
  cases dx <;> cases dy <;> first | exact False.elim h | skip
  exact op_sub pins s σ H x y v u Q I rx ry ⟨_, _, r1, r2, ok_flat h so rfl⟩
def opMul : D → D → M D
  | .int i, .int j => guardM (decide (i.natAbs.log2 + j.natAbs.log2 < 1000000)) (pure (.int (i * j)))
  | .lst xs, .int k => guardM (decide (-(2 ^ 63) ≤ k ∧ k < 2 ^ 63 ∧ xs.length * k.toNat ≤ big)) (pure (.lst (List.replicate k.toNat xs).flatten))
  | .tup xs, .int k => guardM (!xs.isEmpty && decide (2 ≤ k ∧ k ≤ 1000 ∧ xs.length ≤ 1000)) (pure (.tup (List.replicate k.toNat xs).flatten))
  | _, _ => M.stuck
theorem Reps.rep {ds : List D} {vs : List V} (h : Reps K H o ds vs) : ∀ n : Nat, Reps K H o (List.replicate n ds).flatten (List.replicate n vs).flatten
  | 0 => rfl
  | n + 1 => by
    rw [List.replicate_succ, List.replicate_succ, List.flatten_cons, List.flatten_cons]
    exact h.append (Reps.rep h n)
theorem od_mul : OpD X E (binaryOp .Mult) opMul := by
  intro pins s σ H x y v u Q I rx ry h
  obtain ⟨dx, dy, o, st, r1, r2, so, h⟩ := h
  cases dx <;> cases dy <;> first | exact False.elim h | skip
  · obtain ⟨hc, h⟩ := guardM_wp h
    exact op_mulW pins s σ H x y v u Q I rx ry ⟨_, _, r1, r2, (by have e := of_decide_eq_true hc; exact e), ok_flat h so rfl⟩
  · obtain ⟨hc, h⟩ := guardM_wp h
    rw [Bool.and_eq_true] at hc
    have h0 := hc.1
    obtain ⟨h1, h2, h3⟩ := of_decide_eq_true hc.2
    obtain ⟨a, xs, rfl, k1, q1⟩ := r1
    refine op_repT pins s σ H _ y v u Q I rx ry ⟨a, _, xs, rfl, r2, tup_sq k1, fun e => by rw [q1.nil_iff.mp e] at h0; exact absurd h0 (by decide), h1, h2, by rw [q1.length]; exact h3, fun p hp => ok_newTup h so (q1.rep _) hp⟩
  · obtain ⟨hc, h⟩ := guardM_wp h
    obtain ⟨h1, h2, h3⟩ := of_decide_eq_true hc
    obtain ⟨a, xs, rfl, k1, k2, q1⟩ := r1
    exact op_rep pins s σ H _ y v u Q I rx ry ⟨a, _, xs, rfl, r2, k1, h1, h2, by rw [q1.length]; exact Nat.le_trans h3 big_le, fun p hp => ok_newLst h so (q1.rep _) hp⟩
def opDiv : D → D → M D
  | .int i, .int j => guardM (decide (0 < j ∧ j.natAbs.log2 < 9000)) (pure (.int (i / j)))
  | _, _ => M.stuck
theorem od_div : OpD X E (binaryOp .FloorDiv) opDiv := by
  intro pins s σ H x y v u Q I rx ry h
  obtain ⟨dx, dy, o, st, r1, r2, so, h⟩ := h
  cases dx <;> cases dy <;> first | exact False.elim h | skip
  obtain ⟨hc, h⟩ := guardM_wp h
  exact op_fdivW pins s σ H x y v u Q I rx ry ⟨_, _, r1, r2, (by have e := of_decide_eq_true hc; exact e), ok_flat h so rfl⟩
def opMod : D → D → M D
  | .int i, .int j => guardM (decide (0 < j)) (pure (.int (i % j)))
  | _, _ => M.stuck
theorem od_mod : OpD X E (binaryOp .Mod) opMod := by
  intro pins s σ H x y v u Q I rx ry h
  obtain ⟨dx, dy, o, st, r1, r2, so, h⟩ := h
  cases dx <;> cases dy <;> first | exact False.elim h | skip
  obtain ⟨hc, h⟩ := guardM_wp h
  exact op_mod pins s σ H x y v u Q I rx ry ⟨_, _, r1, r2, (by have e := of_decide_eq_true hc; exact e), ok_flat h so rfl⟩
def opPow : D → D → M D
  | .int i, .int j => guardM (decide (0 ≤ j ∧ j ≤ 1000000 ∧ i.natAbs < 2 ^ 64)) (pure (.int (i ^ j.toNat)))
  | _, _ => M.stuck
theorem od_pow : OpD X E (binaryOp .Pow) opPow := by
  intro pins s σ H x y v u Q I rx ry h
  obtain ⟨dx, dy, o, st, r1, r2, so, h⟩ := h
  cases dx <;> cases dy <;> first | exact False.elim h | skip
  obtain ⟨hc, h⟩ := guardM_wp h
  exact op_pow pins s σ H x y v u Q I rx ry ⟨_, _, r1, r2, (by have e := of_decide_eq_true hc; exact e), ok_flat h so rfl⟩
def opNeg : D → M D
  | .int i => pure (.int (-i))
  | _ => M.stuck
theorem ud_neg : UnD X E (unaryOp .USub) opNeg := by
  intro pins s σ H x v Q I rx h
  obtain ⟨dx, o, st, r1, so, h⟩ := h
  cases dx <;> first | exact False.elim h | skip
  exact un_neg pins s σ H x v Q I rx ⟨_, r1, ok_flat h so rfl⟩
def opCmp (p : Int → Int → Bool) : D → D → M D
  | .int i, .int j => pure (.bl (p i j))
  | _, _ => M.stuck
theorem od_cmp {f : Value → Value → Sem Value} {p : Int → Int → Bool} (hf : OpR X f (rI0 fun i j => .bl (p i j))) : OpD X E f (opCmp p) := by
  intro pins s σ H x y v u Q I rx ry h
  obtain ⟨dx, dy, o, st, r1, r2, so, h⟩ := h
  cases dx <;> cases dy <;> first | exact False.elim h | skip
  exact hf pins s σ H x y v u Q I rx ry ⟨_, _, r1, r2, ok_flat h so rfl⟩
abbrev opLt := opCmp fun i j => decide (i < j)
abbrev opLe := opCmp fun i j => decide (i ≤ j)
abbrev opGt := opCmp fun i j => decide (j < i)
abbrev opGe := opCmp fun i j => decide (j ≤ i)
theorem od_lt : OpD X E (compareOp .Lt) opLt := od_cmp op_lt
theorem od_le : OpD X E (compareOp .LtE) opLe := od_cmp op_le
theorem od_gt : OpD X E (compareOp .Gt) opGt := od_cmp op_gt
theorem od_ge : OpD X E (compareOp .GtE) opGe := od_cmp op_ge

/-! ## is None -/
def isNon : D → Bool
  | .non => true
  | _ => false
theorem Rep.isNon {d : D} {v : V} (r : Rep K H o d v) : decide (v = .non) = isNon d := by
  cases d with
  | non => cases (show v = .non from r); rfl
  | bl b => cases (show v = .bl b from r); rfl
  | int b => cases (show v = .int b from r); rfl
  | str b => cases (show v = .str b from r); rfl
  | tup ds => obtain ⟨a, xs, rfl, _⟩ := r; rfl
  | lst ds => obtain ⟨a, xs, rfl, _⟩ := r; rfl
  | dic ks ds => obtain ⟨a, xs, rfl, _⟩ := r; rfl
  | scr ds => obtain ⟨a, rfl, _⟩ := r; rfl
  | ref ds => obtain ⟨a, rfl, _⟩ := r; rfl
def opIsN (neg : Bool) : D → D → M D
  | x, .non => pure (.bl (if neg then !isNon x else isNon x))
  | _, _ => M.stuck
theorem od_isN : OpD X E (compareOp .Is) (opIsN false) := by
  intro pins s σ H x y v u Q I rx ry h
  obtain ⟨dx, dy, o, st, r1, r2, so, h⟩ := h
  cases dy with
  | non => exact op_isN pins s σ H x y v u Q I rx ry ⟨r2, by rw [r1.isNon]; exact ok_flat h so rfl⟩
  | _ => exact False.elim h
theorem od_notN : OpD X E (compareOp .IsNot) (opIsN true) := by
  intro pins s σ H x y v u Q I rx ry h
  obtain ⟨dx, dy, o, st, r1, r2, so, h⟩ := h
  cases dy with
  | non => exact op_notN pins s σ H x y v u Q I rx ry ⟨r2, by rw [r1.isNon]; exact ok_flat h so rfl⟩
  | _ => exact False.elim h

/-! ## data of any depth: ==, in -/
mutual
def D.py : D → PyData
  | .bl b => .bool b
  | .int i => .int i
  | .str s => .str s
  | .tup ds => .tuple (pys ds)
  | .lst ds => .list (pys ds)
  | _ => .none
def pys : List D → List PyData
  | [] => []
  | d :: ds => d.py :: pys ds
end
mutual
def D.okD : D → Bool
  | .non | .bl _ | .int _ => true
  | .str s => PyData.strOk s
  | .tup ds | .lst ds => okDs ds
  | _ => false
def okDs : List D → Bool
  | [] => true
  | d :: ds => d.okD && okDs ds
end
theorem pys_map : ∀ ds : List D, pys ds = ds.map D.py
  | [] => rfl
  | d :: ds => by show d.py :: pys ds = _; rw [pys_map ds]; rfl
theorem okDs_all : ∀ ds : List D, okDs ds = ds.all D.okD
  | [] => rfl
  | d :: ds => by show (d.okD && okDs ds) = _; rw [okDs_all ds]; rfl
mutual
theorem okD_lay : ∀ d : D, d.okD = true → d.py.canLay0 = true
  | .non, _ => by simp [D.py, PyData.canLay0]
  | .bl _, _ => by simp [D.py, PyData.canLay0]
  | .int _, _ => by simp [D.py, PyData.canLay0]
  | .str s, h => by
    have h' : PyData.strOk s = true := h
    simpa [D.py, PyData.canLay0] using h'
  | .tup ds, h => by
    have := okDs_lay ds h
    simpa [D.py, PyData.canLay0] using this
  | .lst ds, h => by
    have := okDs_lay ds h
    simpa [D.py, PyData.canLay0] using this
  | .dic _ _, h => by cases h
  | .scr _, h => by cases h
  | .ref _, h => by cases h
theorem okDs_lay : ∀ ds : List D, okDs ds = true → PyData.canLayAll0 (pys ds) = true
  | [], _ => by simp [pys, PyData.canLayAll0]
  | d :: ds, h => by
    have h' : (d.okD && okDs ds) = true := h
    rw [Bool.and_eq_true] at h'
    have e1 := okD_lay d h'.1
    have e2 := okDs_lay ds h'.2
    simp [pys, PyData.canLayAll0, e1, e2]
end
mutual
theorem Rep.dp : ∀ (d : D) (v : V), Rep K H o d v → d.okD = true → Dp K H v d.py
  | .non, v, r, _ => by cases (show v = .non from r); simpa [D.py] using Dp.non
  | .bl b, v, r, _ => by cases (show v = .bl b from r); simpa [D.py] using Dp.bl b
  | .int b, v, r, _ => by cases (show v = .int b from r); simpa [D.py] using Dp.int b
  | .str b, v, r, _ => by cases (show v = .str b from r); simpa [D.py] using Dp.str b
  | .tup ds, v, r, h => by
    obtain ⟨a, xs, rfl, k, q⟩ := r
    simpa [D.py] using Dp.tup (tup_sq k) (Reps.dp ds xs q h)
  | .lst ds, v, r, h => by
    obtain ⟨a, xs, rfl, k, _, q⟩ := r
    simpa [D.py] using Dp.lst (SqL.of k) (Reps.dp ds xs q h)
  | .dic _ _, _, _, h => by cases h
  | .scr _, _, _, h => by cases h
  | .ref _, _, _, h => by cases h
theorem Reps.dp : ∀ (ds : List D) (vs : List V), Reps K H o ds vs → okDs ds = true → DpAll K H vs (pys ds)
  | [], vs, r, _ => by cases (show vs = [] from r); simpa [pys] using DpAll.nil
  | d :: ds, vs, r, h => by
    obtain ⟨v, vs', rfl, r1, r2⟩ := r
    have h' : (d.okD && okDs ds) = true := h
    rw [Bool.and_eq_true] at h'
    simpa [pys] using DpAll.cons (Rep.dp d v r1 h'.1) (Reps.dp ds vs' r2 h'.2)
end
def D.sh (d : D) : Bool := d.okD && decide (d.py.depth ≤ 64)
theorem sh_shaped {d : D} (h : d.sh = true) : d.okD = true ∧ SeqAt.shaped d.py = true := by
  have h' := h
  unfold D.sh at h'
  rw [Bool.and_eq_true] at h'
  refine ⟨h'.1, ?_⟩
  show (d.py.canLay0 && decide (d.py.depth ≤ 64)) = true
  rw [okD_lay d h'.1, h'.2]; rfl
def deq (a b : D) : Bool := PyData.eqv a.py b.py
/-- a cell's list is read as a list -/
def dataOf : D → M D
  | .ref n => fun st => match st[n]? with
    | some (.lst ds) => .ok (.lst ds) st
    | _ => .stuck
  | d => pure d
theorem dataOf_wp {d : D} {v : V} {Q : D → Store → Prop} {Z : Exn → Store → Prop} (r : Rep K H o d v) (s : StOk K H o st) (h : wpR (dataOf d st) Q Z) :
    ∃ d', (d'.okD = true → Dp K H v d'.py) ∧ Q d' st := by
  cases d with
  | ref n =>
    have h' : wpR (match st[n]? with | some (.lst ds) => R.ok (.lst ds) st | _ => .stuck) Q Z := h
    cases q : st[n]? with
    | none => rw [q] at h'; exact False.elim h'
    | some c =>
      rw [q] at h'
      cases c with
      | lst ds =>
        obtain ⟨a, xs, e1, e2, e3⟩ := s.cell n _ q
        obtain ⟨b, rfl, h1⟩ := r
        have : a = b := by
          rw [e1] at h1
          rcases h1 with h1 | h1
          · cases h1; rfl
          · cases h1
        subst this
        exact ⟨_, fun z => by simpa [D.py] using Dp.lst (SqL.of e2) (Reps.dp ds xs e3 z), h'⟩
      | _ => exact False.elim h'
  | _ => exact ⟨_, fun z => Rep.dp _ _ r z, h⟩
def opEq (neg : Bool) (x y : D) : M D := dataOf x >>= fun a => dataOf y >>= fun b => guardM (a.sh && b.sh) (pure (.bl (if neg then !deq a b else deq a b)))
theorem opEq_wp {neg : Bool} {dx dy : D} {x y : V} {Q : VK} (r1 : Rep K H o dx x) (r2 : Rep K H o dy y) (so : StOk K H o st) (h : wpR (opEq neg dx dy st) (VOk K H o Q) (XOk K E H o)) :
    ∃ d e, Dp K H x d ∧ Dp K H y e ∧ SeqAt.shaped d = true ∧ SeqAt.shaped e = true ∧ Q (.bl (if neg then !PyData.eqv d e else PyData.eqv d e)) H := by
  obtain ⟨a, p1, h⟩ := dataOf_wp r1 so (wpR.bind.mp h)
  obtain ⟨b, p2, h⟩ := dataOf_wp r2 so (wpR.bind.mp h)
  obtain ⟨hc, h⟩ := guardM_wp h
  rw [Bool.and_eq_true] at hc
  obtain ⟨o1, s1⟩ := sh_shaped hc.1
  obtain ⟨o2, s2⟩ := sh_shaped hc.2
  exact ⟨_, _, p1 o1, p2 o2, s1, s2, ok_flat h so rfl⟩
theorem od_eq (hu : X.A.units + 64 < cLine) : OpD X E (compareOp .Eq) (opEq false) := by
  intro pins s σ H x y v u Q I rx ry h
  obtain ⟨dx, dy, o, st, r1, r2, so, h⟩ := h
  obtain ⟨d, e, p1, p2, s1, s2, q⟩ := opEq_wp r1 r2 so h
  exact op_eqD hu pins s σ H x y v u Q I rx ry ⟨d, e, p1, p2, s1, s2, q⟩
theorem od_ne (hu : X.A.units + 64 < cLine) : OpD X E (compareOp .NotEq) (opEq true) := by
  intro pins s σ H x y v u Q I rx ry h
  obtain ⟨dx, dy, o, st, r1, r2, so, h⟩ := h
  obtain ⟨d, e, p1, p2, s1, s2, q⟩ := opEq_wp r1 r2 so h
  exact op_neD hu pins s σ H x y v u Q I rx ry ⟨d, e, p1, p2, s1, s2, q⟩
theorem op_inT (hu : X.A.units + 65 < cLine) : OpR X (compareOp .In) (fun x y H Q => ∃ d ds, Dp X.K H x d ∧ Dp X.K H y (.tuple ds) ∧ SeqAt.shaped d = true ∧ SeqAt.shaped (.tuple ds) = true ∧ Q (.bl (ds.any fun z => PyData.eqv z d)) H) := by
  intro pins s σ H x y v u Q I rx ry h
  obtain ⟨d, ds, hd, he, sd, se, q⟩ := h
  obtain ⟨as, r1⟩ := Dp.reads I d x v hd rx
  obtain ⟨bs, r2⟩ := Dp.reads I (.tuple ds) y u he ry
  exact SeqAt.in_tuple_reads r2 r1 (SeqAt.canLay_of_shaped se) (SeqAt.canLay_of_shaped sd) (room_in_shaped sd hu) ⟨.bl _, H, I, rfl, q⟩
theorem op_notInT (hu : X.A.units + 65 < cLine) : OpR X (compareOp .NotIn) (fun x y H Q => ∃ d ds, Dp X.K H x d ∧ Dp X.K H y (.tuple ds) ∧ SeqAt.shaped d = true ∧ SeqAt.shaped (.tuple ds) = true ∧ Q (.bl (!ds.any fun z => PyData.eqv z d)) H) := by
  intro pins s σ H x y v u Q I rx ry h
  obtain ⟨d, ds, hd, he, sd, se, q⟩ := h
  obtain ⟨as, r1⟩ := Dp.reads I d x v hd rx
  obtain ⟨bs, r2⟩ := Dp.reads I (.tuple ds) y u he ry
  exact SeqAt.notIn_tuple_reads r2 r1 (SeqAt.canLay_of_shaped se) (SeqAt.canLay_of_shaped sd) (room_in_shaped sd hu) ⟨.bl _, H, I, rfl, q⟩
/-- keys of a dict -/
def keyD : D → Option Key
  | .int i => some (.inl i)
  | .str s => some (.inr s)
  | _ => none
theorem keyD_rep {d : D} {k : Key} {v : V} (e : keyD d = some k) (r : Rep K H o d v) : v = kV k := by
  cases d with
  | int i => cases e; exact r
  | str i => cases e; exact r
  | _ => cases e
def dget : List Key → List D → Key → Option D
  | k :: ks, d :: ds, q => if k = q then some d else dget ks ds q
  | _, _, _ => none
theorem dget_val : ∀ {kvs : List (Key × V)} {ds : List D} {q : Key}, Reps K H o ds (kvs.map (·.2)) →
    (dget (kvs.map (·.1)) ds q = none ∧ valV kvs q = none) ∨ ∃ d v, dget (kvs.map (·.1)) ds q = some d ∧ valV kvs q = some v ∧ Rep K H o d v
  | [], ds, q, r => .inl ⟨by cases ds <;> rfl, valV_nil⟩
  | p :: kvs, [], q, r => by cases (show (p :: kvs).map (·.2) = [] from r)
  | p :: kvs, d :: ds, q, r => by
    obtain ⟨v, vs', e, r1, r2⟩ := r
    obtain ⟨rfl, rfl⟩ := List.cons.inj e
    by_cases hp : p.1 = q
    · right
      exact ⟨d, p.2, by simp [dget, hp], valV_pos hp, r1⟩
    · rw [valV_neg hp]
      rcases dget_val (q := q) r2 with ⟨h1, h2⟩ | ⟨d', v', h1, h2, h3⟩
      · exact .inl ⟨by simp only [List.map_cons, dget, if_neg hp]; exact h1, h2⟩
      · exact .inr ⟨d', v', by simp only [List.map_cons, dget, if_neg hp]; exact h1, h2, h3⟩
/-- the dict at a value -/
def dicOf : D → M (List Key × List D)
  | .dic ks ds => pure (ks, ds)
  | .ref n => fun st => match st[n]? with
    | some (.dic ks ds) => .ok (ks, ds) st
    | _ => .stuck
  | _ => M.stuck
theorem dicOf_wp {d : D} {v : V} {Q : List Key × List D → Store → Prop} {Z : Exn → Store → Prop} (r : Rep K H o d v) (s : StOk K H o st) (h : wpR (dicOf d st) Q Z) :
    ∃ ks ds a kvs, v = .ref a ∧ H a = some (.dK kvs) ∧ kvs.map (·.1) = ks ∧ Reps K H o ds (kvs.map (·.2)) ∧ Q (ks, ds) st := by
  cases d with
  | dic ks ds => obtain ⟨a, kvs, e, h1, _, h3, h2⟩ := r; exact ⟨ks, ds, a, kvs, e, h1, h3, h2, h⟩
  | ref n =>
    have h' : wpR (match st[n]? with | some (.dic ks ds) => R.ok (ks, ds) st | _ => .stuck) Q Z := h
    cases q : st[n]? with
    | none => rw [q] at h'; exact False.elim h'
    | some c =>
      rw [q] at h'
      cases c with
      | dic ks ds =>
        obtain ⟨a, xs, e1, e2, e4, e3⟩ := s.cell n _ q
        obtain ⟨b, rfl, h1⟩ := r
        have : a = b := by
          rw [e1] at h1
          rcases h1 with h1 | h1
          · cases h1; rfl
          · cases h1
        subst this
        exact ⟨ks, ds, a, xs, rfl, e2, e4, e3, h'⟩
      | _ => exact False.elim h'
  | _ => exact False.elim h
def opIn (neg : Bool) (x y : D) : M D := match x, y with
  | .str i, .str j => pure (.bl (if neg then (Builtin.Str.occurrences j i 0 j.length 1).isEmpty else !(Builtin.Str.occurrences j i 0 j.length 1).isEmpty))
  | x, .tup es => dataOf x >>= fun a => guardM (a.sh && (D.tup es).sh) (pure (.bl (if neg then !(es.any fun z => deq z a) else es.any fun z => deq z a)))
  | x, .lst es => dataOf x >>= fun a => guardM (a.sh && (D.lst es).sh) (pure (.bl (if neg then !(es.any fun z => deq z a) else es.any fun z => deq z a)))
  | x, .ref n => dataOf x >>= fun a => lstOf (.ref n) >>= fun es => guardM (a.sh && (D.lst es).sh) (pure (.bl (if neg then !(es.any fun z => deq z a) else es.any fun z => deq z a)))
  | _, _ => M.stuck
theorem any_pys (es : List D) (a : D) : (pys es).any (fun z => PyData.eqv z a.py) = es.any fun z => deq z a := by
  rw [pys_map, List.any_map]; rfl
theorem opIn_wp {neg : Bool} {dx dy : D} {x y : V} {Q : VK} (r1 : Rep K H o dx x) (r2 : Rep K H o dy y) (so : StOk K H o st) (h : wpR (opIn neg dx dy st) (VOk K H o Q) (XOk K E H o)) :
    (∃ i j, x = .str i ∧ y = .str j ∧ Q (.bl (if neg then (Builtin.Str.occurrences j i 0 j.length 1).isEmpty else !(Builtin.Str.occurrences j i 0 j.length 1).isEmpty)) H) ∨
    (∃ d ds, Dp K H x d ∧ Dp K H y (.tuple ds) ∧ SeqAt.shaped d = true ∧ SeqAt.shaped (.tuple ds) = true ∧ Q (.bl (if neg then !ds.any (fun z => PyData.eqv z d) else ds.any fun z => PyData.eqv z d)) H) ∨
    (∃ d ds, Dp K H x d ∧ Dp K H y (.list ds) ∧ SeqAt.shaped d = true ∧ SeqAt.shaped (.list ds) = true ∧ Q (.bl (if neg then !ds.any (fun z => PyData.eqv z d) else ds.any fun z => PyData.eqv z d)) H) := by
  cases dy with
  | str j =>
    cases dx with
    | str i => exact .inl ⟨i, j, r1, r2, ok_flat h so rfl⟩
    | _ => exact False.elim h
  | tup es =>
    have h' : wpR ((dataOf dx >>= fun a => guardM (a.sh && (D.tup es).sh) (pure (.bl (if neg then !(es.any fun z => deq z a) else es.any fun z => deq z a)))) st) (VOk K H o Q) (XOk K E H o) := by
      cases dx <;> exact h
    obtain ⟨a, p1, h⟩ := dataOf_wp r1 so (wpR.bind.mp h')
    obtain ⟨hc, h⟩ := guardM_wp h
    rw [Bool.and_eq_true] at hc
    obtain ⟨o1, s1⟩ := sh_shaped hc.1
    obtain ⟨o2, s2⟩ := sh_shaped hc.2
    have d2 := Rep.dp _ _ r2 o2
    refine .inr (.inl ⟨_, pys es, p1 o1, by simpa [D.py] using d2, s1, by simpa [D.py] using s2, ?_⟩)
    rw [any_pys]
    exact ok_flat h so rfl
  | lst es =>
    have h' : wpR ((dataOf dx >>= fun a => guardM (a.sh && (D.lst es).sh) (pure (.bl (if neg then !(es.any fun z => deq z a) else es.any fun z => deq z a)))) st) (VOk K H o Q) (XOk K E H o) := by
      cases dx <;> exact h
    obtain ⟨a, p1, h⟩ := dataOf_wp r1 so (wpR.bind.mp h')
    obtain ⟨hc, h⟩ := guardM_wp h
    rw [Bool.and_eq_true] at hc
    obtain ⟨o1, s1⟩ := sh_shaped hc.1
    obtain ⟨o2, s2⟩ := sh_shaped hc.2
    have d2 := Rep.dp _ _ r2 o2
    refine .inr (.inr ⟨_, pys es, p1 o1, by simpa [D.py] using d2, s1, by simpa [D.py] using s2, ?_⟩)
    rw [any_pys]
    exact ok_flat h so rfl
  | ref n =>
    have h' : wpR ((dataOf dx >>= fun a => lstOf (.ref n) >>= fun es => guardM (a.sh && (D.lst es).sh) (pure (.bl (if neg then !(es.any fun z => deq z a) else es.any fun z => deq z a)))) st) (VOk K H o Q) (XOk K E H o) := by
      cases dx <;> exact h
    obtain ⟨a, p1, h⟩ := dataOf_wp r1 so (wpR.bind.mp h')
    obtain ⟨es, b, xs, rfl, e2, q2, h⟩ := lstOf_wp r2 so (wpR.bind.mp h)
    obtain ⟨hc, h⟩ := guardM_wp h
    rw [Bool.and_eq_true] at hc
    obtain ⟨o1, s1⟩ := sh_shaped hc.1
    obtain ⟨o2, s2⟩ := sh_shaped hc.2
    refine .inr (.inr ⟨_, pys es, p1 o1, Dp.lst (SqL.of e2) (Reps.dp es xs q2 o2), s1, by simpa [D.py] using s2, ?_⟩)
    rw [any_pys]
    exact ok_flat h so rfl
  | _ => cases dx <;> exact False.elim h
theorem od_in (hu : X.A.units + 65 < cLine) : OpD X E (compareOp .In) (opIn false) := by
  intro pins s σ H x y v u Q I rx ry h
  obtain ⟨dx, dy, o, st, r1, r2, so, h⟩ := h
  rcases opIn_wp r1 r2 so h with q | q | q
  · exact op_in_str pins s σ H x y v u Q I rx ry q
  · exact op_inT hu pins s σ H x y v u Q I rx ry q
  · exact op_inD hu pins s σ H x y v u Q I rx ry q
theorem od_notIn (hu : X.A.units + 65 < cLine) : OpD X E (compareOp .NotIn) (opIn true) := by
  intro pins s σ H x y v u Q I rx ry h
  obtain ⟨dx, dy, o, st, r1, r2, so, h⟩ := h
  rcases opIn_wp r1 r2 so h with ⟨i, j, e1, e2, q⟩ | q | q
  · exact op_notin_str pins s σ H x y v u Q I rx ry ⟨i, j, e1, e2, by simpa using q⟩
  · exact op_notInT hu pins s σ H x y v u Q I rx ry q
  · exact op_notInD hu pins s σ H x y v u Q I rx ry q
end
end MP

namespace MP
open PySem L2
open PySem.Spec PyProof.Rows
def optM : Option D → M D
  | some d => pure d
  | none => M.stuck
section
variable {K : Frag} {E : XK} {H : Hp} {o : Lo} {st : Store} {X : Cx}
theorem optM_wp {x : Option D} {Q : D → Store → Prop} {Z : Exn → Store → Prop} (h : wpR (optM x st) Q Z) : ∃ d, x = some d ∧ Q d st := by
  cases x with
  | some d => exact ⟨d, rfl, h⟩
  | none => exact False.elim h
theorem atI_rep {ds : List D} {vs : List V} {i : Int} {d : D} (r : Reps K H o ds vs) (e : atI ds i = some d) : ∃ v, atI vs i = some v ∧ Rep K H o d v := by
  unfold atI at e ⊢
  rw [r.length]
  cases q : ixN ds.length i with
  | none => rw [q] at e; cases e
  | some j =>
    rw [q] at e
    obtain ⟨v, h1, h2⟩ := r.get (show ds[j]? = some d from e)
    exact ⟨v, h1, h2⟩

/-! ## subscripts -/
def ixCell : Option Cell → D → M D
  | some (.lst ds), .int i => optM (atI ds i)
  | some (.dic ks ds), k => match keyD k with
    | some q => optM (dget ks ds q)
    | none => M.stuck
  | _, _ => M.stuck
def opIx : D → D → M D
  | .tup ds, .int i => optM (atI ds i)
  | .lst ds, .int i => optM (atI ds i)
  | .str z, .int i => guardM (decide (z.length ≤ big)) (match atI z.cps.toList i with
    | some c => pure (.str ⟨#[c]⟩)
    | none => M.stuck)
  | .scr ns, .int i => optM ((atI ns i).map D.int)
  | .dic ks ds, k => ixCell (some (.dic ks ds)) k
  | .ref n, k => fun st => ixCell st[n]? k st
  | _, _ => M.stuck
theorem atI_map {α β : Type} (f : α → β) (xs : List α) (i : Int) : atI (xs.map f) i = (atI xs i).map f := by
  unfold atI
  rw [List.length_map]
  cases ixN xs.length i with
  | none => rfl
  | some j => show (xs.map f)[j]? = (xs[j]?).map f; rw [List.getElem?_map]
theorem ix_dict (hu : X.A.units + 1 < cLine) : IxR X (fun x y H Q => ∃ a v, x = .ref a ∧ DGet H a y (some v) ∧ Q v H) := by
  intro value slice pins s σ H x y v u Q I rx ry h hs
  obtain ⟨a, z, rfl, g, q⟩ := h
  cases rx
  exact tail_any (dict_typeIs I g) PySem.F.slot_dict_getitem.lookup (d_getItem hu I g ry fun w' s3 I3 rw' => ⟨z, H, I3, rw', q⟩) hs
theorem id_ix (hu : X.A.units + 1 < cLine) : IxD X E opIx := by
  intro value slice pins s σ H x y v u Q I rx ry h hs
  obtain ⟨dx, dy, o, st, r1, r2, so, h⟩ := h
  have dic : ∀ {a : Addr} {kvs : List (Key × V)} {ks : List Key} {ds : List D} {dk : D}, x = .ref a → H a = some (.dK kvs) → kvs.map (·.1) = ks → Reps X.K H o ds (kvs.map (·.2)) → Rep X.K H o dk y → wpR (ixCell (some (.dic ks ds)) dk st) (VOk X.K H o Q) (XOk X.K E H o) →
      wpAny (model X.prog X.w) X.A (subscriptTail value slice v u) (EP X pins σ Q) X.xe s := fun {a kvs ks ds dk} e1 e2 e3 e4 r h => by
    subst e1 e3
    have h' : wpR ((match keyD dk with | some q => optM (dget (List.map (fun p : Key × V => p.1) kvs) ds q) | none => M.stuck) st) (VOk X.K H o Q) (XOk X.K E H o) := by
      cases dk <;> exact h
    cases q : keyD dk with
    | none => rw [q] at h'; exact False.elim h'
    | some k =>
      rw [q] at h'
      obtain ⟨d, e5, h5⟩ := optM_wp h'
      have ey := keyD_rep q r
      subst ey
      rcases dget_val (q := k) e4 with ⟨g1, _⟩ | ⟨d', w, g1, g2, g3⟩
      · rw [g1] at e5; cases e5
      · rw [g1] at e5; cases e5
        exact ix_dict hu value slice pins s σ H _ _ v u Q I rx ry ⟨a, w, rfl, by rw [← g2]; exact DGet.k e2, ok_flat h5 so g3⟩ hs
  have lst : ∀ {a : Addr} {xs : List V} {ds : List D} {i : Int}, x = .ref a → H a = some (.lst xs) → Reps X.K H o ds xs → y = .int i → wpR (optM (atI ds i) st) (VOk X.K H o Q) (XOk X.K E H o) →
      wpAny (model X.prog X.w) X.A (subscriptTail value slice v u) (EP X pins σ Q) X.xe s := fun {a xs ds i} e1 e2 e3 e4 h => by
    obtain ⟨d, e5, h5⟩ := optM_wp h
    obtain ⟨w, e6, e7⟩ := atI_rep e3 e5
    exact ix_list value slice pins s σ H x y v u Q I rx ry ⟨a, xs, i, w, e1, e4, SqL.of e2, e6, ok_flat h5 so e7⟩ hs
  cases dx with
  | tup ds =>
    cases dy with
    | int i =>
      obtain ⟨a, xs, rfl, k1, q1⟩ := r1
      obtain ⟨d, e5, h5⟩ := optM_wp h
      obtain ⟨w, e6, e7⟩ := atI_rep q1 e5
      exact ix_tup value slice pins s σ H _ y v u Q I rx ry ⟨a, xs, i, w, rfl, r2, tup_sq k1, e6, ok_flat h5 so e7⟩ hs
    | _ => exact False.elim h
  | lst ds =>
    cases dy with
    | int i => obtain ⟨a, xs, e, k1, _, q1⟩ := r1; exact lst e k1 q1 r2 h
    | _ => exact False.elim h
  | str z =>
    cases dy with
    | int i =>
      obtain ⟨hl, h⟩ := guardM_wp h
      cases q : atI z.cps.toList i with
      | none => rw [q] at h; exact False.elim h
      | some c =>
        rw [q] at h
        exact ix_str value slice pins s σ H x y v u Q I rx ry ⟨z, i, c, r1, r2, Nat.le_trans (of_decide_eq_true hl) big_le, q, ok_flat h so rfl⟩ hs
    | _ => exact False.elim h
  | scr ns =>
    cases dy with
    | int i =>
      obtain ⟨a, rfl, k1⟩ := r1
      obtain ⟨d, e5, h5⟩ := optM_wp h
      obtain ⟨j, e6, rfl⟩ := Option.map_eq_some_iff.mp e5
      have sq : SqL X.K H a (ns.map V.int) := by
        rcases k1 with ⟨ob, k1, _⟩ | k1
        · exact .inl (.inr ⟨ob, k1⟩)
        · exact .inr k1
      exact ix_list value slice pins s σ H _ y v u Q I rx ry ⟨a, _, i, .int j, rfl, r2, sq, by rw [atI_map, e6]; rfl, ok_flat h5 so rfl⟩ hs
    | _ => exact False.elim h
  | dic ks ds =>
    obtain ⟨a, kvs, e1, e2, _, e3, e4⟩ := r1
    exact dic e1 e2 e3 e4 r2 h
  | ref n =>
    have h' : wpR (ixCell st[n]? dy st) (VOk X.K H o Q) (XOk X.K E H o) := by cases dy <;> exact h
    cases q : st[n]? with
    | none => rw [q] at h'; cases dy <;> exact False.elim h'
    | some c =>
      rw [q] at h'
      obtain ⟨b, e0, h1⟩ := r1
      have at_ : ∀ {a}, o.l[n]? = some (some a) → x = .ref a := fun {a} e1 => by
        rw [e1] at h1
        rcases h1 with h1 | h1
        · cases h1; exact e0
        · cases h1
      cases c with
      | lst ds =>
        obtain ⟨a, xs, e1, e2, e3⟩ := so.cell n _ q
        cases dy with
        | int i => exact lst (at_ e1) e2 e3 r2 h'
        | _ => exact False.elim h'
      | dic ks ds =>
        obtain ⟨a, kvs, e1, e2, e4, e3⟩ := so.cell n _ q
        exact dic (at_ e1) e2 e4 e3 r2 h'
      | _ => cases dy <;> exact False.elim h'
  | _ => cases dy <;> exact False.elim h

/-! ## slices -/
def cutL {α : Type} (xs : List α) (lo hi : Option Int) : List α := (xs.drop (HT.sIx xs.length 0 lo)).take (HT.sIx xs.length xs.length hi - HT.sIx xs.length 0 lo)
theorem Reps.cut {ds : List D} {vs : List V} (r : Reps K H o ds vs) (lo hi : Option Int) : Reps K H o (cutL ds lo hi) (cutV vs lo hi) := by
  unfold cutL cutV
  rw [r.length]
  exact (r.drop _).take _
theorem cutL_whole {α : Type} {xs : List α} {lo hi : Option Int} (h1 : HT.sIx xs.length 0 lo = 0) (h2 : HT.sIx xs.length xs.length hi = xs.length) : cutL xs lo hi = xs := by
  unfold cutL
  rw [h1, h2]
  simp
def opSl (lo hi : Option Int) : D → M D
  | .tup ds => pure (.tup (cutL ds lo hi))
  | .lst ds => pure (.lst (cutL ds lo hi))
  | .str z => guardM (decide (z.length ≤ big)) (pure (.str (cutS z lo hi)))
  | .ref n => lstOf (.ref n) >>= fun ds => pure (.lst (cutL ds lo hi))
  | _ => M.stuck
abbrev SlD (X : Cx) (E : XK) (op : Option Int → Option Int → D → M D) : Prop := SlR X (fun x lo hi H Q => rOne X.K E (op lo hi) x H Q)
theorem sd_sl : SlD X E opSl := by
  intro pins s σ H x v vl vu lo hi sl Q I rx hs pl pu h
  obtain ⟨dx, o, st, r1, so, h⟩ := h
  cases dx with
  | tup ds =>
    obtain ⟨a, xs, rfl, k1, q1⟩ := r1
    refine sl_tupA pins s σ H _ v vl vu lo hi sl Q I rx hs pl pu ⟨a, xs, rfl, tup_sq k1, fun ⟨e1, e2⟩ => ?_, fun _ p hp => ok_newTup h so (q1.cut lo hi) hp⟩
    rw [q1.length] at e1 e2
    have h' : VOk X.K H o Q (.tup (cutL ds lo hi)) st := h
    rw [cutL_whole e1 e2] at h'
    exact ok_flat h' so ⟨a, xs, rfl, k1, q1⟩
  | lst ds =>
    obtain ⟨a, xs, rfl, k1, _, q1⟩ := r1
    exact sl_list pins s σ H _ v vl vu lo hi sl Q I rx hs pl pu ⟨a, xs, rfl, SqL.of k1, fun p hp => ok_newLst h so (q1.cut lo hi) hp⟩
  | str z =>
    obtain ⟨hl, h⟩ := guardM_wp h
    exact sl_str pins s σ H _ v vl vu lo hi sl Q I rx hs pl pu ⟨z, r1, Nat.le_trans (of_decide_eq_true hl) big_le, ok_flat h so rfl⟩
  | ref n =>
    obtain ⟨ds, a, xs, rfl, k1, q1, h⟩ := lstOf_wp r1 so (wpR.bind.mp h)
    exact sl_list pins s σ H _ v vl vu lo hi sl Q I rx hs pl pu ⟨a, xs, rfl, SqL.of k1, fun p hp => ok_newLst h so (q1.cut lo hi) hp⟩
  | _ => exact False.elim h
/-- a part of a slice -/
abbrev DenO := Env → M (Option Int)
def OOk (K : Frag) (H : Hp) (o : Lo) (Q : Option Int → Hp → Prop) (b : Option Int) (st : Store) : Prop := ∀ H' o', Le H o H' o' → StOk K H' o' st → Q b H'
theorem OOk.mono {K : Frag} {H H' : Hp} {o o' : Lo} {Q : Option Int → Hp → Prop} {d : Option Int} {st : Store} (x : OOk K H o Q d st) (l : Le H o H' o') : OOk K H' o' Q d st :=
  fun H2 o2 l2 => x H2 o2 (l.trans l2)
def tO (K : Frag) (E : XK) (f : DenO) : TO := fun σ H Q => ∃ o ρ st, EnvOk K H o ρ σ ∧ StOk K H o st ∧ wpR (f ρ st) (OOk K H o Q) (XOk K E H o)
abbrev PDO (X : Cx) (E : XK) (e : Option Expr) (f : DenO) : Prop := PO X e (tO X.K E f)
theorem PO.imp {e : Option Expr} {t t' : TO} (h : PO X e t) (m : ∀ σ H Q, t' σ H Q → t σ H Q) : PO X e t' := ⟨fun pins s σ H Q I q => h.run pins s σ H Q I (m σ H Q q)⟩
def asI : D → M (Option Int)
  | .int i => pure (some i)
  | _ => M.stuck
theorem pdo_none : PDO X E none (fun _ => pure none) := PO.imp po_none fun σ H Q h => by
  obtain ⟨o, ρ, st, he, hs, h⟩ := h
  exact h H o (Le.refl _ _) hs
theorem pdo_some {e : Expr} {f : Den} (h : PD X E e f) : PDO X E (some e) (fun ρ => f ρ >>= asI) := PO.imp (po_some h) fun σ H Q h => by
  obtain ⟨o, ρ, st, he, hs, h⟩ := h
  refine ⟨o, ρ, st, he, hs, ?_⟩
  refine (wpR.bind.mp h).mono (fun d st1 h1 v H1 o1 l s1 r => ?_) fun _ _ x => x
  cases d with
  | int i => exact ⟨i, r, h1 H1 o1 l s1⟩
  | _ => exact False.elim h1
theorem pd_slice {e : Expr} {lo hi : Option Expr} {f : Den} {fl fh : DenO} {pos p2 : Pos} (he : PD X E e f) (hl : PDO X E lo fl) (hh : PDO X E hi fh) :
    PD X E (.Subscript e (.Slice lo hi none p2) pos) (fun ρ => f ρ >>= fun x => fl ρ >>= fun l => fh ρ >>= fun u => opSl l u x) :=
  PE.imp (pe_slice (sd_sl (E := E)) he hl hh) fun σ H Q h => by
    obtain ⟨o, ρ, st, he, hs, h⟩ := h
    refine ⟨o, ρ, st, he, hs, ?_⟩
    refine (wpR.bind.mp h).mono (fun d st1 h1 v H1 o1 l1 s1 r => ⟨o1, ρ, st1, he.mono l1.rep, s1, ?_⟩) fun _ _ x => x
    refine (wpR.bind.mp h1).mono (fun l st2 h2 H2 o2 l2 s2 => ⟨o2, ρ, st2, (he.mono l1.rep).mono l2.rep, s2, ?_⟩) fun _ _ x => x.mono l1
    refine (wpR.bind.mp h2).mono (fun u st3 h3 H3 o3 l3 s3 => ⟨d, o3, st3, Rep.mono l3 _ _ (Rep.mono l2 _ _ r), s3, ?_⟩) fun _ _ x => (x.mono l1).mono l2
    exact h3.mono (fun _ _ x => ((x.mono l1).mono l2).mono l3) fun _ _ x => ((x.mono l1).mono l2).mono l3

/-! ## builtins by name -/
@[simp] def on1 (f : D → M D) : List D → M D
  | [d] => f d
  | _ => M.stuck
@[simp] def on2 (f : D → D → M D) : List D → M D
  | [d, e] => f d e
  | _ => M.stuck
theorem Reps.one_of {d : D} {vs : List V} (r : Reps K H o [d] vs) : ∃ v, vs = [v] ∧ Rep K H o d v := by
  obtain ⟨v, vs', rfl, h1, h2⟩ := r
  cases (show vs' = [] from h2)
  exact ⟨v, rfl, h1⟩
theorem Reps.two_of {d e : D} {vs : List V} (r : Reps K H o [d, e] vs) : ∃ v w, vs = [v, w] ∧ Rep K H o d v ∧ Rep K H o e w := by
  obtain ⟨v, vs', rfl, h1, h2⟩ := r
  obtain ⟨w, rfl, h3⟩ := Reps.one_of h2
  exact ⟨v, w, rfl, h1, h3⟩
theorem cd_on1 {f : Value} {op : D → M D} (hf : ∀ (pins : List (Addr × Obj)) (s : Shared) (σ : L2.St) (H : Hp) (v : V) (us : List Value) (Q : VK) (d : D) (o : Lo) (st : Store), L2.Inv X pins σ H s → Vals [v] us → Rep X.K H o d v → StOk X.K H o st → wpR (op d st) (VOk X.K H o Q) (XOk X.K E H o) →
    wpAny (model X.prog X.w) X.A (call f us) (EP X pins σ Q) X.xe s) : CallD X E f (on1 op) := by
  intro pins s σ H xs us Q I r h
  obtain ⟨ds, o, st, r1, so, h⟩ := h
  cases ds with
  | nil => exact False.elim h
  | cons d ds =>
    cases ds with
    | nil =>
      obtain ⟨v, e, q⟩ := r1.one_of
      subst e
      exact hf pins s σ H v us Q d o st I r q so h
    | cons _ _ => exact False.elim h
theorem cd_on2 {f : Value} {op : D → D → M D} (hf : ∀ (pins : List (Addr × Obj)) (s : Shared) (σ : L2.St) (H : Hp) (v w : V) (us : List Value) (Q : VK) (d e : D) (o : Lo) (st : Store), L2.Inv X pins σ H s → Vals [v, w] us → Rep X.K H o d v → Rep X.K H o e w → StOk X.K H o st → wpR (op d e st) (VOk X.K H o Q) (XOk X.K E H o) →
    wpAny (model X.prog X.w) X.A (call f us) (EP X pins σ Q) X.xe s) : CallD X E f (on2 op) := by
  intro pins s σ H xs us Q I r h
  obtain ⟨ds, o, st, r1, so, h⟩ := h
  cases ds with
  | nil => exact False.elim h
  | cons d ds =>
    cases ds with
    | nil => exact False.elim h
    | cons e ds =>
      cases ds with
      | nil =>
        obtain ⟨v, w, e, q, q2⟩ := r1.two_of
        subst e
        exact hf pins s σ H v w us Q d _ o st I r q q2 so h
      | cons _ _ => exact False.elim h
def cellLen : Option Cell → M D
  | some (.lst ds) => pure (.int ds.length)
  | some (.dic ks ds) => pure (.int ks.length)
  | _ => M.stuck
def biLen : D → M D
  | .tup ds => pure (.int ds.length)
  | .lst ds => pure (.int ds.length)
  | .str z => guardM (decide (z.length ≤ big)) (pure (.int z.length))
  | .scr ns => pure (.int ns.length)
  | .ref n => fun st => cellLen st[n]? st
  | _ => M.stuck
theorem call_len_dict : CallR X (.builtin "len") (fun xs H Q => ∃ a kvs, xs = [.ref a] ∧ H a = some (.dK kvs) ∧ Q (.int kvs.length) H) := by
  intro pins s σ H xs us Q I r h
  obtain ⟨a, kvs, rfl, e, q⟩ := h
  obtain ⟨u, rfl, rx⟩ := vals1 r
  cases rx
  exact d_len I (.inl e) fun t s' I' => ⟨.int kvs.length, H, I', ⟨t, rfl⟩, q⟩
theorem cd_len : CallD X E (.builtin "len") (on1 biLen) := cd_on1 fun pins s σ H v us Q d o st I r r1 so h => by
  cases d with
  | tup ds =>
    obtain ⟨a, ys, rfl, k1, q1⟩ := r1
    exact call_len_seq pins s σ H _ us Q I r ⟨a, ys, rfl, .inr (tup_sq k1), by rw [q1.length]; exact ok_flat h so rfl⟩
  | lst ds =>
    obtain ⟨a, ys, rfl, k1, _, q1⟩ := r1
    exact call_len_seq pins s σ H _ us Q I r ⟨a, ys, rfl, .inl (SqL.of k1), by rw [q1.length]; exact ok_flat h so rfl⟩
  | str z =>
    obtain ⟨hl, h⟩ := guardM_wp h
    cases (show v = .str z from r1)
    exact call_len_str pins s σ H _ us Q I r ⟨z, rfl, Nat.le_trans (of_decide_eq_true hl) big_le, ok_flat h so rfl⟩
  | scr ns =>
    obtain ⟨a, rfl, k1⟩ := r1
    have sq : SqL X.K H a (ns.map V.int) := by
      rcases k1 with ⟨ob, k1, _⟩ | k1
      · exact .inl (.inr ⟨ob, k1⟩)
      · exact .inr k1
    exact call_len_seq pins s σ H _ us Q I r ⟨a, _, rfl, .inl sq, by rw [List.length_map]; exact ok_flat h so rfl⟩
  | ref n =>
    have h' : wpR (cellLen st[n]? st) (VOk X.K H o Q) (XOk X.K E H o) := h
    cases q : st[n]? with
    | none => rw [q] at h'; exact False.elim h'
    | some c =>
      rw [q] at h'
      obtain ⟨b, rfl, h1⟩ := r1
      have at_ : ∀ {a}, o.l[n]? = some (some a) → b = a := fun {a} e1 => by
        rw [e1] at h1
        rcases h1 with h1 | h1
        · cases h1; rfl
        · cases h1
      cases c with
      | lst ds =>
        obtain ⟨a, ys, e1, e2, e3⟩ := so.cell n _ q
        cases at_ e1
        exact call_len_seq pins s σ H _ us Q I r ⟨_, ys, rfl, .inl (SqL.of e2), by rw [e3.length]; exact ok_flat h' so rfl⟩
      | dic ks ds =>
        obtain ⟨a, kvs, e1, e2, e4, e3⟩ := so.cell n _ q
        cases at_ e1
        refine call_len_dict pins s σ H _ us Q I r ⟨_, kvs, rfl, e2, ?_⟩
        rw [show kvs.length = ks.length by rw [← e4, List.length_map]]
        exact ok_flat h' so rfl
      | _ => exact False.elim h'
  | _ => exact False.elim h
def biAbs : D → M D
  | .int i => pure (.int (if i < 0 then -i else i))
  | _ => M.stuck
def biInt : D → M D
  | .int i => pure (.int i)
  | .bl b => pure (.int (if b then 1 else 0))
  | _ => M.stuck
def biBool : D → M D
  | .int i => pure (.bl (i != 0))
  | .bl b => pure (.bl b)
  | _ => M.stuck
def biStr : D → M D
  | .int i => guardM (decide (i.natAbs.log2 < 1920)) (pure (.str (Str.ofString (toString i))))
  | .str z => pure (.str z)
  | _ => M.stuck
def biMin : D → D → M D
  | .int i, .int j => pure (.int (if j < i then j else i))
  | _, _ => M.stuck
def biMax : D → D → M D
  | .int i, .int j => pure (.int (if j > i then j else i))
  | _, _ => M.stuck
def intsD : List D → Option (List Int)
  | [] => some []
  | .int i :: ds => (intsD ds).map (i :: ·)
  | _ => none
theorem intsD_eq : ∀ {ds : List D} {ns : List Int}, intsD ds = some ns → ds = ns.map D.int
  | [], ns, h => by cases h; rfl
  | .int i :: ds, ns, h => by
    obtain ⟨ms, h1, rfl⟩ := Option.map_eq_some_iff.mp (show (intsD ds).map (i :: ·) = some ns from h)
    rw [intsD_eq h1]; rfl
  | .non :: _, _, h => by cases h
  | .bl _ :: _, _, h => by cases h
  | .str _ :: _, _, h => by cases h
  | .tup _ :: _, _, h => by cases h
  | .lst _ :: _, _, h => by cases h
  | .dic _ _ :: _, _, h => by cases h
  | .scr _ :: _, _, h => by cases h
  | .ref _ :: _, _, h => by cases h
def blsD : List D → Option (List Bool)
  | [] => some []
  | .bl i :: ds => (blsD ds).map (i :: ·)
  | _ => none
theorem blsD_eq : ∀ {ds : List D} {ns : List Bool}, blsD ds = some ns → ds = ns.map D.bl
  | [], ns, h => by cases h; rfl
  | .bl i :: ds, ns, h => by
    obtain ⟨ms, h1, rfl⟩ := Option.map_eq_some_iff.mp (show (blsD ds).map (i :: ·) = some ns from h)
    rw [blsD_eq h1]; rfl
  | .non :: _, _, h => by cases h
  | .int _ :: _, _, h => by cases h
  | .str _ :: _, _, h => by cases h
  | .tup _ :: _, _, h => by cases h
  | .lst _ :: _, _, h => by cases h
  | .dic _ _ :: _, _, h => by cases h
  | .scr _ :: _, _, h => by cases h
  | .ref _ :: _, _, h => by cases h
def sumL (ds : List D) : M D := match intsD ds with
  | some ns => pure (.int ns.sum)
  | none => M.stuck
def biSum : D → M D
  | .lst ds => sumL ds
  | _ => M.stuck
def allL (ds : List D) : M D := match blsD ds with
  | some bs => pure (.bl (bs.all id))
  | none => M.stuck
def biAll : D → M D
  | .lst ds => allL ds
  | _ => M.stuck
def anyL (ds : List D) : M D := match blsD ds with
  | some bs => pure (.bl (bs.any id))
  | none => M.stuck
def biAny : D → M D
  | .lst ds => anyL ds
  | _ => M.stuck
def biList : D → M D
  | .tup ds => pure (.lst ds)
  | .lst ds => pure (.lst ds)
  | .ref n => lstOf (.ref n) >>= fun ds => pure (.lst ds)
  | _ => M.stuck
def biTuple : D → M D
  | .tup ds => pure (.tup ds)
  | .lst ds => pure (.tup ds)
  | .ref n => lstOf (.ref n) >>= fun ds => pure (.tup ds)
  | _ => M.stuck
theorem cd_abs : CallD X E (.builtin "abs") (on1 biAbs) := cd_on1 fun pins s σ H v us Q d o st I r r1 so h => by
  cases d <;> first | exact False.elim h | skip
  cases (show v = .int _ from r1)
  exact call_abs pins s σ H _ us Q I r ⟨_, rfl, ok_flat h so rfl⟩
theorem cd_int : CallD X E (.type "int") (on1 biInt) := cd_on1 fun pins s σ H v us Q d o st I r r1 so h => by
  cases d <;> first | exact False.elim h | skip
  · cases (show v = .bl _ from r1)
    exact call_int1 pins s σ H _ us Q I r (.inr ⟨_, rfl, ok_flat h so rfl⟩)
  · cases (show v = .int _ from r1)
    exact call_int1 pins s σ H _ us Q I r (.inl ⟨_, rfl, ok_flat h so rfl⟩)
theorem cd_bool : CallD X E (.type "bool") (on1 biBool) := cd_on1 fun pins s σ H v us Q d o st I r r1 so h => by
  cases d <;> first | exact False.elim h | skip
  · cases (show v = .bl _ from r1)
    exact call_bool1 pins s σ H _ us Q I r (.inr ⟨_, rfl, ok_flat h so rfl⟩)
  · cases (show v = .int _ from r1)
    exact call_bool1 pins s σ H _ us Q I r (.inl ⟨_, rfl, ok_flat h so rfl⟩)
theorem cd_str : CallD X E (.type "str") (on1 biStr) := cd_on1 fun pins s σ H v us Q d o st I r r1 so h => by
  cases d <;> first | exact False.elim h | skip
  · cases (show v = .int _ from r1)
    obtain ⟨hl, h⟩ := guardM_wp h
    exact call_str_int pins s σ H _ us Q I r ⟨_, rfl, of_decide_eq_true hl, ok_flat h so rfl⟩
  · cases (show v = .str _ from r1)
    exact SkE.call_str_str pins s σ H _ us Q I r ⟨_, rfl, ok_flat h so rfl⟩
theorem cd_min (hc : X.calm = true) : CallD X E (.builtin "min") (on2 biMin) := cd_on2 fun pins s σ H v w us Q d e o st I r r1 r2 so h => by
  cases d <;> cases e <;> first | exact False.elim h | skip
  cases (show v = .int _ from r1)
  cases (show w = .int _ from r2)
  exact call_min2 hc pins s σ H _ us Q I r ⟨_, _, rfl, ok_flat h so rfl⟩
theorem cd_max (hc : X.calm = true) : CallD X E (.builtin "max") (on2 biMax) := cd_on2 fun pins s σ H v w us Q d e o st I r r1 r2 so h => by
  cases d <;> cases e <;> first | exact False.elim h | skip
  cases (show v = .int _ from r1)
  cases (show w = .int _ from r2)
  exact call_max2 hc pins s σ H _ us Q I r ⟨_, _, rfl, ok_flat h so rfl⟩
theorem cd_all (hc : X.calm = true) : CallD X E (.builtin "all") (on1 biAll) := cd_on1 fun pins s σ H v us Q d o st I r r1 so h => by
  cases d <;> first | exact False.elim h | skip
  rename_i ds
  obtain ⟨a, ys, rfl, k1, _, q1⟩ := r1
  have h' : wpR (allL ds st) (VOk X.K H o Q) (XOk X.K E H o) := h
  unfold allL at h'
  cases q : blsD ds with
  | none => rw [q] at h'; exact False.elim h'
  | some bs =>
    rw [q] at h'
    rw [blsD_eq q] at q1
    rw [q1.bls] at k1
    exact cr_all hc pins s σ H _ us Q I r ⟨a, bs, rfl, SqL.of k1, ok_flat h' so rfl⟩
theorem cd_any (hc : X.calm = true) : CallD X E (.builtin "any") (on1 biAny) := cd_on1 fun pins s σ H v us Q d o st I r r1 so h => by
  cases d <;> first | exact False.elim h | skip
  rename_i ds
  obtain ⟨a, ys, rfl, k1, _, q1⟩ := r1
  have h' : wpR (anyL ds st) (VOk X.K H o Q) (XOk X.K E H o) := h
  unfold anyL at h'
  cases q : blsD ds with
  | none => rw [q] at h'; exact False.elim h'
  | some bs =>
    rw [q] at h'
    rw [blsD_eq q] at q1
    rw [q1.bls] at k1
    exact cr_any hc pins s σ H _ us Q I r ⟨a, bs, rfl, SqL.of k1, ok_flat h' so rfl⟩
theorem cd_list : CallD X E (.type "list") (on1 biList) := cd_on1 fun pins s σ H v us Q d o st I r r1 so h => by
  cases d <;> first | exact False.elim h | skip
  · obtain ⟨a, ys, rfl, k1, q1⟩ := r1
    exact call_list_of pins s σ H _ us Q I r ⟨a, ys, rfl, .inr (tup_sq k1), fun l hl => ok_newLst h so q1 hl⟩
  · obtain ⟨a, ys, rfl, k1, _, q1⟩ := r1
    exact call_list_of pins s σ H _ us Q I r ⟨a, ys, rfl, .inl (SqL.of k1), fun l hl => ok_newLst h so q1 hl⟩
  · obtain ⟨ds, a, ys, rfl, k1, q1, h⟩ := lstOf_wp r1 so (wpR.bind.mp h)
    exact call_list_of pins s σ H _ us Q I r ⟨a, ys, rfl, .inl (SqL.of k1), fun l hl => ok_newLst h so q1 hl⟩
theorem cd_tuple : CallD X E (.type "tuple") (on1 biTuple) := cd_on1 fun pins s σ H v us Q d o st I r r1 so h => by
  cases d <;> first | exact False.elim h | skip
  · obtain ⟨a, ys, rfl, k1, q1⟩ := r1
    exact call_tuple_of pins s σ H _ us Q I r ⟨a, ys, rfl, .inr ⟨tup_sq k1, ok_flat h so ⟨a, ys, rfl, k1, q1⟩⟩⟩
  · obtain ⟨a, ys, rfl, k1, _, q1⟩ := r1
    exact call_tuple_of pins s σ H _ us Q I r ⟨a, ys, rfl, .inl ⟨SqL.of k1, fun l hl => ok_newTup h so q1 hl⟩⟩
  · obtain ⟨ds, a, ys, rfl, k1, q1, h⟩ := lstOf_wp r1 so (wpR.bind.mp h)
    exact call_tuple_of pins s σ H _ us Q I r ⟨a, ys, rfl, .inl ⟨SqL.of k1, fun l hl => ok_newTup h so q1 hl⟩⟩
/-- isinstance(x, T), T a built-in type -/
def tyName : D → Option String
  | .non => some "NoneType"
  | .bl _ => some "bool"
  | .int _ => some "int"
  | .str _ => some "str"
  | .tup _ => some "tuple"
  | .lst _ => some "list"
  | .scr _ => some "list"
  | .dic _ _ => some "dict"
  | .ref _ => none
theorem Rep.ty {d : D} {v : V} {t : String} (r : Rep K H o d v) (e : tyName d = some t) : TyX K H v (.type t) := by
  cases d with
  | non => cases e; cases (show v = .non from r); exact .base .non
  | bl b => cases e; cases (show v = .bl b from r); exact .base (.bl b)
  | int b => cases e; cases (show v = .int b from r); exact .base (.int b)
  | str b => cases e; cases (show v = .str b from r); exact .base (.str b)
  | tup ds =>
    cases e
    obtain ⟨a, xs, rfl, k, _⟩ := r
    rcases k with ⟨k, _⟩ | ⟨ob, its, n, h1, h2, _⟩
    · exact .base (.tup k)
    · exact .kTuple h1 h2
  | lst ds => cases e; obtain ⟨a, xs, rfl, k, _⟩ := r; exact .base (.lst k)
  | dic ks ds => cases e; obtain ⟨a, xs, rfl, k, _⟩ := r; exact .base (.dK k)
  | scr ns =>
    cases e
    obtain ⟨a, rfl, k⟩ := r
    rcases k with ⟨ob, k, _⟩ | ⟨ob, its, n, h1, h2, _⟩
    · exact .base (.frz k)
    · exact .kList h1 h2
  | ref n => cases e
/-- what isinstance answers: a table -/
def isiT (T t : String) : Option Bool := match T, t with
  | "int", "int" => some true | "int", "bool" => some true | "int", "NoneType" => some false | "int", "str" => some false | "int", "tuple" => some false | "int", "list" => some false | "int", "dict" => some false
  | "bool", "int" => some false | "bool", "bool" => some true | "bool", "NoneType" => some false | "bool", "str" => some false | "bool", "tuple" => some false | "bool", "list" => some false | "bool", "dict" => some false
  | "str", "int" => some false | "str", "bool" => some false | "str", "NoneType" => some false | "str", "str" => some true | "str", "tuple" => some false | "str", "list" => some false | "str", "dict" => some false
  | "tuple", "int" => some false | "tuple", "bool" => some false | "tuple", "NoneType" => some false | "tuple", "str" => some false | "tuple", "tuple" => some true | "tuple", "list" => some false | "tuple", "dict" => some false
  | "list", "int" => some false | "list", "bool" => some false | "list", "NoneType" => some false | "list", "str" => some false | "list", "tuple" => some false | "list", "list" => some true | "list", "dict" => some false
  | _, _ => none
theorem isiT_ok {T t : String} {b : Bool} (h : isiT T t = some b) : kitB t T = some b := by
  unfold isiT at h
  split at h <;> first | cases h | skip
  all_goals decide +kernel
def opIsi (T : String) (d : D) : M D := match (tyName d).bind (isiT T) with
  | some b => pure (.bl b)
  | none => M.stuck
theorem pd_isi {T : String} {e : Expr} {p p1 pos : Pos} {x y : Str} {f : Den} (hg : Gl X x) (hm : X.mg x = none) (hv : bootBuiltins x = some (.builtin "isinstance")) (hg2 : Gl X y) (hm2 : X.mg y = none) (hv2 : bootBuiltins y = some (.type T))
    (he : PD X E e f) (hn : x ≠ "__name__") (hdb : (x == ("__debug__" : Str)) = false) (hn2 : y ≠ "__name__") (hdb2 : (y == ("__debug__" : Str)) = false)
    (hs : ∀ es, starEach (e :: es) X.env = (false, eval e X.env) :: starEach es X.env) :
    PD X E (.Call (.Name x p) [e, .Name y p1] [] pos) (fun ρ => f ρ >>= opIsi T) := by
  refine PE.imp (pe_callB call_isi hg hm hv (pa_cons he (pa_cons (pe_bltn hg2 hm2 hv2 (v := .ty T) rfl hn2 hdb2) pa_nil) (hs _)) hn hdb (hs _) rfl) fun σ H Q h => ?_
  obtain ⟨o, ρ, st, he, hs, h⟩ := h
  refine ⟨o, ρ, st, he, hs, ?_⟩
  refine (wpR.bind.mp h).mono (fun d st1 h1 v H1 o1 l s1 r => ?_) fun _ _ x => x
  unfold opIsi at h1
  cases q : tyName d with
  | none => rw [q] at h1; exact False.elim h1
  | some t =>
    rw [q] at h1
    have h2 : wpR ((match isiT T t with | some b => (pure (.bl b) : M D) | none => M.stuck) st1) (VOk X.K H o Q) (XOk X.K E H o) := h1
    cases q2 : isiT T t with
    | none => rw [q2] at h2; exact False.elim h2
    | some b =>
      rw [q2] at h2
      exact ⟨v, .ty T, .type t, .type T, b, rfl, .ty T, r.ty q, kit_ty (isiT_ok q2), h2 _ H1 o1 l s1 rfl⟩
end
end MP

namespace MP
open PySem L2
open PySem.Spec PyProof.Rows
section
variable {K : Frag} {E : XK} {H H' : Hp} {o o' : Lo} {st : Store} {X : Cx}

/-! ## names, constants -/
@[simp] def dVar (i : Nat) : Den := fun ρ => match ρ[i]? with
  | some (some d) => pure d
  | _ => M.stuck
@[simp] def dC (d : D) : Den := fun _ => pure d
theorem pd_var {i : Nat} {x : Str} {pos : Pos} (hN : X.N[i]? = some x) (hv : Vis X.env.scope x) (hd : (x == ("__debug__" : Str)) = false) (hcd : (x == ("__classdict__" : Str)) = false) : PD X E (.Name x pos) (dVar i) :=
  PE.imp (pe_var hN hv hd hcd) fun σ H Q h => by
    obtain ⟨o, ρ, st, he, hs, h⟩ := h
    have h' : wpR ((match ρ[i]? with | some (some d) => (pure d : M D) | _ => M.stuck) st) (VOk X.K H o Q) (XOk X.K E H o) := h
    cases q : ρ[i]? with
    | none => rw [q] at h'; exact False.elim h'
    | some x =>
      rw [q] at h'
      cases x with
      | none => exact False.elim h'
      | some d =>
        obtain ⟨v, h1, h2⟩ := he.2 i d q
        exact ⟨v, h1, h' v H o (Le.refl _ _) hs h2⟩
theorem pd_const {e : Expr} {v : V} {d : D} (h : PE X e (tC v)) (r : ∀ H o, Rep X.K H o d v) : PD X E e (dC d) := PE.imp h fun σ H Q h => by
  obtain ⟨o, ρ, st, he, hs, h⟩ := h
  exact h v H o (Le.refl _ _) hs (r _ _)

/-! ## argument lists, displays -/
@[simp] def dNil : DenL := fun _ => pure []
@[simp] def dCons (f : Den) (fs : DenL) : DenL := fun ρ => f ρ >>= fun d => fs ρ >>= fun ds => pure (d :: ds)
theorem pl_nil : PL X E [] dNil := PA.imp pa_nil fun σ H Q h => by
  obtain ⟨o, ρ, st, he, hs, h⟩ := h
  exact h [] H o (Le.refl _ _) hs rfl
theorem tL_cons {σ : L2.St} {Q : List V → Hp → Prop} {f : Den} {fs : DenL} (h : tL K E (dCons f fs) σ H Q) : tCons (tD K E f) (tL K E fs) σ H Q := by
  obtain ⟨o, ρ, st, he, hs, h⟩ := h
  refine ⟨o, ρ, st, he, hs, ?_⟩
  refine (wpR.bind.mp h).mono (fun d st1 h1 v H1 o1 l s1 r => ⟨o1, ρ, st1, he.mono l.rep, s1, ?_⟩) fun _ _ x => x
  refine (wpR.bind.mp h1).mono (fun ds st2 h2 vs H2 o2 l2 s2 rs => ?_) fun _ _ x => x.mono l
  exact h2 (v :: vs) H2 o2 (l.trans l2) s2 ⟨v, vs, rfl, Rep.mono l2 _ _ r, rs⟩
theorem pl_cons {e : Expr} {es : List Expr} {f : Den} {fs : DenL} (ha : PD X E e f) (hr : PL X E es fs) (hs : starEach (e :: es) X.env = (false, eval e X.env) :: starEach es X.env) : PL X E (e :: es) (dCons f fs) :=
  PA.imp (pa_cons ha hr hs) fun _ _ _ h => tL_cons h
@[simp] def dTup (fs : DenL) : Den := fun ρ => fs ρ >>= fun ds => guardM (decide (ds.length ≤ big)) (pure (.tup ds))
@[simp] def dLst (fs : DenL) : Den := fun ρ => fs ρ >>= fun ds => guardM (decide (ds.length ≤ big)) (pure (.lst ds))
def M.alloc (c : Cell) : M D := fun st => .ok (.ref st.length) (st ++ [c])
/-- a list of one's own -/
@[simp] def dOwn (fs : DenL) : Den := fun ρ => fs ρ >>= fun ds => guardM (decide (ds.length ≤ big)) (M.alloc (.lst ds))
theorem pd_tup {es : List Expr} {fs : DenL} {k : Nat} {pos : Pos} (h : PL X E es fs) : PD X E (.Tuple es k pos) (dTup fs) := PE.imp (pe_tup h) fun σ H Q h => by
  obtain ⟨o, ρ, st, he, hs, h⟩ := h
  refine ⟨o, ρ, st, he, hs, ?_⟩
  refine (wpR.bind.mp h).mono (fun ds st1 h1 vs H1 o1 l s1 r => ?_) fun _ _ x => x
  obtain ⟨hl, h2⟩ := guardM_wp h1
  exact ⟨by rw [r.length]; exact Nat.le_trans (of_decide_eq_true hl) big_le, fun p hp => ok_newTup (VOk.mono h2 l) s1 r hp⟩
theorem pd_lst {es : List Expr} {fs : DenL} {pos : Pos} (h : PL X E es fs) : PD X E (.List es pos) (dLst fs) := PE.imp (pe_lst h) fun σ H Q h => by
  obtain ⟨o, ρ, st, he, hs, h⟩ := h
  refine ⟨o, ρ, st, he, hs, ?_⟩
  refine (wpR.bind.mp h).mono (fun ds st1 h1 vs H1 o1 l s1 r => ?_) fun _ _ x => x
  obtain ⟨hl, h2⟩ := guardM_wp h1
  exact ⟨by rw [r.length]; exact Nat.le_trans (of_decide_eq_true hl) big_le, fun p hp => ok_newLst (VOk.mono h2 l) s1 r hp⟩
theorem ok_alloc {c : Cell} {u : HO} {p : Addr} {Q : VK} {Z : Exn → Store → Prop} (h : wpR (M.alloc c st) (VOk K H o Q) Z) (s : StOk K H o st) (hp : H p = none) (hc : CellOk K (upd H p u) (o.push p) (some (some p)) c) : Q (.ref p) (upd H p u) :=
  (show VOk K H o Q (.ref st.length) (st ++ [c]) from h) _ _ _ (Le.alloc hp) (s.alloc hp hc) (Rep.alloc s)
theorem cell_lst {ds : List D} {xs : List V} {p : Addr} (s : StOk K H o st) (hp : H p = none) (r : Reps K H o ds xs) : CellOk K (upd H p (.lst xs)) (o.push p) (some (some p)) (.lst ds) :=
  ⟨p, xs, rfl, upd_same, (Le.alloc hp).rep.reps r⟩
theorem pd_own {es : List Expr} {fs : DenL} {pos : Pos} (h : PL X E es fs) : PD X E (.List es pos) (dOwn fs) := PE.imp (pe_lst h) fun σ H Q h => by
  obtain ⟨o, ρ, st, he, hs, h⟩ := h
  refine ⟨o, ρ, st, he, hs, ?_⟩
  refine (wpR.bind.mp h).mono (fun ds st1 h1 vs H1 o1 l s1 r => ?_) fun _ _ x => x
  obtain ⟨hl, h2⟩ := guardM_wp h1
  exact ⟨by rw [r.length]; exact Nat.le_trans (of_decide_eq_true hl) big_le, fun p hp => ok_alloc (wpR.mono h2 (fun _ _ x => x.mono l) fun _ _ x => x) s1 hp (cell_lst s1 hp r)⟩

/-! ## a if c else b, and, or, not, chains -/
@[simp] def dIf (c : DenB) (f g : Den) : Den := fun ρ => c ρ >>= fun b => cond b (f ρ) (g ρ)
theorem pd_if {c a b : Expr} {pos : Pos} {fc : DenB} {f g : Den} (hc : PB X E c fc) (ha : PD X E a f) (hb : PD X E b g) : PD X E (.IfExp c a b pos) (dIf fc f g) := PE.imp (pe_ifExp hc ha hb) fun σ H Q h => by
  have h1 := tT_bind (g := fun b ρ => cond b (f ρ) (g ρ)) h
  obtain ⟨o, ρ, st, he, hs, h1⟩ := h1
  refine ⟨o, ρ, st, he, hs, h1.mono (fun b st1 q H1 o1 l s1 => ?_) fun _ _ x => x⟩
  have q' := q H1 o1 l s1
  cases b with
  | true => exact iteT q'
  | false => exact iteF q'
@[simp] def dAnd (f g : Den) : Den := fun ρ => f ρ >>= asB >>= fun c => cond c (g ρ) (pure (.bl false))
@[simp] def dOr (f g : Den) : Den := fun ρ => f ρ >>= asB >>= fun c => cond c (pure (.bl true)) (g ρ)
@[simp] def dNot (f : Den) : Den := fun ρ => f ρ >>= asB >>= fun c => pure (.bl (!c))
theorem tB_bind {σ : L2.St} {Q : VK} {f : Den} {g : Bool → Den} (h : tD K E (fun ρ => f ρ >>= asB >>= fun c => g c ρ) σ H Q) : tD K E f σ H fun x H1 => ∃ c, x = .bl c ∧ tD K E (g c) σ H1 Q := by
  obtain ⟨o, ρ, st, he, hs, h⟩ := h
  refine ⟨o, ρ, st, he, hs, ?_⟩
  refine (wpR.bind.mp (wpR.bind.mp h)).mono (fun d st1 h1 v H1 o1 l s1 r => ?_) fun _ _ x => x
  cases d with
  | bl b => exact ⟨b, r, o1, ρ, st1, he.mono l.rep, s1, wpR.mono h1 (fun _ _ x => x.mono l) fun _ _ x => x.mono l⟩
  | _ => exact False.elim h1
theorem pd_and {a b : Expr} {rest : List Expr} {pos : Pos} {f g : Den} (ha : PD X E a f) (hb : PD X E (.BoolOp .And (b :: rest) pos) g) : PD X E (.BoolOp .And (a :: b :: rest) pos) (dAnd f g) := PE.imp (pe_and ha hb) fun σ H Q h => by
  obtain ⟨o, ρ, st, he, hs, h1⟩ := tB_bind (g := fun c ρ => cond c (g ρ) (pure (.bl false))) h
  refine ⟨o, ρ, st, he, hs, h1.mono (fun d st1 q v H1 o1 l s1 r => ?_) fun _ _ x => x⟩
  obtain ⟨c, e, q'⟩ := q v H1 o1 l s1 r
  refine ⟨c, e, ?_⟩
  cases c with
  | true => exact iteT q'
  | false =>
    rw [if_neg Bool.false_ne_true]
    exact tD_pure (d := .bl false) (.bl false) (fun _ _ => rfl) q'
theorem pd_or {a b : Expr} {rest : List Expr} {pos : Pos} {f g : Den} (ha : PD X E a f) (hb : PD X E (.BoolOp .Or (b :: rest) pos) g) : PD X E (.BoolOp .Or (a :: b :: rest) pos) (dOr f g) := PE.imp (pe_or ha hb) fun σ H Q h => by
  obtain ⟨o, ρ, st, he, hs, h1⟩ := tB_bind (g := fun c ρ => cond c (pure (.bl true)) (g ρ)) h
  refine ⟨o, ρ, st, he, hs, h1.mono (fun d st1 q v H1 o1 l s1 r => ?_) fun _ _ x => x⟩
  obtain ⟨c, e, q'⟩ := q v H1 o1 l s1 r
  refine ⟨c, e, ?_⟩
  cases c with
  | false => exact iteF q'
  | true =>
    rw [if_pos rfl]
    exact tD_pure (d := .bl true) (.bl true) (fun _ _ => rfl) q'
theorem pd_not {a : Expr} {pos : Pos} {f : Den} (ha : PD X E a f) : PD X E (.UnaryOp .Not a pos) (dNot f) := PE.imp (pe_not ha) fun σ H Q h => by
  obtain ⟨o, ρ, st, he, hs, h1⟩ := tB_bind (g := fun c _ => pure (.bl (!c))) h
  refine ⟨o, ρ, st, he, hs, h1.mono (fun d st1 q v H1 o1 l s1 r => ?_) fun _ _ x => x⟩
  obtain ⟨c, e, q'⟩ := q v H1 o1 l s1 r
  exact ⟨c, e, tD_pure (d := .bl (!c)) (.bl (!c)) (fun _ _ => rfl) q'⟩
@[simp] def dBAnd (f g : DenB) : DenB := fun ρ => f ρ >>= fun c => cond c (g ρ) (pure false)
@[simp] def dBOr (f g : DenB) : DenB := fun ρ => f ρ >>= fun c => cond c (pure true) (g ρ)
@[simp] def dBNot (f : DenB) : DenB := fun ρ => f ρ >>= fun c => pure (!c)
abbrev PWB (X : Cx) (E : XK) (e : Expr) (f : DenB) : Prop := PW X e (tT X.K E f)
theorem PW.imp {e : Expr} {t t' : TT} (h : PW X e t) (m : ∀ σ H Q, t' σ H Q → t σ H Q) : PW X e t' := ⟨fun wh pins s σ H Q I q => h.run wh pins s σ H Q I (m σ H Q q)⟩
theorem tTT_bind {σ : L2.St} {Q : Bool → Hp → Prop} {f : DenB} {g : Bool → DenB} (h : tT K E (fun ρ => f ρ >>= fun c => g c ρ) σ H Q) : tT K E f σ H fun c H1 => tT K E (g c) σ H1 Q := by
  obtain ⟨o, ρ, st, he, hs, h⟩ := h
  refine ⟨o, ρ, st, he, hs, ?_⟩
  refine (wpR.bind.mp h).mono (fun d st1 h1 H1 o1 l s1 => ⟨o1, ρ, st1, he.mono l.rep, s1, ?_⟩) fun _ _ x => x
  exact wpR.mono h1 (fun _ _ x => x.mono l) fun _ _ x => x.mono l
theorem tT_pure {σ : L2.St} {Q : Bool → Hp → Prop} {b : Bool} (h : tT K E (fun _ => pure b) σ H Q) : Q b H := by
  obtain ⟨o, ρ, st, he, hs, h⟩ := h
  exact h H o (Le.refl _ _) hs
theorem pwb_and {a b : Expr} {rest : List Expr} {pos : Pos} {f g : DenB} (ha : PB X E a f) (hb : PWB X E (.BoolOp .And (b :: rest) pos) g) : PWB X E (.BoolOp .And (a :: b :: rest) pos) (dBAnd f g) := PW.imp (pw_and ha hb) fun σ H Q h => by
  obtain ⟨o, ρ, st, he, hs, h1⟩ := tTT_bind (g := fun c ρ => cond c (g ρ) (pure false)) h
  refine ⟨o, ρ, st, he, hs, h1.mono (fun c st1 q H1 o1 l s1 => ?_) fun _ _ x => x⟩
  have q' := q H1 o1 l s1
  cases c with
  | true => exact iteT q'
  | false => exact iteF (tT_pure q')
theorem pwb_or {a b : Expr} {rest : List Expr} {pos : Pos} {f g : DenB} (ha : PB X E a f) (hb : PWB X E (.BoolOp .Or (b :: rest) pos) g) : PWB X E (.BoolOp .Or (a :: b :: rest) pos) (dBOr f g) := PW.imp (pw_or ha hb) fun σ H Q h => by
  obtain ⟨o, ρ, st, he, hs, h1⟩ := tTT_bind (g := fun c ρ => cond c (pure true) (g ρ)) h
  refine ⟨o, ρ, st, he, hs, h1.mono (fun c st1 q H1 o1 l s1 => ?_) fun _ _ x => x⟩
  have q' := q H1 o1 l s1
  cases c with
  | false => exact iteF q'
  | true => exact iteT (tT_pure q')
theorem pb_not {a : Expr} {pos : Pos} {f : DenB} (ha : PB X E a f) : PB X E (.UnaryOp .Not a pos) (dBNot f) := PT.imp (pt_not ha) fun σ H Q h => by
  obtain ⟨o, ρ, st, he, hs, h1⟩ := tTT_bind (g := fun c _ => pure (!c)) h
  refine ⟨o, ρ, st, he, hs, h1.mono (fun c st1 q H1 o1 l s1 => ?_) fun _ _ x => x⟩
  exact tT_pure (q H1 o1 l s1)
@[simp] def dChain (p p' : D → D → M D) (f g h : Den) : Den := fun ρ => f ρ >>= fun x => g ρ >>= fun y => p x y >>= asB >>= fun c => cond c (h ρ >>= fun z => p' y z) (pure (.bl false))
theorem tD_chain {p p' : D → D → M D} {f g k : Den} {σ : L2.St} {Q : VK} (h : tD K E (dChain p p' f g k) σ H Q) : tChain (rTwo K E p) (rTwo K E p') (tD K E f) (tD K E g) (tD K E k) σ H Q := by
  obtain ⟨o, ρ, st, he, hs, h⟩ := h
  refine ⟨o, ρ, st, he, hs, ?_⟩
  refine (wpR.bind.mp h).mono (fun x st1 h1 v H1 o1 l1 s1 r1 => ⟨o1, ρ, st1, he.mono l1.rep, s1, ?_⟩) fun _ _ x => x
  refine (wpR.bind.mp h1).mono (fun y st2 h2 w H2 o2 l2 s2 r2 => ⟨x, y, o2, st2, Rep.mono l2 _ _ r1, r2, s2, ?_⟩) fun _ _ x => x.mono l1
  refine (wpR.bind.mp (wpR.bind.mp h2)).mono (fun z st3 h3 u H3 o3 l3 s3 r3 => ?_) fun _ _ x => (x.mono l1).mono l2
  cases z with
  | bl c =>
    refine ⟨c, r3, ?_⟩
    have h4 : wpR ((cond c (k ρ >>= fun z => p' y z) (pure (.bl false))) st3) (VOk K H3 o3 Q) (XOk K E H3 o3) := wpR.mono h3 (fun _ _ x => ((x.mono l1).mono l2).mono l3) fun _ _ x => ((x.mono l1).mono l2).mono l3
    cases c with
    | false =>
      rw [if_neg Bool.false_ne_true]
      exact h4 (.bl false) H3 o3 (Le.refl _ _) s3 rfl
    | true =>
      rw [if_pos rfl]
      refine ⟨o3, ρ, st3, ((he.mono l1.rep).mono l2.rep).mono l3.rep, s3, ?_⟩
      refine (wpR.bind.mp h4).mono (fun zz st4 h5 w4 H4 o4 l4 s4 r4 => ⟨y, zz, o4, st4, Rep.mono l4 _ _ (Rep.mono l3 _ _ r2), r4, s4, ?_⟩) fun _ _ x => x
      exact wpR.mono h5 (fun _ _ x => x.mono l4) fun _ _ x => x.mono l4
  | _ => exact False.elim h3
theorem pd_chain {op op' : CmpOp} {p p' : D → D → M D} {a b c : Expr} {f g k : Den} {pos : Pos} (h1 : OpD X E (compareOp op) p) (h2 : OpD X E (compareOp op') p') (ha : PD X E a f) (hb : PD X E b g) (hc : PD X E c k)
    (hm : lastMarks [op, op'] [b, c] = false) : PD X E (.Compare a [op, op'] [b, c] pos) (dChain p p' f g k) := PE.imp (pe_chain h1 h2 ha hb hc hm) fun _ _ _ h => tD_chain h
theorem pb_chain {op op' : CmpOp} {p p' : D → D → M D} {a b c : Expr} {f g k : Den} {pos : Pos} (h1 : OpD X E (compareOp op) p) (h2 : OpD X E (compareOp op') p') (ha : PD X E a f) (hb : PD X E b g) (hc : PD X E c k)
    (hm : lastMarks [op, op'] [b, c] = false) : PB X E (.Compare a [op, op'] [b, c] pos) (fun ρ => dChain p p' f g k ρ >>= asB) := PT.imp (pt_chain h1 h2 ha hb hc hm) fun _ _ _ h => tD_chain (tT_of h)

/-! ## calls -/
@[simp] def dCall (p : List D → M D) (fs : DenL) : Den := fun ρ => fs ρ >>= p
theorem pd_callB {id : String} {x : Str} {p : List D → M D} {e : Expr} {es : List Expr} {fs : DenL} {pn pos : Pos} (hc : CallD X E (.builtin id) p) (hg : Gl X x) (hm : X.mg x = none) (hv : bootBuiltins x = some (.builtin id)) (ha : PL X E (e :: es) fs)
    (hn : x ≠ "__name__") (hdb : (x == ("__debug__" : Str)) = false) (he : starEach (e :: es) X.env = (false, eval e X.env) :: starEach es X.env) (hpl : (backTo pos (starEach es X.env)).any (·.1) = false) :
    PD X E (.Call (.Name x pn) (e :: es) [] pos) (dCall p fs) := PE.imp (pe_callB hc hg hm hv ha hn hdb he hpl) fun _ _ _ h => tD_lst h
theorem pd_callTy {T : String} {x : Str} {p : List D → M D} {e : Expr} {es : List Expr} {fs : DenL} {pn pos : Pos} (hc : CallD X E (.type T) p) (hg : Gl X x) (hm : X.mg x = none) (hv : bootBuiltins x = some (.type T)) (ha : PL X E (e :: es) fs)
    (hn : x ≠ "__name__") (hdb : (x == ("__debug__" : Str)) = false) (he : starEach (e :: es) X.env = (false, eval e X.env) :: starEach es X.env) (hpl : (backTo pos (starEach es X.env)).any (·.1) = false) :
    PD X E (.Call (.Name x pn) (e :: es) [] pos) (dCall p fs) := PE.imp (pe_callTy hc hg hm hv ha hn hdb he hpl) fun _ _ _ h => tD_lst h
/-- the promise of a def by its meaning on data -/
def spD (K : Frag) (np : Nat) (p : List D → M D) : Sp := fun vs H Q E => ∃ o ds st, Reps K H o ds vs ∧ ds.length = np ∧ StOk K H o st ∧ wpR (p ds st) (VOk K H o Q) (XOk K E H o)
@[simp] def arity (np : Nat) (p : List D → M D) : List D → M D := fun ds => bif ds.length == np then p ds else M.stuck
theorem tD_call {np : Nat} {p : List D → M D} {fs : DenL} {σ : L2.St} {Q : VK} (h : tD K E (dCall (arity np p) fs) σ H Q) : tCall (spD K np p) [] E (tL K E fs) σ H Q := by
  obtain ⟨o, ρ, st, he, hs, h⟩ := h
  refine ⟨o, ρ, st, he, hs, ?_⟩
  refine (wpR.bind.mp h).mono (fun ds st1 h1 vs H1 o1 l s1 r => ?_) fun _ _ x => x
  have h2 : wpR ((bif ds.length == np then p ds else M.stuck) st1) (VOk K H o Q) (XOk K E H o) := h1
  cases q : ds.length == np with
  | false => rw [q] at h2; exact False.elim h2
  | true =>
    rw [q] at h2
    exact ⟨o1, ds, st1, by rw [List.append_nil]; exact r, eq_of_beq q, s1, wpR.mono h2 (fun _ _ x => x.mono l) fun _ _ x => x.mono l⟩
theorem pd_call {k np : Nat} {f : Addr} {fd : FuncData} {ps : List Str} {x : Str} {p : List D → M D} {e : Expr} {es : List Expr} {fs : DenL} {pn pos : Pos} (F : FnOk X.prog X.w X.K X.mg X.base (L2.CX X.prog X.w) k f fd ps (spD X.K np p)) (hr : Room k X.A) (hg : Gl X x) (hm : X.mg x = some (.ref f))
    (hk : PySem.W.keepIn X.K (.ref f) = true) (hb : Binds X.K fd ps []) (hx : Passes (L2.CX X.prog X.w) X E) (ha : PL X E (e :: es) fs) (hdb : (x == ("__debug__" : Str)) = false) (he : starEach (e :: es) X.env = (false, eval e X.env) :: starEach es X.env) (hpl : (backTo pos (starEach es X.env)).any (·.1) = false) :
    PD X E (.Call (.Name x pn) (e :: es) [] pos) (dCall (arity np p) fs) := PE.imp (pe_call F hr hg hm hk hb .nil hx ha hdb he hpl) fun _ _ _ h => tD_call h
theorem pd_call0 {k np : Nat} {f : Addr} {fd : FuncData} {ps : List Str} {x : Str} {p : List D → M D} {pn pos : Pos} (F : FnOk X.prog X.w X.K X.mg X.base (L2.CX X.prog X.w) k f fd ps (spD X.K np p)) (hr : Room k X.A) (hg : Gl X x) (hm : X.mg x = some (.ref f))
    (hk : PySem.W.keepIn X.K (.ref f) = true) (hb : Binds X.K fd ps []) (hx : Passes (L2.CX X.prog X.w) X E) (hdb : (x == ("__debug__" : Str)) = false) :
    PD X E (.Call (.Name x pn) [] [] pos) (dCall (arity np p) dNil) := PE.imp (pe_call0 F hr hg hm hk hb .nil hx hdb) fun σ H Q h => by
  obtain ⟨o, ρ, st, he, hs, h1⟩ := tD_call h
  exact h1 [] H o (Le.refl _ _) hs rfl
end
end MP

namespace MP
open PySem L2
open PySem.Spec PyProof.Rows
inductive Fl where
  | nx (ρ : Env) | rt (d : D) | bk (ρ : Env) | ct (ρ : Env)
abbrev DenS := Env → M Fl
section
variable {K : Frag} {E : XK} {H H' : Hp} {o o' : Lo} {st : Store} {X : Cx}
def EOk (K : Frag) (H : Hp) (o : Lo) (Q : L2.St → Hp → Prop) (ρ : Env) (st : Store) : Prop := ∀ σ' H' o', Le H o H' o' → StOk K H' o' st → EnvOk K H' o' ρ σ' → Q σ' H'
theorem EOk.mono {Q : L2.St → Hp → Prop} {ρ : Env} (x : EOk K H o Q ρ st) (l : Le H o H' o') : EOk K H' o' Q ρ st := fun σ H2 o2 l2 => x σ H2 o2 (l.trans l2)
def FOk (K : Frag) (H : Hp) (o : Lo) (D : Ends) : Fl → Store → Prop
  | .nx ρ, st => EOk K H o D.nx ρ st
  | .rt d, st => VOk K H o D.rt d st
  | .bk ρ, st => EOk K H o D.bk ρ st
  | .ct ρ, st => EOk K H o D.ct ρ st
theorem FOk.mono {D : Ends} {f : Fl} (x : FOk K H o D f st) (l : Le H o H' o') : FOk K H' o' D f st := by
  cases f with
  | nx ρ => exact EOk.mono x l
  | rt d => exact VOk.mono x l
  | bk ρ => exact EOk.mono x l
  | ct ρ => exact EOk.mono x l
def tS (K : Frag) (E : XK) (f : DenS) : TS := fun D σ H => ∃ o ρ st, EnvOk K H o ρ σ ∧ StOk K H o st ∧ wpR (f ρ st) (FOk K H o D) (XOk K E H o)
abbrev PDS (X : Cx) (E : XK) (s : Stmt) (f : DenS) : Prop := PS X s (tS X.K E f)
abbrev PDSs (X : Cx) (E : XK) (s : List Stmt) (f : DenS) : Prop := PSs X s (tS X.K E f)
theorem PS.imp {s : Stmt} {t t' : TS} (h : PS X s t) (m : ∀ D σ H, t' D σ H → t D σ H) : PS X s t' := ⟨fun pins s σ H D I q => h.run pins s σ H D I (m D σ H q)⟩
theorem PSs.imp {s : List Stmt} {t t' : TS} (h : PSs X s t) (m : ∀ D σ H, t' D σ H → t D σ H) : PSs X s t' := ⟨fun pins s σ H D I q => h.run pins s σ H D I (m D σ H q)⟩

@[simp] def dSkip : DenS := fun ρ => pure (.nx ρ)
def dSeq (f g : DenS) : DenS := fun ρ => f ρ >>= fun r => match r with
  | .nx ρ' => g ρ'
  | .rt d => pure (.rt d)
  | .bk ρ' => pure (.bk ρ')
  | .ct ρ' => pure (.ct ρ')
theorem ds_nil : PDSs X E [] dSkip := PSs.imp pss_nil fun D σ H h => by
  obtain ⟨o, ρ, st, he, hs, h⟩ := h
  exact h σ H o (Le.refl _ _) hs he
theorem tS_seq {f g : DenS} {D : Ends} {σ : L2.St} (h : tS K E (dSeq f g) D σ H) : tSeq (tS K E f) (tS K E g) D σ H := by
  obtain ⟨o, ρ, st, he, hs, h⟩ := h
  refine ⟨o, ρ, st, he, hs, ?_⟩
  refine (wpR.bind.mp h).mono (fun r st1 h1 => ?_) fun _ _ x => x
  cases r with
  | nx ρ' => exact fun σ' H1 o1 l s1 e1 => ⟨o1, ρ', st1, e1, s1, wpR.mono h1 (fun _ _ x => x.mono l) fun _ _ x => x.mono l⟩
  | rt d => exact h1
  | bk ρ' => exact h1
  | ct ρ' => exact h1
theorem ds_cons {s : Stmt} {ss : List Stmt} {f g : DenS} (h1 : PDS X E s f) (h2 : PDSs X E ss g) : PDSs X E (s :: ss) (dSeq f g) := PSs.imp (pss_cons h1 h2) fun _ _ _ h => tS_seq h
theorem ds_one {s : Stmt} {f : DenS} (h1 : PDS X E s f) : PDSs X E [s] f := pss_one h1
def dBreak : DenS := fun ρ => pure (.bk ρ)
def dCont : DenS := fun ρ => pure (.ct ρ)
theorem dp_pass {pos : Pos} : PDS X E (.Pass pos) dSkip := PS.imp ps_pass fun D σ H h => by
  obtain ⟨o, ρ, st, he, hs, h⟩ := h
  exact h σ H o (Le.refl _ _) hs he
theorem dp_break {pos : Pos} : PDS X E (.Break pos) dBreak := PS.imp ps_break fun D σ H h => by
  obtain ⟨o, ρ, st, he, hs, h⟩ := h
  exact h σ H o (Le.refl _ _) hs he
theorem dp_cont {pos : Pos} : PDS X E (.Continue pos) dCont := PS.imp ps_continue fun D σ H h => by
  obtain ⟨o, ρ, st, he, hs, h⟩ := h
  exact h σ H o (Le.refl _ _) hs he
theorem dp_doc {x : Str} {j : Nat} {pos pos' : Pos} : PDS X E (.Expr (.Constant (.str x) j pos) pos') dSkip := PS.imp ps_doc fun D σ H h => by
  obtain ⟨o, ρ, st, he, hs, h⟩ := h
  exact h σ H o (Le.refl _ _) hs he
def dRet (f : Den) : DenS := fun ρ => f ρ >>= fun d => pure (.rt d)
theorem dp_ret {e : Expr} {f : Den} {pos : Pos} (h : PD X E e f) : PDS X E (.Return (some e) pos) (dRet f) := PS.imp (ps_ret h) fun D σ H h => by
  obtain ⟨o, ρ, st, he, hs, h⟩ := h
  refine ⟨o, ρ, st, he, hs, ?_⟩
  exact (wpR.bind.mp h).mono (fun d st1 h1 => h1) fun _ _ x => x
def dRetN : DenS := fun _ => pure (.rt .non)
theorem dp_retN {pos : Pos} : PDS X E (.Return none pos) dRetN := PS.imp ps_retN fun D σ H h => by
  obtain ⟨o, ρ, st, he, hs, h⟩ := h
  exact h .non H o (Le.refl _ _) hs rfl
def dExpr (f : Den) : DenS := fun ρ => f ρ >>= fun _ => pure (.nx ρ)
theorem dp_expr {e : Expr} {f : Den} {pos : Pos} (h : PD X E e f) (hs : swapsWith e none pos.line X.env = pure false) : PDS X E (.Expr e pos) (dExpr f) := PS.imp (ps_expr h hs) fun D σ H h => by
  obtain ⟨o, ρ, st, he, hs, h⟩ := h
  refine ⟨o, ρ, st, he, hs, ?_⟩
  exact (wpR.bind.mp h).mono (fun d st1 h1 v H1 o1 l s1 r => h1 σ H1 o1 l s1 (he.mono l.rep)) fun _ _ x => x
def dIfS (c : DenB) (f g : DenS) : DenS := fun ρ => c ρ >>= fun b => cond b (f ρ) (g ρ)
theorem dp_if {c : Expr} {a b : List Stmt} {fc : DenB} {f g : DenS} {pos : Pos} (hc : PB X E c fc) (ha : PDSs X E a f) (hb : PDSs X E b g) : PDS X E (.If c a b pos) (dIfS fc f g) := PS.imp (ps_if hc ha hb) fun D σ H h => by
  obtain ⟨o, ρ, st, he, hs, h⟩ := h
  refine ⟨o, ρ, st, he, hs, ?_⟩
  refine (wpR.bind.mp h).mono (fun b st1 h1 H1 o1 l s1 => ?_) fun _ _ x => x
  cases b with
  | true => exact iteT ⟨o1, ρ, st1, he.mono l.rep, s1, wpR.mono h1 (fun _ _ x => x.mono l) fun _ _ x => x.mono l⟩
  | false => exact iteF ⟨o1, ρ, st1, he.mono l.rep, s1, wpR.mono h1 (fun _ _ x => x.mono l) fun _ _ x => x.mono l⟩

/-! ## targets -/
abbrev DenG := D → Env → M Env
def tG (K : Frag) (E : XK) (f : DenG) : TG := fun v σ H Q => ∃ o ρ st d, EnvOk K H o ρ σ ∧ StOk K H o st ∧ Rep K H o d v ∧ wpR (f d ρ st) (EOk K H o Q) (XOk K E H o)
abbrev DenGs := List D → Env → M Env
def tGs (K : Frag) (E : XK) (f : DenGs) : TGs := fun vs σ H Q => ∃ o ρ st ds, EnvOk K H o ρ σ ∧ StOk K H o st ∧ Reps K H o ds vs ∧ wpR (f ds ρ st) (EOk K H o Q) (XOk K E H o)
abbrev PDG (X : Cx) (E : XK) (e : Expr) (f : DenG) : Prop := PG X e (tG X.K E f)
abbrev PDGs (X : Cx) (E : XK) (e : List Expr) (f : DenGs) : Prop := PGs X e (tGs X.K E f)
theorem PG.imp {e : Expr} {t t' : TG} (h : PG X e t) (m : ∀ v σ H Q, t' v σ H Q → t v σ H Q) : PG X e t' := ⟨fun pins s σ H v u Q I r q => h.run pins s σ H v u Q I r (m v σ H Q q)⟩
theorem PGs.imp {e : List Expr} {t t' : TGs} (h : PGs X e t) (m : ∀ v σ H Q, t' v σ H Q → t v σ H Q) : PGs X e t' := ⟨fun pins s σ H v u Q I r q => h.run pins s σ H v u Q I r (m v σ H Q q)⟩
@[simp] def gSet (i : Nat) : DenG := fun d ρ => pure (ρ.set i (some d))
theorem dg_name {i : Nat} {x : Str} {pos : Pos} (hN : X.N.Nodup) (hi : X.N[i]? = some x) (hx : Loc X.env.scope x) (hf : X.fn x = true ∨ X.env.scope.names.lookup x = some .local) : PDG X E (.Name x pos) (gSet i) := PG.imp (pg_name hN hi hx hf) fun v σ H Q h => by
  obtain ⟨o, ρ, st, d, he, hs, r, h⟩ := h
  exact h _ H o (Le.refl _ _) hs (he.set i r)
def gsNil : DenGs := fun ds ρ => match ds with
  | [] => pure ρ
  | _ => M.stuck
def gsCons (f : DenG) (g : DenGs) : DenGs := fun ds ρ => match ds with
  | d :: ds => f d ρ >>= fun ρ' => g ds ρ'
  | [] => M.stuck
theorem dgs_nil : PDGs X E [] gsNil := PGs.imp pgs_nil fun v σ H Q h => by
  obtain ⟨o, ρ, st, ds, he, hs, r, h⟩ := h
  cases ds with
  | nil => exact ⟨r, h σ H o (Le.refl _ _) hs he⟩
  | cons _ _ => exact False.elim h
theorem dgs_cons {e : Expr} {es : List Expr} {f : DenG} {g : DenGs} (h1 : PDG X E e f) (h2 : PDGs X E es g) (hs : (assignEach (e :: es) X.env).map (·.2) = assign e X.env :: (assignEach es X.env).map (·.2)) : PDGs X E (e :: es) (gsCons f g) :=
  PGs.imp (pgs_cons h1 h2 hs) fun v σ H Q h => by
    obtain ⟨o, ρ, st, ds, he, hs, r, h⟩ := h
    cases ds with
    | nil => exact False.elim h
    | cons d ds =>
      obtain ⟨v, vs, rfl, r1, r2⟩ := r
      refine ⟨v, vs, rfl, o, ρ, st, d, he, hs, r1, ?_⟩
      refine (wpR.bind.mp h).mono (fun ρ' st1 h1 σ' H1 o1 l s1 e1 => ⟨o1, ρ', st1, ds, e1, s1, l.rep.reps r2, ?_⟩) fun _ _ x => x
      exact wpR.mono h1 (fun _ _ x => x.mono l) fun _ _ x => x.mono l
def gTupD (n : Nat) (g : DenGs) : DenG := fun d ρ => match d with
  | .tup ds => bif ds.length == n then g ds ρ else M.stuck
  | _ => M.stuck
theorem dg_tup {es : List Expr} {k n : Nat} {g : DenGs} {pos : Pos} (hc : X.calm = true) (h : PDGs X E es g) (hn : (assignEach es X.env).length = n) (hst : (assignEach es X.env).findIdx? (·.1) = none) : PDG X E (.Tuple es k pos) (gTupD n g) :=
  PG.imp (pg_tup hc h hn hst) fun v σ H Q h => by
    obtain ⟨o, ρ, st, d, he, hs, r, h⟩ := h
    cases d with
    | tup ds =>
      obtain ⟨a, xs, rfl, k1, q1⟩ := r
      have h' : wpR ((bif ds.length == n then g ds ρ else M.stuck) st) (EOk X.K H o Q) (XOk X.K E H o) := h
      cases q : ds.length == n with
      | false => rw [q] at h'; exact False.elim h'
      | true =>
        rw [q] at h'
        exact ⟨a, xs, rfl, tup_sq k1, by rw [q1.length]; exact eq_of_beq q, o, ρ, st, ds, he, hs, q1, h'⟩
    | _ => exact False.elim h
def dAsg (f : Den) (g : DenG) : DenS := fun ρ => f ρ >>= fun d => g d ρ >>= fun ρ' => pure (.nx ρ')
theorem tS_asg {f : Den} {g : DenG} {D : Ends} {σ : L2.St} (h : tS K E (dAsg f g) D σ H) : tAsg (tD K E f) (tG K E g) D σ H := by
  obtain ⟨o, ρ, st, he, hs, h⟩ := h
  refine ⟨o, ρ, st, he, hs, ?_⟩
  refine (wpR.bind.mp h).mono (fun d st1 h1 v H1 o1 l s1 r => ⟨o1, ρ, st1, d, he.mono l.rep, s1, r, ?_⟩) fun _ _ x => x
  refine (wpR.bind.mp h1).mono (fun ρ' st2 h2 => ?_) fun _ _ x => x.mono l
  exact EOk.mono h2 l
theorem dp_asg {tg e : Expr} {f : Den} {g : DenG} {pos : Pos} (he : PD X E e f) (hg : PDG X E tg g) (hs : swapsWithSole [tg] e pos.line X.env = pure false) (hw : swappedStores [tg] e X.env = pure none)
    (h1 : (assignEach [tg] X.env).map (·.2) = [assign tg X.env]) : PDS X E (.Assign [tg] e pos) (dAsg f g) := PS.imp (ps_asg he hg hs hw h1) fun _ _ _ h => tS_asg h
theorem dp_set {i : Nat} {x : Str} {e : Expr} {f : Den} {pos' pos : Pos} (hN : X.N.Nodup) (hi : X.N[i]? = some x) (hx : Loc X.env.scope x) (he : PD X E e f) (hs : swapsWith e (some (.Name x pos')) pos.line X.env = pure false) (hf : X.fn x = true ∨ X.env.scope.names.lookup x = some .local) :
    PDS X E (.Assign [.Name x pos'] e pos) (dAsg f (gSet i)) := PS.imp (ps_set hN hi hx he hs hf) fun D σ H h => by
  obtain ⟨o, ρ, st, he, hs, h⟩ := h
  refine ⟨o, ρ, st, he, hs, ?_⟩
  exact (wpR.bind.mp h).mono (fun d st1 h1 v H1 o1 l s1 r => (show EOk X.K H o D.nx (ρ.set i (some d)) st1 from h1) _ H1 o1 l s1 ((he.mono l.rep).set i r)) fun _ _ x => x

/-! ## what is walked -/
abbrev DenI := Env → M (List D)
def Gr (H H' : Hp) : Prop := H' = H ∨ ∃ p u, H p = none ∧ H' = upd H p u
theorem Gr.le (g : Gr H H') : Le H o H' o := by
  rcases g with rfl | ⟨p, u, h, rfl⟩
  · exact Le.refl _ _
  · exact Le.new h
theorem Gr.stOk (g : Gr H H') (s : StOk K H o st) : StOk K H' o st := by
  rcases g with rfl | ⟨p, u, h, rfl⟩
  · exact s
  · exact s.new h
def Walks (K : Frag) (H0 : Hp) (o0 : Lo) (J : It) (ds : List D) : Prop := ∀ H o st, LeR K H0 o0 H o → StOk K H o st →
  J.stop ds.length H ∧ ∀ (i : Nat) (d : D), ds[i]? = some d → J.go i H ∧ ∀ x H', J.yld i H x H' → Gr H H' ∧ Rep K H' o d x
def IOk (K : Frag) (H : Hp) (o : Lo) (R : It → Hp → Prop) (ds : List D) (st : Store) : Prop := ∀ J H' o', Le H o H' o' → StOk K H' o' st → Walks K H' o' J ds → R J H'
def tI (K : Frag) (E : XK) (f : DenI) : TI := fun σ H R => ∃ o ρ st, EnvOk K H o ρ σ ∧ StOk K H o st ∧ wpR (f ρ st) (IOk K H o R) (XOk K E H o)
abbrev PDI (X : Cx) (E : XK) (tg e : Expr) (f : DenI) : Prop := PI X tg e (tI X.K E f)
theorem PI.imp {tg e : Expr} {t t' : TI} (h : PI X tg e t) (m : ∀ σ H R, t' σ H R → t σ H R) : PI X tg e t' := ⟨fun pins s σ H R I q => h.run pins s σ H R I (m σ H R q)⟩
theorem PI.or {tg e : Expr} {t t' : TI} (h : PI X tg e t) (h' : PI X tg e t') : PI X tg e (fun σ H R => t σ H R ∨ t' σ H R) := ⟨fun pins s σ H R I q => q.elim (h.run pins s σ H R I) (h'.run pins s σ H R I)⟩
theorem walks_list {a : Addr} {xs : List V} {ds : List D} (h : H a = some (.lst xs)) (av : o.av a) (r : Reps K H o ds xs) : Walks K H o (Itl K a) ds := fun H1 o1 st1 l s1 => by
  obtain ⟨b, ys, e, h1, _, r1⟩ := l (.lst ds) (.ref a) ⟨a, xs, rfl, h, av, r⟩
  cases e
  refine ⟨⟨ys, SqL.of h1, by rw [r1.length]; exact Nat.le_refl _⟩, fun i d hd => ?_⟩
  obtain ⟨v, hv, rv⟩ := r1.get hd
  refine ⟨⟨ys, v, SqL.of h1, hv⟩, fun x H2 y => ?_⟩
  obtain ⟨rfl, y⟩ := y
  have e2 := y ys (SqL.of h1)
  rw [hv] at e2; cases e2
  exact ⟨.inl rfl, rv⟩
theorem walks_tup {v : V} {ds : List D} (r : Rep K H o (.tup ds) v) : ∃ a xs, v = .ref a ∧ SqT K H a xs ∧ Walks K H o (Itt K a) ds := by
  obtain ⟨a, xs, rfl, k, q⟩ := id r
  refine ⟨a, xs, rfl, tup_sq k, fun H1 o1 st1 l s1 => ?_⟩
  obtain ⟨b, ys, e, h1, r1⟩ := l (.tup ds) (.ref a) r
  cases e
  have sq := tup_sq h1
  refine ⟨⟨ys, sq, by rw [r1.length]; exact Nat.le_refl _⟩, fun i d hd => ?_⟩
  obtain ⟨v, hv, rv⟩ := r1.get hd
  refine ⟨⟨ys, v, sq, hv⟩, fun x H2 y => ?_⟩
  obtain ⟨rfl, y⟩ := y
  have e2 := y ys sq
  rw [hv] at e2; cases e2
  exact ⟨.inl rfl, rv⟩
/-- a value that is walked: a list, a tuple -/
def itemsOf : D → M (List D)
  | .lst ds => pure ds
  | .tup ds => pure ds
  | _ => M.stuck
theorem di_val {tg e : Expr} {f : Den} (h : PD X E e f) : PDI X E tg e (fun ρ => f ρ >>= itemsOf) := PI.imp (PI.or (pi_list h) (pi_tup h)) fun σ H R h => by
  obtain ⟨o, ρ, st, he, hs, h⟩ := h
  have h := wpR.bind.mp h
  cases q : f ρ st with
  | stuck => rw [q] at h; exact False.elim h
  | exn e st1 => rw [q] at h; exact .inl ⟨o, ρ, st, he, hs, by rw [q]; exact h⟩
  | ok d st1 =>
    rw [q] at h
    cases d with
    | lst ds =>
      refine .inl ⟨o, ρ, st, he, hs, ?_⟩
      rw [q]
      intro v H1 o1 l s1 r
      obtain ⟨a, xs, rfl, k, av, r1⟩ := r
      exact ⟨a, rfl, ⟨xs, SqL.of k⟩, (show IOk X.K H o R ds st1 from h) _ H1 o1 l s1 (walks_list k av r1)⟩
    | tup ds =>
      refine .inr ⟨o, ρ, st, he, hs, ?_⟩
      rw [q]
      intro v H1 o1 l s1 r
      obtain ⟨a, xs, rfl, k, w⟩ := walks_tup r
      exact ⟨a, rfl, ⟨xs, k⟩, (show IOk X.K H o R ds st1 from h) _ H1 o1 l s1 w⟩
    | _ => exact False.elim h
def rangeL (i j : Int) : List D := (List.range (j - i).toNat).map fun (k : Nat) => D.int (i + (k : Int))
theorem walks_range {lo : Int} {n : Nat} : Walks K H o (Itr lo n) ((List.range n).map fun (k : Nat) => D.int (lo + (k : Int))) := fun H1 o1 st1 l s1 => by
  refine ⟨by show n ≤ _; simp, fun i d hd => ?_⟩
  rw [List.getElem?_map] at hd
  obtain ⟨k, hk, rfl⟩ := Option.map_eq_some_iff.mp hd
  obtain ⟨hi, e⟩ := List.getElem?_eq_some_iff.mp hk
  simp at hi e
  subst e
  refine ⟨hi, fun x H2 y => ?_⟩
  obtain ⟨rfl, rfl⟩ := y
  exact ⟨.inl rfl, rfl⟩
def rng1 : List D → M (List D)
  | [.int j] => bif decide (-(2 ^ 62) ≤ j ∧ j < 2 ^ 62) then pure (rangeL 0 j) else M.stuck
  | _ => M.stuck
def rng2 : List D → M (List D)
  | [.int i, .int j] => bif decide (-(2 ^ 62) ≤ i ∧ i < 2 ^ 62 ∧ -(2 ^ 62) ≤ j ∧ j < 2 ^ 62) then pure (rangeL i j) else M.stuck
  | _ => M.stuck
theorem di_range1 {tg a : Expr} {fs : DenL} {p pos : Pos} (hg : Gl X "range") (hm : X.mg "range" = none) (ha : PL X E [a] fs) (hs : starEach [a] X.env = [(false, eval a X.env)]) : PDI X E tg (.Call (.Name "range" p) [a] [] pos) (fun ρ => fs ρ >>= rng1) :=
  PI.imp (pi_range1 hg hm ha hs) fun σ H R h => by
    obtain ⟨o, ρ, st, he, hs, h⟩ := h
    refine ⟨o, ρ, st, he, hs, ?_⟩
    refine (wpR.bind.mp h).mono (fun ds st1 h1 vs H1 o1 l s1 r => ?_) fun _ _ x => x
    cases ds with
    | nil => exact False.elim h1
    | cons d ds =>
      cases ds with
      | cons _ _ => cases d <;> exact False.elim h1
      | nil =>
        cases d with
        | int j =>
          obtain ⟨v, rfl, rv⟩ := r.one_of
          have h2 : wpR ((bif decide (-(2 ^ 62) ≤ j ∧ j < 2 ^ 62) then (pure (rangeL 0 j) : M (List D)) else M.stuck) st1) (IOk X.K H o R) (XOk X.K E H o) := h1
          cases q : decide (-(2 ^ 62) ≤ j ∧ j < 2 ^ 62) with
          | false => rw [q] at h2; exact False.elim h2
          | true =>
            rw [q] at h2
            obtain ⟨q1, q2⟩ := of_decide_eq_true q
            cases (show v = .int j from rv)
            refine ⟨j, rfl, q1, q2, (show IOk X.K H o R (rangeL 0 j) st1 from h2) _ H1 o1 l s1 ?_⟩
            have w := walks_range (K := X.K) (H := H1) (o := o1) (lo := 0) (n := j.toNat)
            unfold rangeL
            rw [Int.sub_zero]
            exact w
        | _ => exact False.elim h1
theorem di_range2 {tg a b : Expr} {fs : DenL} {p pos : Pos} (hg : Gl X "range") (hm : X.mg "range" = none) (ha : PL X E [a, b] fs) (hs : starEach [a, b] X.env = [(false, eval a X.env), (false, eval b X.env)]) (hs2 : starEach [b] X.env = [(false, eval b X.env)]) : PDI X E tg (.Call (.Name "range" p) [a, b] [] pos) (fun ρ => fs ρ >>= rng2) :=
  PI.imp (pi_range2 hg hm ha hs hs2) fun σ H R h => by
    obtain ⟨o, ρ, st, he, hs, h⟩ := h
    refine ⟨o, ρ, st, he, hs, ?_⟩
    refine (wpR.bind.mp h).mono (fun ds st1 h1 vs H1 o1 l s1 r => ?_) fun _ _ x => x
    match ds, r, h1 with
    | [], _, h1 => exact False.elim h1
    | [d], _, h1 => cases d <;> exact False.elim h1
    | d :: e :: _ :: _, _, h1 => cases d <;> cases e <;> exact False.elim h1
    | [d, e], r, h1 =>
      obtain ⟨v, w, ev, rv, rw'⟩ := r.two_of
      cases d <;> cases e <;> first | exact False.elim h1 | skip
      rename_i i j
      have h2 : wpR ((bif decide (-(2 ^ 62) ≤ i ∧ i < 2 ^ 62 ∧ -(2 ^ 62) ≤ j ∧ j < 2 ^ 62) then (pure (rangeL i j) : M (List D)) else M.stuck) st1) (IOk X.K H o R) (XOk X.K E H o) := h1
      cases q : decide (-(2 ^ 62) ≤ i ∧ i < 2 ^ 62 ∧ -(2 ^ 62) ≤ j ∧ j < 2 ^ 62) with
      | false => rw [q] at h2; exact False.elim h2
      | true =>
        rw [q] at h2
        have e1 : v = .int i := rv
        have e2 : w = .int j := rw'
        subst e1 e2
        exact ⟨i, j, ev, of_decide_eq_true q, (show IOk X.K H o R (rangeL i j) st1 from h2) _ H1 o1 l s1 walks_range⟩

/-! ## for, while -/
def forL (b : D → DenS) : List D → DenS
  | [], ρ => pure (.nx ρ)
  | d :: ds, ρ => b d ρ >>= fun r => match r with
    | .nx ρ' => forL b ds ρ'
    | .ct ρ' => forL b ds ρ'
    | .bk ρ' => pure (.nx ρ')
    | .rt d => pure (.rt d)
def dFor (it : DenI) (g : DenG) (body : DenS) : DenS := fun ρ => it ρ >>= fun ds => forL (fun d ρ => g d ρ >>= body) ds ρ
theorem tS_for {it : DenI} {g : DenG} {body : DenS} {D : Ends} {σ : L2.St} (h : tS K E (dFor it g body) D σ H) : tFor (tI K E it) (tG K E g) (tS K E body) D σ H := by
  obtain ⟨o, ρ, st, he, hs, h⟩ := h
  refine ⟨o, ρ, st, he, hs, ?_⟩
  refine (wpR.bind.mp h).mono (fun ds st1 h1 J H1 o1 l1 s1 w => ?_) fun _ _ x => x
  refine ⟨fun i m σ' H' => m = ds.length - i ∧ i ≤ ds.length ∧ ∃ o' ρ' st', Le H o H' o' ∧ LeR K H1 o1 H' o' ∧ StOk K H' o' st' ∧ EnvOk K H' o' ρ' σ' ∧ wpR (forL (fun d ρ => g d ρ >>= body) (ds.drop i) ρ' st') (FOk K H o D) (XOk K E H o),
    ⟨_, rfl, Nat.zero_le _, o1, ρ, st1, l1, fun _ _ x => x, s1, he.mono l1.rep, h1⟩, ?_⟩
  rintro i m σ' H' ⟨rfl, hi, o', ρ', st', l, lr, s', e', hw⟩
  obtain ⟨w1, w2⟩ := w H' o' st' lr s'
  by_cases hlt : i < ds.length
  · rw [List.drop_eq_getElem_cons hlt] at hw
    obtain ⟨go, yl⟩ := w2 i _ (List.getElem?_eq_getElem hlt)
    refine .inr ⟨go, fun σ2 H2 => ∃ m', m' < ds.length - i ∧ (m' = ds.length - (i + 1) ∧ i + 1 ≤ ds.length ∧ ∃ o' ρ' st', Le H o H2 o' ∧ LeR K H1 o1 H2 o' ∧ StOk K H2 o' st' ∧ EnvOk K H2 o' ρ' σ2 ∧ wpR (forL (fun d ρ => g d ρ >>= body) (ds.drop (i + 1)) ρ' st') (FOk K H o D) (XOk K E H o)), fun _ _ x => x, fun x H2 y => ?_⟩
    obtain ⟨gr, rx⟩ := yl x H2 y
    have l2 : Le H' o' H2 o'   := Gr.le gr
    refine ⟨o', ρ', st', ds[i], e'.mono l2.rep, Gr.stOk gr s', rx, ?_⟩
    have hw2 := wpR.bind.mp (wpR.bind.mp hw)
    have ll := l.trans l2
    refine wpR.mono hw2 (fun ρ2 st2 h2 σ3 H3 o3 l3 s3 e3 => ⟨o3, ρ2, st2, e3, s3, ?_⟩) fun _ _ x => x.mono ll
    have lll := ll.trans l3
    refine wpR.mono h2 (fun r st4 h4 => ?_) fun _ _ x => x.mono lll
    cases r with
    | nx ρ4 => exact fun σ5 H5 o5 l5 s5 e5 => ⟨_, by omega, rfl, by omega, o5, ρ4, st4, lll.trans l5, (lr.trans l2.rep).trans ((l3.trans l5).rep), s5, e5, h4⟩
    | ct ρ4 => exact fun σ5 H5 o5 l5 s5 e5 => ⟨_, by omega, rfl, by omega, o5, ρ4, st4, lll.trans l5, (lr.trans l2.rep).trans ((l3.trans l5).rep), s5, e5, h4⟩
    | bk ρ4 => exact fun σ5 H5 o5 l5 s5 e5 => (show EOk K H o D.nx ρ4 st4 from h4) σ5 H5 o5 (lll.trans l5) s5 e5
    | rt d => exact fun v H5 o5 l5 s5 r5 => (show VOk K H o D.rt d st4 from h4) v H5 o5 (lll.trans l5) s5 r5
  · have e : i = ds.length := by omega
    subst e
    rw [List.drop_length] at hw
    exact .inl ⟨w1, (show EOk K H o D.nx ρ' st' from hw) σ' H' o' l s' e'⟩
theorem dp_for {tg iter : Expr} {body : List Stmt} {it : DenI} {g : DenG} {f : DenS} {pos : Pos} (hp : PassesOwn (model X.prog X.w) X.A X.env X.xe) (hc : X.calm = true) (hi : PDI X E tg iter it) (hg : PDG X E tg g) (hb : PDSs X E body f)
    (hs : ∀ x, foldedSetIterable iter X.env x = pure x) : PDS X E (.For tg iter body [] pos) (dFor it g f) := PS.imp (ps_for hp hc hi hg hb hs) fun _ _ _ h => tS_for h
def whileL (c : DenB) (b : DenS) : Nat → DenS
  | 0, _ => M.stuck
  | n + 1, ρ => c ρ >>= fun t => cond t (b ρ >>= fun r => match r with
    | .nx ρ' => whileL c b n ρ'
    | .ct ρ' => whileL c b n ρ'
    | .bk ρ' => pure (.nx ρ')
    | .rt d => pure (.rt d)) (pure (.nx ρ))
theorem tS_while {c : DenB} {b : DenS} {n : Nat} {D : Ends} {σ : L2.St} (h : tS K E (whileL c b n) D σ H) : tWhile (tT K E c) (tS K E b) D σ H := by
  refine ⟨fun m σ' H' => tS K E (whileL c b m) D σ' H', ⟨n, h⟩, fun m σ' H' hw => ?_⟩
  obtain ⟨o, ρ, st, he, hs, h⟩ := hw
  cases m with
  | zero => exact False.elim h
  | succ m =>
    refine ⟨o, ρ, st, he, hs, ?_⟩
    refine (wpR.bind.mp h).mono (fun t st1 h1 H1 o1 l s1 => ?_) fun _ _ x => x
    cases t with
    | false => exact iteF ((show EOk K H' o D.nx ρ st1 from h1) σ' H1 o1 l s1 (he.mono l.rep))
    | true =>
      refine iteT ⟨fun σ2 H2 => ∃ m', m' < m + 1 ∧ tS K E (whileL c b m') D σ2 H2, fun _ _ x => x, o1, ρ, st1, he.mono l.rep, s1, ?_⟩
      refine (wpR.bind.mp h1).mono (fun r st2 h2 => ?_) fun _ _ x => x.mono l
      cases r with
      | nx ρ2 => exact fun σ3 H3 o3 l3 s3 e3 => ⟨m, Nat.lt_succ_self _, o3, ρ2, st2, e3, s3, wpR.mono h2 (fun _ _ x => x.mono (l.trans l3)) fun _ _ x => x.mono (l.trans l3)⟩
      | ct ρ2 => exact fun σ3 H3 o3 l3 s3 e3 => ⟨m, Nat.lt_succ_self _, o3, ρ2, st2, e3, s3, wpR.mono h2 (fun _ _ x => x.mono (l.trans l3)) fun _ _ x => x.mono (l.trans l3)⟩
      | bk ρ2 => exact EOk.mono h2 l
      | rt d => exact VOk.mono h2 l
theorem dp_while {c : Expr} {body : List Stmt} {fc : DenB} {f : DenS} {pos : Pos} (n : Nat) (hp : PassesOwn (model X.prog X.w) X.A X.env X.xe) (hc : PB X E c fc) (hb : PDSs X E body f) : PDS X E (.While c body [] pos) (whileL fc f n) :=
  PS.imp (ps_while hp hc hb) fun _ _ _ h => tS_while h
end
end MP

namespace MP
open PySem L2
open PySem.Spec PyProof.Rows

/-! ## targets that are names, or tuples of such -/
inductive Tg where
  | nm (i : Nat) | tup (ts : List Tg)
mutual
def Tg.g (K : Frag) : Tg → TG
  | .nm i => gName i
  | .tup ts => gTup K ts.length (Tgs.g K ts)
def Tgs.g (K : Frag) : List Tg → TGs
  | [] => gNil
  | t :: ts => gCons (t.g K) (Tgs.g K ts)
end
mutual
def Tg.bind : Tg → D → Env → Option Env
  | .nm i, d, ρ => some (ρ.set i (some d))
  | .tup ts, .tup ds, ρ => bif ds.length == ts.length then Tgs.bind ts ds ρ else none
  | .tup _, _, _ => none
def Tgs.bind : List Tg → List D → Env → Option Env
  | [], [], ρ => some ρ
  | t :: ts, d :: ds, ρ => (t.bind d ρ).bind fun ρ' => Tgs.bind ts ds ρ'
  | _, _, _ => none
end
mutual
def Tg.slots : Tg → List Nat
  | .nm i => [i]
  | .tup ts => Tgs.slots ts
def Tgs.slots : List Tg → List Nat
  | [] => []
  | t :: ts => t.slots ++ Tgs.slots ts
end
theorem wipe_get (σ : L2.St) : ∀ (vs : List Nat) (j : Nat), (wipe σ vs)[j]? = if j ∈ vs then (σ[j]?).map (fun _ => none) else σ[j]?
  | [], j => by simp [wipe]
  | v :: vs, j => by
    unfold wipe
    by_cases h : v = j
    · subst h
      by_cases hl : v < σ.length
      · rw [List.getElem?_set_self (by rw [wipe_length]; exact hl)]
        simp [List.getElem?_eq_getElem hl]
      · rw [List.getElem?_eq_none (by rw [List.length_set, wipe_length]; omega), List.getElem?_eq_none (by omega)]
        simp
    · rw [List.getElem?_set_ne h, wipe_get σ vs j]
      have : j ≠ v := Ne.symm h
      simp [this]
theorem wipe_ext {σ σ' : L2.St} {vs : List Nat} (hl : σ'.length = σ.length) (h : ∀ j, j ∉ vs → σ'[j]? = σ[j]?) : wipe σ' vs = wipe σ vs := by
  apply List.ext_getElem?
  intro j
  rw [wipe_get, wipe_get]
  by_cases hj : j ∈ vs
  · rw [if_pos hj, if_pos hj]
    by_cases hb : j < σ.length
    · rw [List.getElem?_eq_getElem hb, List.getElem?_eq_getElem (by rw [hl]; exact hb)]; rfl
    · rw [List.getElem?_eq_none (by omega), List.getElem?_eq_none (by omega)]
  · rw [if_neg hj, if_neg hj, h j hj]
theorem wipe_wipe (σ : L2.St) (vs : List Nat) : wipe (wipe σ vs) vs = wipe σ vs :=
  wipe_ext (wipe_length σ vs) fun j hj => by rw [wipe_get, if_neg hj]
section
variable {K : Frag} {E : XK} {H H' : Hp} {o o' : Lo} {st : Store} {X : Cx}
def Keeps (vs : List Nat) (σ σ' : L2.St) : Prop := σ'.length = σ.length ∧ ∀ j, j ∉ vs → σ'[j]? = σ[j]?
mutual
theorem Tg.ok : ∀ (t : Tg) {d : D} {v : V} {ρ ρ' : Env} {σ : L2.St} {Q : L2.St → Hp → Prop}, Rep K H o d v → t.bind d ρ = some ρ' → EnvOk K H o ρ σ → (∀ σ', EnvOk K H o ρ' σ' → Keeps t.slots σ σ' → Q σ' H) → t.g K v σ H Q
  | .nm i, d, v, ρ, ρ', σ, Q, r, e, he, h => by
    have e' : some (ρ.set i (some d)) = some ρ' := by simpa [Tg.bind] using e
    cases e'
    have q := h (σ.set i (some v)) (he.set i r) ⟨by simp, fun j hj => List.getElem?_set_ne (by simpa [Tg.slots, eq_comm] using hj)⟩
    simpa [Tg.g, gName] using q
  | .tup ts, d, v, ρ, ρ', σ, Q, r, e, he, h => by
    cases d with
    | tup ds =>
      obtain ⟨a, xs, rfl, k, q⟩ := r
      have e' : (bif ds.length == ts.length then Tgs.bind ts ds ρ else none) = some ρ' := by simpa [Tg.bind] using e
      cases hl : ds.length == ts.length with
      | false => rw [hl] at e'; cases e'
      | true =>
        rw [hl] at e'
        have z : Tgs.g K ts xs σ H Q := Tgs.ok ts q e' he (by simpa [Tg.slots] using h)
        have : gTup K ts.length (Tgs.g K ts) (.ref a) σ H Q := ⟨a, xs, rfl, tup_sq k, by rw [q.length]; exact eq_of_beq hl, z⟩
        simpa [Tg.g] using this
    | _ => simp [Tg.bind] at e
theorem Tgs.ok : ∀ (ts : List Tg) {ds : List D} {vs : List V} {ρ ρ' : Env} {σ : L2.St} {Q : L2.St → Hp → Prop}, Reps K H o ds vs → Tgs.bind ts ds ρ = some ρ' → EnvOk K H o ρ σ → (∀ σ', EnvOk K H o ρ' σ' → Keeps (Tgs.slots ts) σ σ' → Q σ' H) → Tgs.g K ts vs σ H Q
  | [], ds, vs, ρ, ρ', σ, Q, r, e, he, h => by
    cases ds with
    | nil =>
      cases (show vs = [] from r)
      have e' : some ρ = some ρ' := by simpa [Tgs.bind] using e
      cases e'
      have z : gNil [] σ H Q := ⟨rfl, h σ he ⟨rfl, fun _ _ => rfl⟩⟩
      simpa [Tgs.g] using z
    | cons _ _ => simp [Tgs.bind] at e
  | t :: ts, ds, vs, ρ, ρ', σ, Q, r, e, he, h => by
    cases ds with
    | nil => simp [Tgs.bind] at e
    | cons d ds =>
      obtain ⟨v, vs', rfl, r1, r2⟩ := r
      have e' : (t.bind d ρ).bind (fun ρ' => Tgs.bind ts ds ρ') = some ρ' := by simpa [Tgs.bind] using e
      obtain ⟨ρ1, e1, e2⟩ := Option.bind_eq_some_iff.mp e'
      have z : gCons (t.g K) (Tgs.g K ts) (v :: vs') σ H Q := ⟨v, vs', rfl, Tg.ok t r1 e1 he fun σ1 he1 k1 => Tgs.ok ts r2 e2 he1 fun σ2 he2 k2 => h σ2 he2
        ⟨k2.1.trans k1.1, fun j hj => by
          have hj' : j ∉ t.slots ∧ j ∉ Tgs.slots ts := by simpa [Tgs.slots] using hj
          rw [k2.2 j hj'.2, k1.2 j hj'.1]⟩⟩
      simpa [Tgs.g] using z
end
/-- as a target of a for or an assignment -/
def optE : Option Env → M Env
  | some ρ => pure ρ
  | none => M.stuck
def gOf (t : Tg) : DenG := fun d ρ => optE (t.bind d ρ)
theorem dg_of {e : Expr} {t : Tg} (h : PG X e (t.g X.K)) : PDG X E e (gOf t) := PG.imp h fun v σ H Q h => by
  obtain ⟨o, ρ, st, d, he, hs, r, h⟩ := h
  have h' : wpR (optE (t.bind d ρ) st) (EOk X.K H o Q) (XOk X.K E H o) := h
  cases q : t.bind d ρ with
  | none => rw [q] at h'; exact False.elim h'
  | some ρ' =>
    rw [q] at h'
    exact t.ok r q he fun σ' he' _ => h' σ' H o (Le.refl _ _) hs he'
theorem tg_name {i : Nat} {x : Str} {pos : Pos} (hN : X.N.Nodup) (hi : X.N[i]? = some x) (hx : Loc X.env.scope x) (hf : X.fn x = true ∨ X.env.scope.names.lookup x = some .local) : PG X (.Name x pos) ((Tg.nm i).g X.K) := by
  have := pg_name (pos := pos) hN hi hx hf
  simpa [Tg.g] using this
theorem tg_tup {es : List Expr} {ts : List Tg} {k : Nat} {pos : Pos} (hc : X.calm = true) (h : PGs X es (Tgs.g X.K ts)) (hn : (assignEach es X.env).length = ts.length) (hst : (assignEach es X.env).findIdx? (·.1) = none) : PG X (.Tuple es k pos) ((Tg.tup ts).g X.K) := by
  have := pg_tup (k := k) (pos := pos) hc h hn hst
  simpa [Tg.g] using this
theorem tgs_nil : PGs X [] (Tgs.g X.K []) := by simpa [Tgs.g] using (pgs_nil (X := X))
theorem tgs_cons {e : Expr} {es : List Expr} {t : Tg} {ts : List Tg} (h1 : PG X e (t.g X.K)) (h2 : PGs X es (Tgs.g X.K ts)) (hs : (assignEach (e :: es) X.env).map (·.2) = assign e X.env :: (assignEach es X.env).map (·.2)) : PGs X (e :: es) (Tgs.g X.K (t :: ts)) := by
  have := pgs_cons h1 h2 hs
  simpa [Tgs.g] using this

/-! ## comprehensions -/
def wipeE (ρ : Env) : List Nat → Env
  | [] => ρ
  | v :: vs => (wipeE ρ vs).set v none
theorem EnvOk.wipe {ρ : Env} {σ : L2.St} (e : EnvOk K H o ρ σ) : ∀ vs : List Nat, EnvOk K H o (wipeE ρ vs) (L2.wipe σ vs)
  | [] => e
  | v :: vs => (EnvOk.wipe e vs).clear v
def noX {α : Type} (m : M α) : M α := fun st => match m st with
  | .ok a st' => .ok a st'
  | .exn _ _ => .stuck
  | .stuck => .stuck
theorem noX_wp {α : Type} {m : M α} {Q : α → Store → Prop} {Z Z' : Exn → Store → Prop} (h : wpR (noX m st) Q Z) : wpR (m st) Q Z' := by
  have h' : wpR (match m st with | .ok a st' => R.ok a st' | .exn _ _ => .stuck | .stuck => .stuck) Q Z := h
  cases q : m st with
  | ok a st' => rw [q] at h'; exact h'
  | exn e st' => rw [q] at h'; exact False.elim h'
  | stuck => rw [q] at h'; exact False.elim h'
def optB {α : Type} (x : Option Env) (f : Env → M α) : M α := match x with
  | some ρ => f ρ
  | none => M.stuck
def lcL (t : Tg) (c : DenB) (f : Den) (ρ0 : Env) : List D → M (List D)
  | [] => pure []
  | d :: ds => optB (t.bind d ρ0) fun ρ1 => noX (c ρ1) >>= fun b => cond b (noX (f ρ1) >>= fun y => lcL t c f ρ0 ds >>= fun ys => pure (y :: ys)) (lcL t c f ρ0 ds)
def guardL {α : Type} (c : Bool) (m : M α) : M α := bif c then m else M.stuck
theorem guardL_wp {α : Type} {c : Bool} {m : M α} {Q : α → Store → Prop} {Z : Exn → Store → Prop} (h : wpR (guardL c m st) Q Z) : c = true ∧ wpR (m st) Q Z := by
  cases c with
  | true => exact ⟨rfl, h⟩
  | false => exact False.elim h
@[simp] def dLc (it : DenI) (vs : List Nat) (t : Tg) (c : DenB) (f : Den) : Den := fun ρ => it ρ >>= fun ds => guardL (decide (ds.length ≤ big)) (lcL t c f (wipeE ρ vs) ds >>= fun ys => pure (.lst ys))
abbrev EX0 : XK := fun _ _ _ => False
theorem Lc.rewriteNew {p : Addr} {u : HO} {H1 : Hp} {o1 : Lo} (l : Lc H o H1 o1) (h : H p = none) : Lc H o (upd H1 p u) o1 :=
  ⟨fun a w e n => by
    obtain ⟨h1, n1⟩ := l.keep a w e n
    exact ⟨by rw [upd_ne (ne_of_none e h)]; exact h1, n1⟩, l.loc⟩
theorem tD_lc {it : DenI} {vs : List Nat} {t : Tg} {c : DenB} {f : Den} {σ : L2.St} {Q : VK} (hsub : ∀ i ∈ t.slots, i ∈ vs) (h : tD K E (dLc it vs t c f) σ H Q) :
    tLc (tI K E it) (t.g K) (tT K EX0 c) (tD K EX0 f) vs σ H Q := by
  obtain ⟨o, ρ, st, he, hs, h⟩ := h
  refine ⟨o, ρ, st, he, hs, ?_⟩
  refine (wpR.bind.mp h).mono (fun ds st1 h1 J H1 o1 l1 s1 w Dd hD => ?_) fun _ _ x => x
  obtain ⟨hlen, h1⟩ := guardL_wp h1
  have hlen := of_decide_eq_true hlen
  have h1 := wpR.bind.mp h1
  refine ⟨fun i m Hi => m = ds.length - i ∧ i ≤ ds.length ∧ ∃ oi sti accd acc, Lc H1 o1 Hi oi ∧ oi.z = Dd :: o1.z ∧ LeR K (upd H1 Dd (.lst [])) (o1.hold Dd) Hi oi ∧ StOk K Hi oi sti ∧ Hi Dd = some (.lst acc) ∧ some Dd ∉ oi.l ∧ Reps K Hi oi accd acc ∧ accd.length ≤ i ∧
      wpR (lcL t c f (wipeE ρ vs) (ds.drop i) sti) (fun ys st' => VOk K H o Q (.lst (accd ++ ys)) st') (XOk K E H o),
    ⟨_, rfl, Nat.zero_le _, o1.hold Dd, st1, [], [], Lc.hold hD, rfl, fun _ _ x => x, s1.hold hD, upd_same, (s1.avOf hD).1, rfl, Nat.le_refl _, h1⟩, ?_⟩
  rintro i m Hi ⟨rfl, hi, oi, sti, accd, acc, lc, ez, lr, si, eD, nD, ra, la, hw⟩
  have lr0 : LeR K H1 o1 Hi oi := (LeR.hold hD).trans lr
  obtain ⟨w1, w2⟩ := w Hi oi sti lr0 si
  by_cases hlt : i < ds.length
  · rw [List.drop_eq_getElem_cons hlt] at hw
    obtain ⟨go, yl⟩ := w2 i _ (List.getElem?_eq_getElem hlt)
    refine .inr ⟨go, fun H2 => ∃ m', m' < ds.length - i ∧ (m' = ds.length - (i + 1) ∧ i + 1 ≤ ds.length ∧ ∃ oi sti accd acc, Lc H1 o1 H2 oi ∧ oi.z = Dd :: o1.z ∧ LeR K (upd H1 Dd (.lst [])) (o1.hold Dd) H2 oi ∧ StOk K H2 oi sti ∧ H2 Dd = some (.lst acc) ∧ some Dd ∉ oi.l ∧ Reps K H2 oi accd acc ∧ accd.length ≤ i + 1 ∧
      wpR (lcL t c f (wipeE ρ vs) (ds.drop (i + 1)) sti) (fun ys st' => VOk K H o Q (.lst (accd ++ ys)) st') (XOk K E H o)), fun _ x => x, fun x H2 y => ?_⟩
    obtain ⟨gr, rx⟩ := yl x H2 y
    have l2 : Le Hi oi H2 oi := Gr.le gr
    have s2 := Gr.stOk gr si
    have hw' : wpR (optB (t.bind ds[i] (wipeE ρ vs)) (fun ρ1 => noX (c ρ1) >>= fun b => cond b (noX (f ρ1) >>= fun y => lcL t c f (wipeE ρ vs) (ds.drop (i + 1)) >>= fun ys => pure (y :: ys)) (lcL t c f (wipeE ρ vs) (ds.drop (i + 1)))) sti) (fun ys st' => VOk K H o Q (.lst (accd ++ ys)) st') (XOk K E H o) := hw
    cases hb : t.bind ds[i] (wipeE ρ vs) with
    | none => rw [hb] at hw'; exact False.elim hw'
    | some ρ1 =>
      rw [hb] at hw'
      have env0 : EnvOk K H2 oi (wipeE ρ vs) (wipe σ vs) := ((he.mono (l1.rep.trans lr0)).mono l2.rep).wipe vs
      refine t.ok rx hb env0 fun σ2 he2 kp => ?_
      refine ⟨(wipe_ext (kp.1.trans rfl) fun j hj => kp.2 j fun q => hj (hsub j q)).trans (wipe_wipe σ vs), ?_⟩
      have hw2 : wpR ((noX (c ρ1) >>= fun b => cond b (noX (f ρ1) >>= fun y => lcL t c f (wipeE ρ vs) (ds.drop (i + 1)) >>= fun ys => pure (y :: ys)) (lcL t c f (wipeE ρ vs) (ds.drop (i + 1)))) sti) (fun ys st' => VOk K H o Q (.lst (accd ++ ys)) st') (XOk K E H o) := hw'
      refine ⟨oi, ρ1, sti, he2, s2, ?_⟩
      refine wpR.mono (noX_wp (wpR.bind.mp hw2)) (fun b st3 h3 H3 o3 l3 s3 => ?_) fun _ _ x => x
      have lc3 : Lc H1 o1 H3 o3 := (lc.trans l2.toLc).trans l3.toLc
      have lr3 : LeR K Hi oi H3 o3 := l2.rep.trans l3.rep
      have ez3 : o3.z = Dd :: o1.z := l3.z.trans ez
      obtain ⟨eD2, nD2⟩ := l2.keep Dd _ eD nD
      obtain ⟨eD3, nD3⟩ := l3.keep Dd _ eD2 nD2
      cases b with
      | false =>
        exact iteF ⟨_, by omega, rfl, by omega, o3, st3, accd, acc, lc3, ez3, lr.trans lr3, s3, eD3, nD3, lr3.reps ra, Nat.le_succ_of_le la, h3⟩
      | true =>
        refine iteT ⟨o3, ρ1, st3, he2.mono l3.rep, s3, ?_⟩
        have h3' : wpR ((noX (f ρ1) >>= fun y => lcL t c f (wipeE ρ vs) (ds.drop (i + 1)) >>= fun ys => pure (y :: ys)) st3) (fun ys st' => VOk K H o Q (.lst (accd ++ ys)) st') (XOk K E H o) := h3
        refine wpR.mono (noX_wp (wpR.bind.mp h3')) (fun y' st4 h4 v4 H4 o4 l4 s4 r4 => ?_) fun _ _ x => x
        obtain ⟨eD4, nD4⟩ := l4.keep Dd _ eD3 nD3
        have ez4 : o4.z = Dd :: o1.z := l4.z.trans ez3
        have hin : Dd ∈ o4.z := by rw [ez4]; exact List.mem_cons_self
        have al : acc.length = accd.length := ra.length
        refine ⟨acc, eD4, by have := big_lt; omega, _, by omega, rfl, by omega, o4, st4, accd ++ [y'], acc ++ [v4], (lc3.trans l4.toLc).rewriteNew hD, ez4, (((lr.trans lr3).trans l4.rep)).trans (LeR.rewrite hin), s4.rewrite hin, upd_same, nD4,
          (LeR.rewrite hin).reps ((l4.rep.reps (lr3.reps ra)).append (Reps.one r4)), by simp; omega, ?_⟩
        refine (wpR.bind.mp h4).mono (fun ys st5 h5 => ?_) fun _ _ x => x
        have h5' : VOk K H o Q (.lst (accd ++ y' :: ys)) st5 := h5
        rw [List.append_assoc]
        exact h5'
  · have e : i = ds.length := by omega
    subst e
    rw [List.drop_length] at hw
    refine .inl ⟨w1, ?_⟩
    have hw' : VOk K H o Q (.lst (accd ++ [])) sti := hw
    rw [List.append_nil] at hw'
    have hz : ∀ a ∈ o1.z, a ∈ oi.z := fun a ha => by rw [ez]; exact List.mem_cons_of_mem _ ha
    refine hw' (.ref Dd) Hi { oi with z := o1.z } (l1.trans ⟨⟨fun a u e n => lc.keep a u e n, lc.loc⟩, rfl⟩) (si.unhold hz) ⟨Dd, acc, rfl, eD, ⟨nD, fun q => ?_⟩, (LeR.unhold hz).reps ra⟩
    obtain ⟨⟨u, e⟩, _⟩ := s1.zt Dd q
    rw [hD] at e; cases e
theorem pts_nilD : PTs X [] (tT X.K EX0 fun _ => pure true) := ⟨fun pins s σ H Q I h => (pts_nil (X := X)).run pins s σ H Q I (tT_pure h)⟩
theorem pd_lc {elt tg iter : Expr} {ifs : List Expr} {scope : Scope} {own : List (Str × Nat)} {pos : Pos} {it : DenI} {t : Tg} {c : DenB} {f : Den} (hc : X.calm = true) (hN : X.N.Nodup) (hi : PDI X E tg iter it) (ok : BlkOk X.N X.env.scope scope own)
    (hg : ∀ (s : Shared) (H : Hp) (C : Addr) (cl : List (Str × Addr)) (fp : List Addr), PG (X.blk s H scope (compEnvC scope cl C X.env) fp) tg (t.g X.K))
    (ht : ∀ (s : Shared) (H : Hp) (C : Addr) (cl : List (Str × Addr)) (fp : List Addr), PTs (X.blk s H scope (compEnvC scope cl C X.env) fp) ifs (tT X.K EX0 c))
    (he : ∀ (s : Shared) (H : Hp) (C : Addr) (cl : List (Str × Addr)) (fp : List Addr), PE (X.blk s H scope (compEnvC scope cl C X.env) fp) elt (tD X.K EX0 f)) (hs : ∀ x, foldedSetIterable iter X.env x = pure x) (hsub : ∀ i ∈ t.slots, i ∈ own.map (·.2)) :
    PD X E (.ListComp elt [⟨tg, iter, ifs, 0⟩] scope pos) (dLc it (own.map (·.2)) t c f) := PE.imp (pe_lc hc hN hi ok hg ht he hs) fun _ _ _ h => tD_lc hsub h
theorem dp_setLc {i : Nat} {y : Str} {py : Pos} {elt tg iter : Expr} {ifs : List Expr} {scope : Scope} {own : List (Str × Nat)} {pos spos : Pos} {it : DenI} {t : Tg} {c : DenB} {f : Den} (hc : X.calm = true) (hN : X.N.Nodup) (hy : X.N[i]? = some y) (hyl : X.env.scope.names.lookup y = some .local)
    (hsw : swapsWith (.ListComp elt [⟨tg, iter, ifs, 0⟩] scope pos) (some (.Name y py)) spos.line X.env = pure true) (hi : PDI X E tg iter it) (ok : BlkOk X.N X.env.scope scope own)
    (hg : ∀ (s : Shared) (H : Hp) (C : Addr) (cl : List (Str × Addr)) (fp : List Addr), PG (X.blk s H scope (compEnvC scope cl C X.env) fp) tg (t.g X.K))
    (ht : ∀ (s : Shared) (H : Hp) (C : Addr) (cl : List (Str × Addr)) (fp : List Addr), PTs (X.blk s H scope (compEnvC scope cl C X.env) fp) ifs (tT X.K EX0 c))
    (he : ∀ (s : Shared) (H : Hp) (C : Addr) (cl : List (Str × Addr)) (fp : List Addr), PE (X.blk s H scope (compEnvC scope cl C X.env) fp) elt (tD X.K EX0 f)) (hs : ∀ x, foldedSetIterable iter X.env x = pure x) (hsub : ∀ i ∈ t.slots, i ∈ own.map (·.2)) :
    PDS X E (.Assign [.Name y py] (.ListComp elt [⟨tg, iter, ifs, 0⟩] scope pos) spos) (dAsg (dLc it (own.map (·.2)) t c f) (gSet i)) := PS.imp (ps_setLc hc hN hy hyl hsw hi ok hg ht he hs) fun D σ H h => by
  have h1 : tD X.K E (dLc it (own.map (·.2)) t c f) σ H fun v H1 => D.nx (σ.set i (some v)) H1 := by
    obtain ⟨o, ρ, st, he, hs, h⟩ := h
    refine ⟨o, ρ, st, he, hs, ?_⟩
    exact (wpR.bind.mp h).mono (fun d st1 h1 v H1 o1 l s1 r => (show EOk X.K H o D.nx (ρ.set i (some d)) st1 from h1) _ H1 o1 l s1 ((he.mono l.rep).set i r)) fun _ _ x => x
  exact tD_lc hsub h1
end
end MP

namespace MP
open PySem L2
open PySem.Spec PyProof.Rows
section
variable {K : Frag} {E : XK} {H H' : Hp} {o o' : Lo} {st : Store} {X : Cx}

/-! ## o[i] = v -/
def dputK : List Key → Key → List Key
  | [], k => [k]
  | q :: ks, k => if q = k then q :: ks else q :: dputK ks k
def dputV : List Key → List D → Key → D → List D
  | [], _, _, v => [v]
  | q :: ks, d :: ds, k, v => if q = k then v :: ds else d :: dputV ks ds k v
  | _ :: _, [], _, _ => []
theorem putK_cons_eq {p : Key × V} {r : List (Key × V)} {k : Key} {v : V} (e : p.1 = k) (nd : ∀ q ∈ r, q.1 ≠ k) : putK (p :: r) k v = (p.1, v) :: r := by
  unfold putK
  have h1 : ((p :: r).any fun kv => decide (kv.1 = k)) = true := by simp [e]
  rw [if_pos h1, List.map_cons, if_pos e]
  congr 1
  have h2 : r.map (fun kv => if kv.1 = k then (kv.1, v) else kv) = r.map id := List.map_congr_left fun q hq => by simp [nd q hq]
  rw [h2, List.map_id]
theorem putK_cons_ne {p : Key × V} {r : List (Key × V)} {k : Key} {v : V} (e : p.1 ≠ k) : putK (p :: r) k v = p :: putK r k v := by
  unfold putK
  have h1 : ((p :: r).any fun kv => decide (kv.1 = k)) = (r.any fun kv => decide (kv.1 = k)) := by simp [e]
  rw [h1]
  split
  · rw [List.map_cons, if_neg e]
  · rfl
theorem dput_rep : ∀ {kvs : List (Key × V)} {ds : List D} {k : Key} {d : D} {v : V}, (kvs.map (·.1)).Nodup → Reps K H o ds (kvs.map (·.2)) → Rep K H o d v →
    (putK kvs k v).map (·.1) = dputK (kvs.map (·.1)) k ∧ Reps K H o (dputV (kvs.map (·.1)) ds k d) ((putK kvs k v).map (·.2))
  | [], ds, k, d, v, _, r, rv => by
    have e : putK ([] : List (Key × V)) k v = [(k, v)] := rfl
    rw [e]
    exact ⟨rfl, Reps.one rv⟩
  | p :: r, [], k, d, v, _, q, rv => by cases (show (p :: r).map (·.2) = [] from q)
  | p :: r, d0 :: ds, k, d, v, nd, q, rv => by
    obtain ⟨x, xs, e, r1, r2⟩ := q
    obtain ⟨rfl, rfl⟩ := List.cons.inj e
    have nd' := List.nodup_cons.mp (show (p.1 :: r.map (·.1)).Nodup from nd)
    by_cases hp : p.1 = k
    · rw [putK_cons_eq hp fun y hy e => nd'.1 (by rw [hp, ← e]; exact List.mem_map_of_mem hy)]
      simp only [List.map_cons, dputK, dputV, if_pos hp]
      exact ⟨trivial, v, _, rfl, rv, r2⟩
    · obtain ⟨h1, h2⟩ := dput_rep (k := k) nd'.2 r2 rv
      rw [putK_cons_ne hp]
      simp only [List.map_cons, dputK, dputV, if_neg hp]
      exact ⟨by rw [h1], p.2, _, rfl, r1, h2⟩
def setCell : Option Cell → D → D → Option Cell
  | some (.lst ds), .int i, v => (ixN ds.length i).map fun j => .lst (ds.set j v)
  | some (.dic ks ds), k, v => (keyD k).bind fun q => bif decide (ks.length < big) && decide ks.Nodup then some (.dic (dputK ks q) (dputV ks ds q v)) else none
  | _, _, _ => none
def setM : D → D → D → M Unit
  | .ref n, i, v => fun st => match setCell st[n]? i v with
    | some c => .ok () (st.set n c)
    | none => .stuck
  | _, _, _ => M.stuck
def UOk (K : Frag) (H : Hp) (o : Lo) (Q : Hp → Prop) (_ : Unit) (st : Store) : Prop := ∀ H' o', Le H o H' o' → StOk K H' o' st → Q H'
theorem UOk.mono {Q : Hp → Prop} {u : Unit} (x : UOk K H o Q u st) (l : Le H o H' o') : UOk K H' o' Q u st := fun H2 o2 l2 => x H2 o2 (l.trans l2)
def tSetD (K : Frag) (E : XK) (op : D → D → D → M Unit) : TSet := fun x i v H Q => ∃ o st dx di dv, Rep K H o dx x ∧ Rep K H o di i ∧ Rep K H o dv v ∧ StOk K H o st ∧ wpR (op dx di dv st) (UOk K H o Q) (XOk K E H o)
theorem sd_set (hu : X.A.units + 1 < cLine) : PSet X (tSetD X.K E setM) := by
  intro pins s σ H x i v ov iv u Q I rx ri rv h
  obtain ⟨o, st, dx, di, dv, r1, r2, r3, so, h⟩ := h
  cases dx with
  | ref n =>
    have h' : wpR (match setCell st[n]? di dv with | some c => R.ok () (st.set n c) | none => .stuck) (UOk X.K H o Q) (XOk X.K E H o) := h
    cases q : st[n]? with
    | none => rw [q] at h'; exact False.elim h'
    | some c =>
      rw [q] at h'
      obtain ⟨b, e0, h1⟩ := r1
      subst e0
      have at_ : ∀ {a}, o.l[n]? = some (some a) → b = a := fun {a} e1 => by
        rw [e1] at h1
        rcases h1 with h1 | h1
        · cases h1; rfl
        · cases h1
      cases c with
      | lst ds =>
        obtain ⟨a, xs, e1, e2, e3⟩ := so.cell n _ q
        cases at_ e1
        cases di with
        | int k =>
          have h2 : wpR (match (ixN ds.length k).map (fun j => Cell.lst (ds.set j dv)) with | some c => R.ok () (st.set n c) | none => .stuck) (UOk X.K H o Q) (XOk X.K E H o) := h'
          cases qi : ixN ds.length k with
          | none => rw [qi] at h2; exact False.elim h2
          | some j =>
            rw [qi] at h2
            refine set_list pins s σ H (.ref b) i v ov iv u Q I rx ri rv ⟨b, xs, k, j, rfl, r2, e2, by rw [e3.length]; exact qi, ?_⟩
            have hm : some b ∈ o.l := List.mem_of_getElem? e1
            exact (show UOk X.K H o Q () (st.set n (.lst (ds.set j dv))) from h2) _ o (Le.write hm) (so.write e1 ⟨b, _, rfl, upd_same, (Le.write hm).rep.reps (e3.set j r3)⟩)
        | _ => exact False.elim h'
      | dic ks ds =>
        obtain ⟨a, kvs, e1, e2, e4, e3⟩ := so.cell n _ q
        cases at_ e1
        have h2 : wpR (match (keyD di).bind (fun q => bif decide (ks.length < big) && decide ks.Nodup then some (Cell.dic (dputK ks q) (dputV ks ds q dv)) else none) with | some c => R.ok () (st.set n c) | none => .stuck) (UOk X.K H o Q) (XOk X.K E H o) := h'
        cases qk : keyD di with
        | none => rw [qk] at h2; exact False.elim h2
        | some k =>
          rw [qk] at h2
          have h3 : wpR (match (bif decide (ks.length < big) && decide ks.Nodup then some (Cell.dic (dputK ks k) (dputV ks ds k dv)) else none) with | some c => R.ok () (st.set n c) | none => .stuck) (UOk X.K H o Q) (XOk X.K E H o) := h2
          cases qb : decide (ks.length < big) && decide ks.Nodup with
          | false => rw [qb] at h3; exact False.elim h3
          | true =>
            rw [qb] at h3
            rw [Bool.and_eq_true] at qb
            have hl := of_decide_eq_true qb.1
            have hnd := of_decide_eq_true qb.2
            subst e4
            have ey := keyD_rep qk r2
            subst ey
            obtain ⟨p1, p2⟩ := dput_rep (k := k) hnd e3 r3
            have hm : some b ∈ o.l := List.mem_of_getElem? e1
            cases rx
            refine d_setItem hu I (DPut.k e2 (by rw [List.length_map] at hl; exact Nat.lt_of_lt_of_le hl big_le)) ri rv fun s' I' => ⟨_, I', ?_⟩
            exact (show UOk X.K H o Q () (st.set n (.dic _ _)) from h3) _ o (Le.write hm) (so.write e1 ⟨b, _, rfl, upd_same, p1, (Le.write hm).rep.reps p2⟩)
      | _ => cases di <;> exact False.elim h'
  | _ => exact False.elim h
@[simp] def gSubD (fo fi : Den) : DenG := fun d ρ => fo ρ >>= fun x => fi ρ >>= fun i => setM x i d >>= fun _ => pure ρ
theorem dg_sub {a i : Expr} {fo fi : Den} {pos : Pos} (hu : X.A.units + 1 < cLine) (ho : PD X E a fo) (hi : PD X E i fi)
    (ha : ∀ v, assign (.Subscript a i pos) X.env v = (do
      let ov ← holding [v] (eval a X.env)
      let iv ← holding [v, ov] (eval i X.env)
      standAt pos
      holding [v, ov, iv] (setItem ov iv v)
      release [v, ov, iv] [])) : PDG X E (.Subscript a i pos) (gSubD fo fi) :=
  PG.imp (pg_sub ho hi (sd_set (E := E) hu) ha) fun v σ H Q h => by
    obtain ⟨o, ρ, st, d, he, hs, r, h⟩ := h
    refine ⟨o, ρ, st, he, hs, ?_⟩
    refine (wpR.bind.mp h).mono (fun x st1 h1 vx H1 o1 l1 s1 r1 => ⟨o1, ρ, st1, he.mono l1.rep, s1, ?_⟩) fun _ _ x => x
    refine (wpR.bind.mp h1).mono (fun i st2 h2 vi H2 o2 l2 s2 r2 => ⟨o2, st2, x, i, d, Rep.mono l2 _ _ r1, r2, Rep.mono (l1.trans l2) _ _ r, s2, ?_⟩) fun _ _ x => x.mono l1
    have l12 := l1.trans l2
    refine wpR.mono (wpR.bind.mp h2) (fun u st3 h3 H3 o3 l3 s3 => ?_) fun _ _ x => x.mono l12
    exact (show EOk X.K H o Q ρ st3 from h3) σ H3 o3 (l12.trans l3) s3 (he.mono ((l12.trans l3).rep))

/-! ## methods of built-in types -/
abbrev MtD (X : Cx) (E : XK) (id : String) (op : D → List D → M D) : Prop := MtR X id (fun x xs H Q => ∃ o dx ds st, Rep X.K H o dx x ∧ Reps X.K H o ds xs ∧ StOk X.K H o st ∧ wpR (op dx ds st) (VOk X.K H o Q) (XOk X.K E H o))
/-- is the receiver of that type (T: "str" | "list" | "tuple") -/
def lstCell (n : Nat) : M Unit := fun st => match st[n]? with
  | some (.lst _) => .ok () st
  | _ => .stuck
def isTy (T : String) : D → M Unit
  | .str _ => if T = "str" then pure () else M.stuck
  | .lst _ => if T = "list" then pure () else M.stuck
  | .ref n => if T = "list" then lstCell n else M.stuck
  | _ => M.stuck
theorem isTy_wp {T : String} {d : D} {v : V} {Q : Unit → Store → Prop} {Z : Exn → Store → Prop} (r : Rep K H o d v) (s : StOk K H o st) (h : wpR (isTy T d st) Q Z) : tyV K T v H ∧ Q () st := by
  cases d with
  | str i =>
    have h1 : wpR ((if T = "str" then (pure () : M Unit) else M.stuck) st) Q Z := h
    by_cases e : T = "str"
    · rw [if_pos e] at h1; subst e; cases (show v = .str i from r); exact ⟨rfl, h1⟩
    · rw [if_neg e] at h1; exact False.elim h1
  | lst ds =>
    have h1 : wpR ((if T = "list" then (pure () : M Unit) else M.stuck) st) Q Z := h
    by_cases e : T = "list"
    · rw [if_pos e] at h1; subst e; obtain ⟨a, xs, rfl, k, _⟩ := r; exact ⟨.inl ⟨rfl, xs, SqL.of k⟩, h1⟩
    · rw [if_neg e] at h1; exact False.elim h1
  | ref n =>
    have h1 : wpR ((if T = "list" then lstCell n else M.stuck) st) Q Z := h
    by_cases e : T = "list"
    · rw [if_pos e] at h1
      subst e
      have h' : wpR (match st[n]? with | some (.lst _) => R.ok () st | _ => .stuck) Q Z := h1
      cases q : st[n]? with
      | none => rw [q] at h'; exact False.elim h'
      | some c =>
        rw [q] at h'
        cases c with
        | lst ds =>
          obtain ⟨a, xs, e1, e2, e3⟩ := s.cell n _ q
          obtain ⟨b, rfl, h1⟩ := r
          have : a = b := by
            rw [e1] at h1
            rcases h1 with h1 | h1
            · cases h1; rfl
            · cases h1
          subst this
          exact ⟨.inl ⟨rfl, xs, SqL.of e2⟩, h'⟩
        | _ => exact False.elim h'
    · rw [if_neg e] at h1; exact False.elim h1
  | _ => exact False.elim h
@[simp] def dMeth (T : String) (op : D → List D → M D) (f : Den) (fs : DenL) : Den := fun ρ => f ρ >>= fun x => isTy T x >>= fun _ => fs ρ >>= fun xs => op x xs
theorem pd_meth {T id : String} {name : Str} {op : D → List D → M D} {a e : Expr} {es : List Expr} {f : Den} {fs : DenL} {apos cpos : Pos} (pa : PlainAttrs T) (slot : Slot T name id) (hty : typeOf (.builtin id) = pure (.type "method_descriptor")) (hm : MtD X E id op)
    (ho : PD X E a f) (ha : PL X E (e :: es) fs) (hbase : attributeBase a name X.env (eval a X.env) = eval a X.env)
    (hfew : ((backTo cpos (starEach (e :: es) X.env)).all (fun x => !x.1) && (backToKw cpos (keywordEach [] X.env)).all (fun x => x.1.isSome)
      && decide ((e :: es).length + ([] : List Keyword).length + (if ([] : List Keyword).isEmpty then 0 else 1) < 30)) = true)
    (hline : (apos.endLine == cpos.line) = true) (hs : starEach (e :: es) X.env = (false, eval e X.env) :: starEach es X.env) (hplain : (backTo cpos (starEach es X.env)).any (·.1) = false) :
    PD X E (.Call (.Attribute a name apos) (e :: es) [] cpos) (dMeth T op f fs) := PE.imp (pe_bm pa slot hty hm ho ha hbase hfew hline hs hplain) fun σ H Q h => by
  obtain ⟨o, ρ, st, he, hs, h⟩ := h
  refine ⟨o, ρ, st, he, hs, ?_⟩
  refine (wpR.bind.mp h).mono (fun x st1 h1 v H1 o1 l1 s1 r1 => ?_) fun _ _ x => x
  obtain ⟨ty, h2⟩ := isTy_wp r1 s1 (wpR.bind.mp h1)
  refine ⟨ty, o1, ρ, st1, he.mono l1.rep, s1, ?_⟩
  refine (wpR.bind.mp h2).mono (fun ds st2 h3 vs H2 o2 l2 s2 r2 => ⟨o2, x, ds, st2, Rep.mono l2 _ _ r1, r2, s2, ?_⟩) fun _ _ x => x.mono l1
  exact wpR.mono h3 (fun _ _ x => x.mono (l1.trans l2)) fun _ _ x => x.mono (l1.trans l2)
def mAppend : D → List D → M D
  | .ref n, [v] => fun st => match st[n]? with
    | some (.lst ds) => bif decide (ds.length < big) then .ok .non (st.set n (.lst (ds ++ [v]))) else .stuck
    | _ => .stuck
  | _, _ => M.stuck
theorem md_append : MtD X E "list.append" mAppend := by
  intro pins s σ H x xs v us Q I rx rs h
  obtain ⟨o, dx, ds, st, r1, r2, so, h⟩ := h
  cases dx with
  | ref n =>
    cases ds with
    | nil => exact False.elim h
    | cons d ds =>
      cases ds with
      | cons _ _ => exact False.elim h
      | nil =>
        obtain ⟨y, rfl, ry⟩ := r2.one_of
        have h' : wpR (match st[n]? with | some (.lst ds) => bif decide (ds.length < big) then R.ok .non (st.set n (.lst (ds ++ [d]))) else .stuck | _ => .stuck) (VOk X.K H o Q) (XOk X.K E H o) := h
        cases q : st[n]? with
        | none => rw [q] at h'; exact False.elim h'
        | some c =>
          rw [q] at h'
          cases c with
          | lst ds =>
            obtain ⟨a, xs, e1, e2, e3⟩ := so.cell n _ q
            obtain ⟨b, rfl, h1⟩ := r1
            have : a = b := by
              rw [e1] at h1
              rcases h1 with h1 | h1
              · cases h1; rfl
              · cases h1
            subst this
            have h2 : wpR (bif decide (ds.length < big) then R.ok D.non (st.set n (.lst (ds ++ [d]))) else .stuck) (VOk X.K H o Q) (XOk X.K E H o) := h'
            cases qb : decide (ds.length < big) with
            | false => rw [qb] at h2; exact False.elim h2
            | true =>
              rw [qb] at h2
              have hl := of_decide_eq_true qb
              have hm : some a ∈ o.l := List.mem_of_getElem? e1
              refine mt_append pins s σ H _ _ v us Q I rx rs ⟨a, xs, y, rfl, rfl, e2, by rw [e3.length]; exact Nat.lt_of_lt_of_le hl big_le, ?_⟩
              exact (show VOk X.K H o Q .non (st.set n (.lst (ds ++ [d]))) from h2) .non _ o (Le.write hm) (so.write e1 ⟨a, _, rfl, upd_same, (Le.write hm).rep.reps (e3.append (Reps.one ry))⟩) rfl
          | _ => exact False.elim h'
  | _ => exact False.elim h
def strsD : List D → Option (List Str)
  | [] => some []
  | .str i :: ds => (strsD ds).map (i :: ·)
  | _ => none
theorem strsD_eq : ∀ {ds : List D} {ns : List Str}, strsD ds = some ns → ds = ns.map D.str
  | [], ns, h => by cases h; rfl
  | .str i :: ds, ns, h => by
    obtain ⟨ms, h1, rfl⟩ := Option.map_eq_some_iff.mp (show (strsD ds).map (i :: ·) = some ns from h)
    rw [strsD_eq h1]; rfl
  | .non :: _, _, h => by cases h
  | .bl _ :: _, _, h => by cases h
  | .int _ :: _, _, h => by cases h
  | .tup _ :: _, _, h => by cases h
  | .lst _ :: _, _, h => by cases h
  | .dic _ _ :: _, _, h => by cases h
  | .scr _ :: _, _, h => by cases h
  | .ref _ :: _, _, h => by cases h
def joinL (z : Str) (ds : List D) : M D := match strsD ds with
  | some ys => guardM (decide ((ys.map (·.length)).sum + ys.length * z.length ≤ big)) (pure (.str (Txt.join z ys)))
  | none => M.stuck
def mJoin : D → List D → M D
  | .str z, [x] => lstOf x >>= joinL z
  | _, _ => M.stuck
theorem md_join : MtD X E "str.join" mJoin := by
  intro pins s σ H x xs v us Q I rx rs h
  obtain ⟨o, dx, ds, st, r1, r2, so, h⟩ := h
  cases dx with
  | str z =>
    cases ds with
    | nil => exact False.elim h
    | cons d ds =>
      cases ds with
      | cons _ _ => exact False.elim h
      | nil =>
        obtain ⟨y, rfl, ry⟩ := r2.one_of
        obtain ⟨es, a, ys, rfl, e2, q2, h⟩ := lstOf_wp ry so (wpR.bind.mp h)
        unfold joinL at h
        cases q : strsD es with
        | none => rw [q] at h; exact False.elim h
        | some ss =>
          rw [q] at h
          obtain ⟨hl, h⟩ := guardM_wp h
          rw [strsD_eq q] at q2
          rw [q2.strs] at e2
          have hl' := of_decide_eq_true hl
          exact mt_join pins s σ H x _ v us Q I rx rs ⟨z, a, ss, r1, rfl, .inl (SqL.of e2), Nat.le_trans hl' big_le, ok_flat h so rfl⟩
  | _ => exact False.elim h
def mSplit : D → List D → M D
  | .str a, [.str b] => guardM (!(b.length == 0) && decide (a.length + 2 ≤ big)) (pure (.lst ((Txt.split a b).map D.str)))
  | _, _ => M.stuck
theorem md_split : MtD X E "str.split" mSplit := by
  intro pins s σ H x xs v us Q I rx rs h
  obtain ⟨o, dx, ds, st, r1, r2, so, h⟩ := h
  cases dx with
  | str z =>
    cases ds with
    | nil => exact False.elim h
    | cons d ds =>
      cases ds with
      | cons _ _ => cases d <;> exact False.elim h
      | nil =>
        obtain ⟨y, rfl, ry⟩ := r2.one_of
        cases d with
        | str b =>
          obtain ⟨hl, h⟩ := guardM_wp h
          rw [Bool.and_eq_true] at hl
          have e1 : (b.length == 0) = false := by cases q : b.length == 0 with
            | false => rfl
            | true => rw [q] at hl; exact absurd hl.1 (by decide)
          exact mt_split pins s σ H x _ v us Q I rx rs ⟨z, b, r1, by rw [show y = .str b from ry], e1, Nat.le_trans (of_decide_eq_true hl.2) big_le, fun p hp => ok_newLst h so (Reps.ofStrs _) hp⟩
        | _ => exact False.elim h
  | _ => exact False.elim h

/-! ## dict displays -/
def denPairs : List (Den × Den) → Env → M (List (D × D))
  | [], _ => pure []
  | (k, v) :: r, ρ => k ρ >>= fun x => v ρ >>= fun y => denPairs r ρ >>= fun ps => pure ((x, y) :: ps)
def keysD : List (D × D) → Option (List (Key × D))
  | [] => some []
  | (k, v) :: r => (keyD k).bind fun q => (keysD r).map ((q, v) :: ·)
def mergeD : List Key → List D → List (Key × D) → List Key × List D
  | ks, ds, [] => (ks, ds)
  | ks, ds, (k, v) :: r => mergeD (dputK ks k) (dputV ks ds k v) r
def PairsR (K : Frag) (H : Hp) (o : Lo) : List (D × D) → List (V × V) → Prop
  | [], ps => ps = []
  | (k, v) :: r, ps => ∃ x y ps', ps = (x, y) :: ps' ∧ Rep K H o k x ∧ Rep K H o v y ∧ PairsR K H o r ps'
theorem PairsR.mono (l : LeR K H o H' o') : ∀ {ds : List (D × D)} {ps : List (V × V)}, PairsR K H o ds ps → PairsR K H' o' ds ps
  | [], _, h => h
  | (k, v) :: r, _, h => by
    obtain ⟨x, y, ps', rfl, h1, h2, h3⟩ := h
    exact ⟨x, y, ps', rfl, l _ _ h1, l _ _ h2, PairsR.mono l h3⟩
def POk (K : Frag) (H : Hp) (o : Lo) (Q : List (V × V) → Hp → Prop) (ds : List (D × D)) (st : Store) : Prop := ∀ ps H' o', Le H o H' o' → StOk K H' o' st → PairsR K H' o' ds ps → Q ps H'
theorem POk.mono {Q : List (V × V) → Hp → Prop} {d : List (D × D)} (x : POk K H o Q d st) (l : Le H o H' o') : POk K H' o' Q d st := fun v H2 o2 l2 => x v H2 o2 (l.trans l2)
theorem tPairs_of : ∀ (fs : List (Den × Den)) {σ : L2.St} {H : Hp} {o : Lo} {st : Store} {ρ : Env} {Q : List (V × V) → Hp → Prop}, EnvOk K H o ρ σ → StOk K H o st → wpR (denPairs fs ρ st) (POk K H o Q) (XOk K E H o) →
    tPairs (fs.map fun p => (tD K E p.1, tD K E p.2)) σ H Q
  | [], σ, H, o, st, ρ, Q, he, hs, h => h [] H o (Le.refl _ _) hs rfl
  | (k, v) :: r, σ, H, o, st, ρ, Q, he, hs, h => by
    refine ⟨o, ρ, st, he, hs, ?_⟩
    refine (wpR.bind.mp h).mono (fun x st1 h1 vx H1 o1 l1 s1 r1 => ⟨o1, ρ, st1, he.mono l1.rep, s1, ?_⟩) fun _ _ x => x
    refine (wpR.bind.mp h1).mono (fun y st2 h2 vy H2 o2 l2 s2 r2 => ?_) fun _ _ x => x.mono l1
    have l12 := l1.trans l2
    refine tPairs_of r (he.mono l12.rep) s2 (wpR.mono (wpR.bind.mp h2) (fun ps st3 h3 vs H3 o3 l3 s3 r3 => ?_) fun _ _ x => x.mono l12)
    exact (show POk K H o Q ((x, y) :: ps) st3 from h3) ((vx, vy) :: vs) H3 o3 (l12.trans l3) s3 ⟨vx, vy, vs, rfl, Rep.mono (l2.trans l3) _ _ r1, Rep.mono l3 _ _ r2, r3⟩
theorem dputK_nodup : ∀ {ks : List Key} {k : Key}, ks.Nodup → (dputK ks k).Nodup ∧ ∀ q, q ∈ dputK ks k → q = k ∨ q ∈ ks
  | [], k, _ => by simp [dputK]
  | q :: ks, k, h => by
    have h' := List.nodup_cons.mp h
    unfold dputK
    split
    · exact ⟨h, fun x hx => .inr hx⟩
    · rename_i hne
      obtain ⟨h1, h2⟩ := dputK_nodup (k := k) h'.2
      refine ⟨List.nodup_cons.mpr ⟨fun z => ?_, h1⟩, fun x hx => ?_⟩
      · rcases h2 q z with e | e
        · exact hne e
        · exact h'.1 e
      · rcases List.mem_cons.mp hx with e | e
        · exact .inr (by rw [e]; exact List.mem_cons_self)
        · rcases h2 x e with e | e
          · exact .inl e
          · exact .inr (List.mem_cons_of_mem _ e)
theorem keysD_rep : ∀ {ds : List (D × D)} {kd : List (Key × D)} {ps : List (V × V)}, keysD ds = some kd → PairsR K H o ds ps →
    ∃ kvs : List (Key × V), ps = kvs.map (fun kv => (kV kv.1, kv.2)) ∧ kvs.length = ds.length ∧ kvs.map (·.1) = kd.map (·.1) ∧ Reps K H o (kd.map (·.2)) (kvs.map (·.2))
  | [], kd, ps, e, r => by cases e; cases (show ps = [] from r); exact ⟨[], rfl, rfl, rfl, rfl⟩
  | (k, v) :: r, kd, ps, e, q => by
    obtain ⟨x, y, ps', rfl, h1, h2, h3⟩ := q
    obtain ⟨q, hq, e2⟩ := Option.bind_eq_some_iff.mp (show (keyD k).bind (fun q => (keysD r).map ((q, v) :: ·)) = some kd from e)
    obtain ⟨kd', hk, rfl⟩ := Option.map_eq_some_iff.mp e2
    obtain ⟨kvs, e3, e4, e5, e6⟩ := keysD_rep hk h3
    exact ⟨(q, y) :: kvs, by rw [e3, keyD_rep hq h1]; rfl, by simp [e4], by simp [e5], y, _, rfl, h2, e6⟩
theorem merge_rep : ∀ {kd : List (Key × D)} {more kvs : List (Key × V)} {ds : List D}, (kvs.map (·.1)).Nodup → more.map (·.1) = kd.map (·.1) → Reps K H o (kd.map (·.2)) (more.map (·.2)) → Reps K H o ds (kvs.map (·.2)) →
    (mergeK kvs more).map (·.1) = (mergeD (kvs.map (·.1)) ds kd).1 ∧ Reps K H o (mergeD (kvs.map (·.1)) ds kd).2 ((mergeK kvs more).map (·.2))
  | [], more, kvs, ds, nd, e, _, r => by
    cases more with
    | nil => exact ⟨rfl, r⟩
    | cons _ _ => cases e
  | (k, v) :: kd, more, kvs, ds, nd, e, rm, r => by
    cases more with
    | nil => cases e
    | cons p more =>
      obtain ⟨e1, e2⟩ := List.cons.inj (show p.1 :: more.map (·.1) = k :: kd.map (·.1) from e)
      obtain ⟨y, ys, e3, ry, rys⟩ := rm
      obtain ⟨rfl, rfl⟩ := List.cons.inj (show p.2 :: more.map (·.2) = y :: ys from e3)
      obtain ⟨p1, p2⟩ := dput_rep (k := p.1) nd r ry
      have nd2 : ((putK kvs p.1 p.2).map (·.1)).Nodup := by rw [p1]; exact (dputK_nodup nd).1
      have q := merge_rep (kd := kd) (more := more) nd2 e2 rys p2
      subst e1
      rw [p1] at q
      exact q
def kvOf (k : List Key → List D → M D) (ps : List (D × D)) : M D := match keysD ps with
  | some kd => k (mergeD [] [] kd).1 (mergeD [] [] kd).2
  | none => M.stuck
def dDic (fs : List (Den × Den)) : Den := fun ρ => guardM (decide (fs.length ≤ 15)) (noX (denPairs fs ρ) >>= kvOf fun ks ds => pure (.dic ks ds))
/-- a dict of one's own -/
def dDicOwn (fs : List (Den × Den)) : Den := fun ρ => guardM (decide (fs.length ≤ 15)) (noX (denPairs fs ρ) >>= kvOf fun ks ds => M.alloc (.dic ks ds))
/-- a reserved address is empty again -/
theorem StOk.hole {p : Addr} {z : List Addr} (s : StOk K H o st) (hz : o.z = p :: z) (hp : p ∉ z) : StOk K (fun a => if a = p then none else H a) { o with z := z } st ∧ LeR K H o (fun a => if a = p then none else H a) { o with z := z } := by
  have hm : p ∈ o.z := by rw [hz]; exact List.mem_cons_self
  have hs : ∀ a ∈ z, a ∈ o.z := fun a q => by rw [hz]; exact List.mem_cons_of_mem _ q
  have r1 : LeR K H o (fun a => if a = p then none else H a) o := fun d v r => Rep.avoid hm (fun b hb => by show (if b = p then none else H b) = H b; rw [if_neg hb]) d v r
  have r2 := r1.trans (LeR.unhold (K := K) (H := fun a => if a = p then none else H a) hs)
  refine ⟨⟨s.len, s.nd, fun a ha => ?_, fun n c e => (s.cell n c e).mono r2 fun a w e1 e2 => ?_⟩, r2⟩
  · obtain ⟨⟨w, e⟩, n⟩ := s.zt a (hs a ha)
    exact ⟨⟨w, by show (if a = p then none else H a) = _; rw [if_neg (fun q => hp (by rw [← q]; exact ha))]; exact e⟩, n⟩
  · have : a ≠ p := fun q => (s.zt p hm).2 (by rw [← q]; exact List.mem_of_getElem? e1)
    show (if a = p then none else H a) = _
    rw [if_neg this]; exact e2
theorem denPairs_len : ∀ (fs : List (Den × Den)) {ρ : Env} {st : Store} {Q : List (D × D) → Store → Prop} {Z : Exn → Store → Prop}, wpR (denPairs fs ρ st) Q Z → wpR (denPairs fs ρ st) (fun ps st' => ps.length = fs.length ∧ Q ps st') Z
  | [], _, _, _, _, h => ⟨rfl, h⟩
  | (k, v) :: r, ρ, st, Q, Z, h => wpR.bind.mpr ((wpR.bind.mp h).mono (fun x st1 h1 => wpR.bind.mpr ((wpR.bind.mp h1).mono (fun y st2 h2 => wpR.bind.mpr ((denPairs_len r (wpR.bind.mp h2)).mono (fun ps st3 h3 => ⟨by rw [List.length_cons, List.length_cons, h3.1], h3.2⟩) fun _ _ x => x)) fun _ _ x => x)) fun _ _ x => x)
theorem disp_core {fs : List (Den × Den)} {σ : L2.St} {H : Hp} {o : Lo} {st : Store} {ρ : Env} {Q : VK} {k : List Key → List D → M D} (he : EnvOk K H o ρ σ) (hs : StOk K H o st)
    (h : wpR ((noX (denPairs fs ρ) >>= kvOf k) st) (VOk K H o Q) (XOk K E H o)) (hlen : fs.length ≤ 15)
    (fin : ∀ (p : Addr) (H3 : Hp) (o3 : Lo) (st3 : Store) (kvs : List (Key × V)) (ds : List D), H3 p = none → StOk K H3 o3 st3 → Reps K H3 o3 ds (kvs.map (·.2)) →
      wpR (k (kvs.map (·.1)) ds st3) (VOk K H3 o3 Q) (XOk K E H3 o3) → Q (.ref p) (upd H3 p (.dK kvs))) : tDisp (fs.map fun p => (tD K E p.1, tD K E p.2)) σ H Q := by
  intro p hp
  have l0 : LeR K H o (upd H p (.dK [])) (o.hold p) := LeR.hold hp
  have lc0 : Lc H o (upd H p (.dK [])) (o.hold p) := Lc.hold hp
  have np : some p ∉ o.l := (hs.avOf hp).1
  have nz : p ∉ o.z := (hs.avOf hp).2
  have h1 := denPairs_len fs (noX_wp (Z' := XOk K E (upd H p (.dK [])) (o.hold p)) (wpR.bind.mp h))
  refine tPairs_of (E := E) fs (he.mono l0) (hs.hold hp) (wpR.mono h1 (fun ps st2 h2 vs H2 o2 l2 s2 r2 => ?_) fun e st2 x => x)
  obtain ⟨hpl, h2⟩ := h2
  have h3 : wpR ((match keysD ps with | some kd => k (mergeD [] [] kd).1 (mergeD [] [] kd).2 | none => M.stuck) st2) (VOk K H o Q) (XOk K E H o) := h2
  cases q : keysD ps with
  | none => rw [q] at h3; exact False.elim h3
  | some kd =>
    rw [q] at h3
    obtain ⟨kvs, e1, e2, e3, e4⟩ := keysD_rep q r2
    obtain ⟨hk, nk⟩ := l2.keep p _ (show upd H p (.dK []) p = some (.dK []) from upd_same) np
    refine ⟨hk, kvs, e1, by rw [e2, hpl]; exact hlen, ?_⟩
    obtain ⟨s3, r3⟩ := s2.hole (p := p) (z := o.z) l2.z nz
    obtain ⟨m1, m2⟩ := merge_rep (K := K) (H := H2) (o := o2) (kd := kd) (more := kvs) (kvs := []) (ds := []) List.nodup_nil e3 e4 rfl
    have lc2 := lc0.trans l2.toLc
    have le3 : Le H o (fun a => if a = p then none else H2 a) { o2 with z := o.z } := ⟨⟨fun a u e n => by
      obtain ⟨g1, g2⟩ := lc2.keep a u e n
      exact ⟨by show (if a = p then none else H2 a) = _; rw [if_neg (ne_of_none e hp)]; exact g1, g2⟩, lc2.loc⟩, rfl⟩
    have eH : upd H2 p (.dK (mergeK [] kvs)) = upd (fun a => if a = p then none else H2 a) p (.dK (mergeK [] kvs)) := by
      funext a
      by_cases ha : a = p
      · subst ha; rw [upd_same, upd_same]
      · rw [upd_ne ha, upd_ne ha, if_neg ha]
    rw [eH]
    refine fin p _ _ st2 (mergeK [] kvs) (mergeD [] [] kd).2 (if_pos rfl) s3 (r3.reps m2) ?_
    rw [m1]
    exact wpR.mono h3 (fun _ _ x => x.mono le3) fun _ _ x => x.mono le3
def PPairs (X : Cx) (E : XK) (pos : Pos) (keys : List (Option Expr)) (values : List Expr) (fs : List (Den × Den)) : Prop := PPs X pos keys values (fs.map fun p => (tD X.K E p.1, tD X.K E p.2))
theorem pp_nil {pos : Pos} : PPairs X E pos [] [] [] := pps_nil
theorem pp_cons {pos : Pos} {k v : Expr} {ks : List (Option Expr)} {vs : List Expr} {fk fv : Den} {fs : List (Den × Den)} (hk : PD X E k fk) (hv : PD X E v fv) (hr : PPairs X E pos ks vs fs) : PPairs X E pos (some k :: ks) (v :: vs) ((fk, fv) :: fs) := pps_cons hk hv hr
theorem pd_dic {pos : Pos} {keys : List (Option Expr)} {values : List Expr} {fs : List (Den × Den)} (h : PPairs X E pos keys values fs) (hall : keys.all (·.isSome) = true) (hl : keys.length = values.length) (h0 : keys ≠ []) (h15 : keys.length ≤ 15) : PD X E (.Dict keys values pos) (dDic fs) :=
  PE.imp (pe_disp h hall hl h0 h15) fun σ H Q h => by
    obtain ⟨o, ρ, st, he, hs, h⟩ := h
    obtain ⟨h15, h⟩ := guardM_wp h
    exact disp_core he hs h (of_decide_eq_true h15) fun p H3 o3 st3 kvs ds hp s3 r3 h4 => (show VOk X.K H3 o3 Q (.dic (kvs.map (·.1)) ds) st3 from h4) _ _ o3 (Le.new hp) (s3.new hp) (Rep.newDic s3 hp r3)
theorem pd_dicOwn {pos : Pos} {keys : List (Option Expr)} {values : List Expr} {fs : List (Den × Den)} (h : PPairs X E pos keys values fs) (hall : keys.all (·.isSome) = true) (hl : keys.length = values.length) (h0 : keys ≠ []) (h15 : keys.length ≤ 15) : PD X E (.Dict keys values pos) (dDicOwn fs) :=
  PE.imp (pe_disp h hall hl h0 h15) fun σ H Q h => by
    obtain ⟨o, ρ, st, he, hs, h⟩ := h
    obtain ⟨h15, h⟩ := guardM_wp h
    exact disp_core he hs h (of_decide_eq_true h15) fun p H3 o3 st3 kvs ds hp s3 r3 h4 => ok_alloc h4 s3 hp ⟨p, kvs, rfl, upd_same, rfl, (Le.alloc hp).rep.reps r3⟩
def dDic0 : Den := fun _ => M.alloc (.dic [] [])
theorem pd_dic0 {pos : Pos} : PD X E (.Dict [] [] pos) dDic0 := PE.imp pe_dnewK fun σ H Q h => by
  obtain ⟨o, ρ, st, he, hs, h⟩ := h
  exact fun p hp => ok_alloc h hs hp ⟨p, [], rfl, upd_same, rfl, rfl⟩
end
end MP

namespace MP
open PySem L2
open PySem.Spec PyProof.Rows

/-! ## defs -/
def runDef (n : Nat) (body : DenS) (ds : List D) : M D := body (ds.map some ++ List.replicate (n - ds.length) none) >>= fun r => match r with
  | .nx _ => pure .non
  | .rt d => pure d
  | .bk _ => M.stuck
  | .ct _ => M.stuck
abbrev CF (P : Program) (w : World) (K : Frag) (mg : Str → Option Value) (base : Heap) (N : List Str) (qual : Str) (scope : Scope) (f : Addr) (cdv : Value) (A : Around) (outer : List PySem.Env) (s : Shared) (H : Hp) (E : XK) : Cx :=
  cxOf (L2.CX P w) P w K mg base N qual scope f cdv A outer s H E
structure Cok (X : Cx) (E : XK) (k : Nat) : Prop where
  room : Room k X.A
  pass : Passes (L2.CX X.prog X.w) X E
section
variable {P : Program} {w : World} {K : Frag} {mg : Str → Option Value} {base : Heap} {N ps : List Str} {x qual : Str} {params : Arguments} {body : List Stmt} {scope : Scope} {f : Addr} {fd : FuncData} {k : Nat} {X : Cx} {E : XK}
theorem Cok.units (c : Cok X E k) : X.A.units + 64 < cLine := c.room.units
theorem Cok.units5 (c : Cok X E k) : X.A.units + 65 < cLine := by have := c.room.un; omega
theorem Cok.units1 (c : Cok X E k) : X.A.units + 1 < cLine := by have := c.room.un; omega
theorem Cok.blk {s : Shared} {H : Hp} {sc : Scope} {ce : PySem.Env} {fp : List Addr} (c : Cok X E k) : Cok (X.blk s H sc ce fp) EX0 k :=
  ⟨c.room, fun pins σ H s e s' I cx => by
    obtain ⟨a, B, H', cls, d, _, _, _, _, _, _, _, hE⟩ := cx
    exact False.elim hE⟩
theorem Cok.of {cdv : Value} {A : Around} {outer : List PySem.Env} {s : Shared} {H : Hp} (hr : Room k (A.deeper (envOfC qual scope s.heap.objs.size f cdv))) : Cok (CF P w K mg base N qual scope f cdv A outer s H E) E k :=
  ⟨hr, passes_call (takes_of rfl rfl rfl rfl) fun _ _ _ _ h => h⟩
theorem own_cf {cdv : Value} {A : Around} {outer : List PySem.Env} {s : Shared} {H : Hp} : PassesOwn (model (CF P w K mg base N qual scope f cdv A outer s H E).prog (CF P w K mg base N qual scope f cdv A outer s H E).w) (CF P w K mg base N qual scope f cdv A outer s H E).A (CF P w K mg base N qual scope f cdv A outer s H E).env (CF P w K mg base N qual scope f cdv A outer s H E).xe := passes_of rfl
theorem start_env {H : Hp} {o : Lo} {ds : List D} {vs : List V} (r : Reps K H o ds vs) (hl : ds.length ≤ N.length) : EnvOk K H o (ds.map some ++ List.replicate (N.length - ds.length) none) (L2.start N vs) := by
  have e := r.length
  refine ⟨by unfold L2.start; simp [e], fun i d h => ?_⟩
  have hi : i < ds.length := by
    by_cases hi : i < ds.length
    · exact hi
    · rw [List.getElem?_append_right (by simpa using hi), List.getElem?_replicate] at h
      split at h <;> cases h
  rw [List.getElem?_append_left (by simpa using hi), List.getElem?_map] at h
  obtain ⟨d', h1, h2⟩ := Option.map_eq_some_iff.mp h
  cases h2
  obtain ⟨v, hv, rv⟩ := r.get h1
  refine ⟨v, ?_, rv⟩
  unfold L2.start
  rw [List.getElem?_append_left (by simpa [e] using hi), List.getElem?_map, hv]
  rfl
theorem fn_ok {m : DenS} {np : Nat} (F : FunD K x qual params body scope [] [] f fd) (S : FnScope N ps scope) (hnp : ps.length = np)
    (h : ∀ (cdv : Value) (A : Around) (outer : List PySem.Env) (s : Shared) (H : Hp) (E : XK), Cok (CF P w K mg base N qual scope f cdv A outer s H E) E k → PDSs (CF P w K mg base N qual scope f cdv A outer s H E) E body m) :
    FnOk P w K mg base (L2.CX P w) (k + 1) f fd ps (spD K np (runDef N.length m)) := by
  refine F.ok S (fun vs H Q E q => ?_) fun cdv A outer s H vs Q E hr q => ?_
  · obtain ⟨o, ds, st, r, e, _⟩ := q
    rw [r.length, e, hnp]
  · obtain ⟨o, ds, st, r, e, so, hw⟩ := q
    have hle : ps.length ≤ N.length := by have := congrArg List.length S.pre; rw [List.length_take] at this; omega
    refine ⟨_, h cdv A outer s H E (.of hr), o, _, st, start_env r (by omega), so, ?_⟩
    refine (wpR.bind.mp hw).mono (fun r st' hq => ?_) fun _ _ z => z
    cases r with
    | nx ρ => exact fun σ' H' o' l s' e' => (show VOk K H o Q .non st' from hq) .non H' o' l s' rfl
    | rt d => exact hq
    | bk ρ => exact False.elim hq
    | ct ρ => exact False.elim hq
/-- a def by its meaning -/
structure Cal (P : Program) (w : World) (K : Frag) (mg : Str → Option Value) (base : Heap) (k : Nat) (x : Str) (np : Nat) (p : List D → M D) : Prop where
  ex : ∃ (f : Addr) (fd : FuncData) (ps : List Str), FnOk P w K mg base (L2.CX P w) k f fd ps (spD K np p) ∧ mg x = some (.ref f) ∧ PySem.W.keepIn K (.ref f) = true ∧ Binds K fd ps []
theorem Cal.mono {np j : Nat} {p : List D → M D} (c : Cal P w K mg base j x np p) (h : j ≤ k) : Cal P w K mg base k x np p :=
  let ⟨f, fd, ps, F, g, kp, b⟩ := c.ex; ⟨f, fd, ps, F.mono h, g, kp, b⟩
/-- what a def of the text is known by -/
structure Dn (K : Frag) (mg : Str → Option Value) (x qual : Str) (params : Arguments) (body : List Stmt) (scope : Scope) (ps : List Str) : Prop where
  ex : ∃ (f : Addr) (fd : FuncData), FunD K x qual params body scope [] [] f fd ∧ mg x = some (.ref f) ∧ Binds K fd ps []
theorem Dn.cal {m : DenS} {np : Nat} (d : Dn K mg x qual params body scope ps) (S : FnScope N ps scope) (hnp : ps.length = np)
    (h : ∀ (f : Addr) (cdv : Value) (A : Around) (outer : List PySem.Env) (s : Shared) (H : Hp) (E : XK), Cok (CF P w K mg base N qual scope f cdv A outer s H E) E k → PDSs (CF P w K mg base N qual scope f cdv A outer s H E) E body m) :
    Cal P w K mg base (k + 1) x np (runDef N.length m) :=
  let ⟨f, fd, F, g, b⟩ := d.ex
  ⟨f, fd, ps, fn_ok F S hnp (h f), g, F.kp, b⟩
theorem Dn.never (d : Dn K mg x qual params body scope ps) {np : Nat} : Cal P w K mg base k x np (fun _ => M.stuck) :=
  let ⟨f, fd, F, g, b⟩ := d.ex
  ⟨f, fd, ps, ⟨fun vs H Q E q => by obtain ⟨_, _, _, _, _, _, hw⟩ := q; exact False.elim hw, fun A outer s H args us vs Q E hr e hb r q => by obtain ⟨_, _, _, _, _, _, hw⟩ := q; exact False.elim hw⟩, g, F.kp, b⟩
/-- a call -/
theorem pd_callU {j np : Nat} {p : List D → M D} {e : Expr} {es : List Expr} {fs : DenL} {pn pos : Pos} (c : Cok X E k) (F : Cal X.prog X.w X.K X.mg X.base j x np p) (hj : j ≤ k) (hg : Gl X x) (ha : PL X E (e :: es) fs)
    (hdb : (x == ("__debug__" : Str)) = false) (he : starEach (e :: es) X.env = (false, eval e X.env) :: starEach es X.env) (hpl : (backTo pos (starEach es X.env)).any (·.1) = false) :
    PD X E (.Call (.Name x pn) (e :: es) [] pos) (dCall (arity np p) fs) :=
  let ⟨f, fd, ps, F, hm, hk, hb⟩ := (F.mono hj).ex
  pd_call F c.room hg hm hk hb c.pass ha hdb he hpl
theorem pd_callU0 {j np : Nat} {p : List D → M D} {pn pos : Pos} (c : Cok X E k) (F : Cal X.prog X.w X.K X.mg X.base j x np p) (hj : j ≤ k) (hg : Gl X x) (hdb : (x == ("__debug__" : Str)) = false) :
    PD X E (.Call (.Name x pn) [] [] pos) (dCall (arity np p) dNil) :=
  let ⟨f, fd, ps, F, hm, hk, hb⟩ := (F.mono hj).ex
  pd_call0 F c.room hg hm hk hb c.pass hdb

/-! ## a, b = e, f -/
def dPar (js : List Nat) (fs : DenL) : DenS := fun ρ => fs ρ >>= fun ds => bif ds.length == js.length then pure (.nx ((js.zip ds).foldl (fun r p => r.set p.1 (some p.2)) ρ)) else M.stuck
theorem dp_par2 {i j : Nat} {x y : Str} {a b : Expr} {fs : DenL} {px py pt pos : Pos} {kt k2 : Nat} {pt2 : Pos} (hc : X.calm = true) (hN : X.N.Nodup) (hi : X.N[i]? = some x) (hj : X.N[j]? = some y) (hij : i ≠ j)
    (hx : X.env.scope.names.lookup x = some .local) (hy : X.env.scope.names.lookup y = some .local) (ha : PL X E [a, b] fs)
    (hw : swappedStores [.Tuple [.Name x px, .Name y py] kt pt] (.Tuple [a, b] k2 pt2) X.env = pure (some [x, y]))
    (hs : swapsWithSole [.Tuple [.Name x px, .Name y py] kt pt] (.Tuple [a, b] k2 pt2) pos.line X.env = pure false) :
    PDS X E (.Assign [.Tuple [.Name x px, .Name y py] kt pt] (.Tuple [a, b] k2 pt2) pos) (dPar [i, j] fs) := PS.imp (ps_par hc hN hi hj hij hx hy ha hw hs) fun D σ H h => by
  obtain ⟨o, ρ, st, he, so, h⟩ := h
  refine ⟨o, ρ, st, he, so, (wpR.bind.mp h).mono (fun ds st1 h1 vs H1 o1 l s1 r => ?_) fun _ _ z => z⟩
  match ds, r, h1 with
  | [], _, h1 => exact False.elim h1
  | [_], _, h1 => exact False.elim h1
  | _ :: _ :: _ :: _, _, h1 => exact False.elim h1
  | [d, e], r, h1 =>
    obtain ⟨v, u, ev, rv, ru⟩ := r.two_of
    exact ⟨v, u, ev, (show EOk X.K H o D.nx ((ρ.set i (some d)).set j (some e)) st1 from h1) _ H1 o1 l s1 (((he.mono l.rep).set i rv).set j ru)⟩
end
end MP

namespace MP
open PySem L2
open PySem.Spec PyProof.Rows

/-! ## short names for what a program prints -/
@[simp] abbrev d1 (p : D → M D) (f : Den) : Den := fun ρ => f ρ >>= fun x => p x
@[simp] abbrev d2 (p : D → D → M D) (f g : Den) : Den := fun ρ => f ρ >>= fun x => g ρ >>= fun y => p x y
@[simp] abbrev oNone : DenO := fun _ => pure none
@[simp] abbrev oSome (f : Den) : DenO := fun ρ => f ρ >>= asI
@[simp] abbrev dSl (f : Den) (l h : DenO) : Den := fun ρ => f ρ >>= fun x => l ρ >>= fun a => h ρ >>= fun b => opSl a b x
@[simp] abbrev bVal (f : Den) : DenB := fun ρ => f ρ >>= asB
@[simp] abbrev bTrue : DenB := fun _ => pure true
@[simp] abbrev iVal (f : Den) : DenI := fun ρ => f ρ >>= itemsOf
@[simp] abbrev iRange1 (fs : DenL) : DenI := fun ρ => fs ρ >>= rng1
@[simp] abbrev iRange2 (fs : DenL) : DenI := fun ρ => fs ρ >>= rng2
def dNever : DenS := fun _ => M.stuck
section
variable {X : Cx} {E : XK} {x : Str} {pos : Pos}
theorem gl_ (h : X.env.kindOf x = some .globalImplicit) : Gl X x := h
theorem ps_never {s : Stmt} : PDS X E s dNever := ⟨fun _ _ _ _ _ _ h => by
  obtain ⟨o, ρ, st, _, _, h⟩ := h
  exact False.elim h⟩
theorem pd_non {j : Nat} : PD X E (.Constant .none j pos) (dC .non) := pd_const pe_non fun _ _ => rfl
theorem pd_bl {b : Bool} {j : Nat} : PD X E (.Constant (.bool b) j pos) (dC (.bl b)) := pd_const pe_bl fun _ _ => rfl
theorem pd_int {i : Int} {j : Nat} : PD X E (.Constant (.int i) j pos) (dC (.int i)) := pd_const pe_int fun _ _ => rfl
theorem pd_str {z : Str} {j : Nat} : PD X E (.Constant (.str z) j pos) (dC (.str z)) := pd_const pe_str fun _ _ => rfl
/-- a name's slot -/
def vB (N : List Str) (sc : Scope) (x : Str) (i : Nat) : Bool := decide (N[i]? = some x) && ((match sc.names.lookup x with
  | some .local => true
  | some .cell => true
  | some .free => true
  | _ => false) && (!(x == ("__debug__" : Str)) && !(x == ("__classdict__" : Str))))
theorem pv_ {i : Nat} (h : vB X.N X.env.scope x i = true) : PD X E (.Name x pos) (dVar i) := by
  unfold vB at h
  simp only [Bool.and_eq_true, Bool.not_eq_true'] at h
  obtain ⟨h1, h2, h3, h4⟩ := h
  refine pd_var (of_decide_eq_true h1) ?_ h3 h4
  unfold Vis
  split at h2
  · exact .inl (by assumption)
  · exact .inr (.inl (by assumption))
  · exact .inr (.inr (by assumption))
  · cases h2
end
theorem bb_isinstance : bootBuiltins "isinstance" = some (.builtin "isinstance") := by decide +kernel
theorem bb_len : bootBuiltins "len" = some (.builtin "len") := by decide +kernel
theorem bb_abs : bootBuiltins "abs" = some (.builtin "abs") := by decide +kernel
theorem bb_min : bootBuiltins "min" = some (.builtin "min") := by decide +kernel
theorem bb_max : bootBuiltins "max" = some (.builtin "max") := by decide +kernel
theorem bb_all : bootBuiltins "all" = some (.builtin "all") := by decide +kernel
theorem bb_any : bootBuiltins "any" = some (.builtin "any") := by decide +kernel
theorem bb_sum : bootBuiltins "sum" = some (.builtin "sum") := by decide +kernel
theorem bb_sorted : bootBuiltins "sorted" = some (.builtin "sorted") := by decide +kernel
theorem bb_int : bootBuiltins "int" = some (.type "int") := by decide +kernel
theorem bb_bool : bootBuiltins "bool" = some (.type "bool") := by decide +kernel
theorem bb_str : bootBuiltins "str" = some (.type "str") := by decide +kernel
theorem bb_list : bootBuiltins "list" = some (.type "list") := by decide +kernel
theorem bb_dict : bootBuiltins "dict" = some (.type "dict") := by decide +kernel
theorem bb_tuple : bootBuiltins "tuple" = some (.type "tuple") := by decide +kernel
abbrev plain_list := PySem.F.plainAttrs_list
abbrev plain_str := PySem.F.plainAttrs_str
abbrev slot_append := PySem.F.slot_list_append
abbrev slot_join := PySem.F.slot_str_join
abbrev slot_split := PySem.F.slot_str_split
abbrev ty_append := PySem.F.type_list_append
abbrev ty_join := PySem.F.type_str_join
abbrev ty_split := PySem.F.type_str_split

/-! ## names of the module that hold values -/
/-- a value that stands in the ground -/
def Grd (K : Frag) (d : D) (v : V) : Prop := ∀ H o, Rep K H o d v
structure GCon (K : Frag) (mg : Str → Option Value) (x : Str) (d : D) : Prop where
  ex : ∃ (u : Value) (v : V), mg x = some u ∧ RelV v u ∧ Grd K d v
theorem pd_glob {X : Cx} {E : XK} {x : Str} {d : D} {pos : Pos} (hg : Gl X x) (c : GCon X.K X.mg x d) (hd : (x == ("__debug__" : Str)) = false := by rfl) : PD X E (.Name x pos) (dC d) :=
  let ⟨u, v, hm, r, g⟩ := c.ex
  pd_const (pe_glob hg hm r hd) g
/-- a dict that stands in the ground -/
structure KDs (P : Program) (w : World) (K : Frag) (mg : Str → Option Value) (x : Str) (kd : List (Key × D)) : Prop where
  ex : ∃ (a : Addr) (kvs : List (Key × V)), mg x = some (.ref a) ∧ (a == sysModules) = false ∧ kvs.length ≤ big ∧ kvs.map (·.1) = kd.map (·.1) ∧ (∀ H o, Reps K H o (kd.map (·.2)) (kvs.map (·.2))) ∧
    ∀ h : Heap, K.In h → ∃ vs, KV kvs vs ∧ h.DictOf (mixKind P w) a vs
section
variable {X : Cx} {E : XK} {x y : Str} {kd : List (Key × D)} {p p1 pos : Pos}
def dKdict (kd : List (Key × D)) : Den := fun _ => pure (.dic (kd.map (·.1)) (kd.map (·.2)))
def keyV : Key → D
  | .inl i => .int i
  | .inr s => .str s
def dKlist (kd : List (Key × D)) : Den := fun _ => pure (.lst (kd.map fun q => keyV q.1))
theorem Reps.keys {K : Frag} {H : Hp} {o : Lo} : ∀ ks : List Key, Reps K H o (ks.map keyV) (ks.map kV)
  | [] => rfl
  | .inl i :: ks => ⟨_, _, rfl, rfl, Reps.keys ks⟩
  | .inr i :: ks => ⟨_, _, rfl, rfl, Reps.keys ks⟩
theorem call_copyK {a : Addr} {kvs : List (Key × V)} (hs : (a == sysModules) = false) (hl : kvs.length ≤ big) (hD : ∀ h : Heap, X.K.In h → ∃ vs, KV kvs vs ∧ h.DictOf (mixKind X.prog X.w) a vs) :
    CallR X (.type "dict") (fun xs H Q => xs = [.ref a] ∧ ∀ l, H l = none → Q (.ref l) (upd H l (.dK kvs))) := by
  intro pins s σ H xs us Q I r q
  obtain ⟨rfl, q⟩ := q
  obtain ⟨u, rfl, rx⟩ := vals1 r
  cases rx
  obtain ⟨vs, rel, dd⟩ := hD _ I.kIn
  have z : kvs.length ≤ sizeLine := Nat.le_trans hl big_le
  refine kt_call_dict hs dd (by rw [← rel.length]; exact z) fun h' d' g => ?_
  have hm : (s.heap.objs.size == sysModules) = false := beq_eq_false_iff_ne.mpr (Nat.ne_of_gt I.big)
  refine ⟨.ref s.heap.objs.size, upd H s.heap.objs.size (.dK kvs), I.laid (t' := s.toks) (fun b u e => ?_) (Nat.le_refl _) (show ObjOk X.prog X.w _ _ _ (.dK kvs) from ⟨z, hm, vs, rel, d'⟩), rfl, q _ (I.hok.fresh (Nat.le_refl _))⟩
  exact (g.2 b (Nat.ne_of_lt (Heap.lt_size e))).trans (Heap.get?_push_of_some _ e)
theorem call_keysK (hc : X.calm = true) {a : Addr} {kvs : List (Key × V)} (hs : (a == sysModules) = false) (hl : kvs.length ≤ big) (hD : ∀ h : Heap, X.K.In h → ∃ vs, KV kvs vs ∧ h.DictOf (mixKind X.prog X.w) a vs) :
    CallR X (.type "list") (fun xs H Q => xs = [.ref a] ∧ ∀ l, H l = none → Q (.ref l) (upd H l (.lst (kvs.map fun kv => kV kv.1)))) := by
  intro pins s σ H xs us Q I r q
  obtain ⟨rfl, q⟩ := q
  obtain ⟨u, rfl, rx⟩ := vals1 r
  cases rx
  obtain ⟨vs, rel, dd⟩ := hD _ I.kIn
  have z : kvs.length ≤ sizeLine := Nat.le_trans hl big_le
  obtain ⟨ep, hat⟩ := dd.dictAt
  have ek : (kvs.map fun kv => kV kv.1) = vs.map fun z => kV z.1 := by
    have e := congrArg (List.map kV) rel.keys
    rw [List.map_map, List.map_map] at e
    exact e
  refine PySem.W.kdl_call (PySem.W.kdl_dict (knd := mixKind X.prog X.w) (kvs := vs) (ep := ep) hs) (I.ok.hd hc) hat (by rw [← rel.length]; exact z) fun h' tk acc c' hk hD hacc => ?_
  have hv : Vals (vs.map fun z => kV z.1) acc.toList := keys_at (by rw [Array.length_toList]; exact hacc.1) fun j v e => hacc.2 j v (by rw [← Array.getElem?_toList]; exact e)
  refine ⟨.ref s.heap.objs.size, upd H s.heap.objs.size (.lst (kvs.map fun kv => kV kv.1)), I.laid (t' := tk) hk (Nat.le_refl _) ?_, rfl, q _ (I.hok.fresh (Nat.le_refl _))⟩
  exact (show ObjOk X.prog X.w _ _ _ (.lst (kvs.map fun kv => kV kv.1)) from ⟨by rw [List.length_map]; exact z, acc.toList, c', by rw [ek]; exact hv, by rw [Array.toArray_toList]; exact hD⟩)
theorem pd_Kdict (hg : Gl X x) (hm : X.mg x = none) (hv : bootBuiltins x = some (.type "dict")) (hg2 : Gl X y) (c : KDs X.prog X.w X.K X.mg y kd) (hn : x ≠ "__name__") (hdb : (x == ("__debug__" : Str)) = false) (hdb2 : (y == ("__debug__" : Str)) = false) : PD X E (.Call (.Name x p) [.Name y p1] [] pos) (dKdict kd) := by
  obtain ⟨a, kvs, hy, hs, hl, e1, e2, hD⟩ := c.ex
  refine PE.imp (pe_callTy (call_copyK hs hl hD) hg hm hv (pa_cons (pe_glob hg2 hy (v := .ref a) rfl hdb2) pa_nil) hn hdb rfl rfl) fun σ H Q h => ?_
  obtain ⟨o, ρ, st, he, so, h⟩ := h
  refine ⟨rfl, fun l hl => ?_⟩
  have q := Rep.newDic so hl (kvs := kvs) (e2 _ _)
  rw [e1] at q
  exact (show VOk X.K H o Q (.dic (kd.map (·.1)) (kd.map (·.2))) st from h) _ _ o (Le.new hl) (so.new hl) q
theorem pd_Klist (hg : Gl X x) (hm : X.mg x = none) (hv : bootBuiltins x = some (.type "list")) (hc : X.calm = true) (hg2 : Gl X y) (c : KDs X.prog X.w X.K X.mg y kd) (hn : x ≠ "__name__") (hdb : (x == ("__debug__" : Str)) = false) (hdb2 : (y == ("__debug__" : Str)) = false) : PD X E (.Call (.Name x p) [.Name y p1] [] pos) (dKlist kd) := by
  obtain ⟨a, kvs, hy, hs, hl, e1, e2, hD⟩ := c.ex
  refine PE.imp (pe_callTy (call_keysK hc hs hl hD) hg hm hv (pa_cons (pe_glob hg2 hy (v := .ref a) rfl hdb2) pa_nil) hn hdb rfl rfl) fun σ H Q h => ?_
  obtain ⟨o, ρ, st, he, so, h⟩ := h
  refine ⟨rfl, fun l hl => ?_⟩
  refine ok_newLst (ds := kd.map fun q => keyV q.1) (show VOk X.K H o Q (.lst (kd.map fun q => keyV q.1)) st from h) so ?_ hl
  have e3 : (kd.map fun q => keyV q.1) = (kd.map (·.1)).map keyV := by rw [List.map_map]; rfl
  have e4 : (kvs.map fun q => kV q.1) = (kvs.map (·.1)).map kV := by rw [List.map_map]; rfl
  rw [e3, e4, e1]
  exact Reps.keys _
end
end MP

namespace MP
open PySem L2
open PySem.Spec PyProof.Rows

/-! ## sum(x): of a tuple too -/
section
variable {prog : Program} {w : World} {A : Around} {E : Value → Shared → Prop} {s : Shared} {l : Addr} {its : List Value} {ns : List Int} {Q : Value → Shared → Prop}
theorem sum_tup (hh : A.handled = none) (hl : s.heap.IsTuple l its.toArray) (hi : IntsAre its ns)
    (h : ∀ h' tk t', (∀ b o, s.heap.get? b = some o → h'.get? b = some o) → Q (.int ns.sum t') { s with heap := h', toks := tk }) : wpAny (model prog w) A (call (.builtin "sum") [.ref l]) Q E s := by
  obtain ⟨xs, e⟩ := hi.allInts.items
  have hn : numsOf (intItems xs).toList = ns := by rw [← e]; exact hi.numsOf
  rw [nums_intItems] at hn
  rw [e] at hl
  have hlt : l < s.heap.objs.size := by obtain ⟨_, z, _⟩ := hl; exact Heap.lt_size z
  refine call_sum_walkG (wpAny_pyIter_tuple hl ?_)
  refine ⟨_, [_, l], [_], _, _, _, numAt xs, rfl, Walks.tuple (A := A.in1) hh _ l (Nat.ne_of_lt hlt) (intItems xs), ⟨⟨_, Heap.get?_push_size _ rfl, rfl, rfl⟩, hl.push _⟩, fun b hb => ?_, (fun _ _ => intItems_at), fun h' tk t' hk => ?_⟩
  · show b < (s.heap.push _).objs.size
    rw [Heap.size_push]
    rcases List.mem_cons.mp hb with rfl | hb
    · exact Nat.lt_succ_self _
    · rcases List.mem_cons.mp hb with rfl | hb
      · exact Nat.lt_succ_of_lt hlt
      · cases hb
  · have e2 : preSum (numAt xs) (intItems xs).size = ns.sum := by
      rw [show (intItems xs).size = xs.size by simp [intItems], preSum_eq, List.take_of_length_le (by simp), hn]
    rw [e2]
    refine h h' tk t' fun b o eo => hk b o (fun hm => ?_) (Heap.get?_push_of_some _ eo)
    rcases List.mem_cons.mp hm with e1 | hm
    · have := Heap.lt_size eo
      rw [e1] at this
      exact absurd this (Nat.lt_irrefl _)
    · cases hm
end
section
variable {X : Cx} {E : XK}
theorem cr_sumT (hc : X.calm = true) : CallR X (.builtin "sum") (fun vs H Q => ∃ (a : Addr) (ns : List Int), vs = [V.ref a] ∧ SqT X.K H a (ns.map V.int) ∧ Q (.int ns.sum) H) := by
  intro pins s σ H vs us Q I r h
  obtain ⟨a, ns, rfl, hs, q⟩ := h
  obtain ⟨its, rv, hl, _⟩ := I.tuple hs
  rw [Vals.ref1 r]
  exact sum_tup (I.ok.hd hc) (show s.heap.IsTuple a its.toArray from hl) rv.ints fun h' tk t' hk => ⟨.int _, H, I.kept hk, ⟨_, rfl⟩, q⟩
def biSumA : D → M D
  | .lst ds => sumL ds
  | .tup ds => sumL ds
  | _ => M.stuck
theorem cd_sum (hc : X.calm = true) : CallD X E (.builtin "sum") (on1 biSumA) := cd_on1 fun pins s σ H v us Q d o st I r r1 so h => by
  have key : ∀ ds, wpR (sumL ds st) (VOk X.K H o Q) (XOk X.K E H o) → ∃ ns : List Int, ds = ns.map D.int ∧ Q (.int ns.sum) H := fun ds h => by
    unfold sumL at h
    cases q : intsD ds with
    | none => rw [q] at h; exact False.elim h
    | some ns => rw [q] at h; exact ⟨ns, intsD_eq q, ok_flat h so rfl⟩
  cases d with
  | lst ds =>
    obtain ⟨a, ys, rfl, k1, _, q1⟩ := r1
    obtain ⟨ns, e, hq⟩ := key ds h
    subst e
    rw [q1.ints] at k1
    exact cr_sum hc pins s σ H _ us Q I r ⟨a, ns, rfl, SqL.of k1, hq⟩
  | tup ds =>
    obtain ⟨a, ys, rfl, k1, q1⟩ := r1
    obtain ⟨ns, e, hq⟩ := key ds h
    subst e
    rw [q1.ints] at k1
    exact cr_sumT hc pins s σ H _ us Q I r ⟨a, ns, rfl, tup_sq k1, hq⟩
  | _ => exact False.elim h
end
end MP

namespace MP
open PySem L2
open PySem.Spec PyProof.Rows

/-! ## facts behind the top -/
section
variable {P : Program} {w : World} {K : Frag} {mg : Str → Option Value} {h : Heap}
theorem reps_of_strs : ∀ (zs : List Str) H o, Reps K H o (zs.map D.str) (zs.map V.str) := fun zs _ _ => Reps.ofStrs zs
theorem gcon_tup {x : Str} {zs : List Str} (X : K.In h) (G : h.Ns mainGlobals mg) (g : (He.Fa.glo x).ok K = true) (t : He.tupB K x (zs.map He.Dv.str) = true) : GCon K mg x (.tup (zs.map D.str)) := by
  refine ⟨.ref (He.ga K x), .ref (He.ga K x), He.glo_ok X G g, rfl, fun H o => ?_⟩
  have e : (zs.map He.Dv.str).map (He.Dv.v K) = zs.map V.str := by rw [List.map_map]; rfl
  have s := He.tupB_ok t (fun _ => none)
  rw [e] at s
  rcases s with s | s
  · rcases s with s | ⟨_, s⟩ <;> cases s
  · exact ⟨_, _, rfl, .inr s, Reps.ofStrs zs⟩
theorem gcon_int {x : Str} {i : Int} (X : K.In h) (G : h.Ns mainGlobals mg) (g : (He.Fa.int x i).ok K = true) : GCon K mg x (.int i) :=
  let ⟨t, e⟩ := He.int_ok X G g
  ⟨_, .int i, e, ⟨t, rfl⟩, fun _ _ => rfl⟩
theorem gcon_str {x z : Str} (X : K.In h) (G : h.Ns mainGlobals mg) (g : (He.Fa.str x z).ok K = true) : GCon K mg x (.str z) :=
  let ⟨t, e⟩ := He.str_ok X G g
  ⟨_, .str z, e, ⟨t, rfl⟩, fun _ _ => rfl⟩
/-- the values of a dict in the ground -/
def valsD (K : Frag) (a : Addr) (vs : List V) : Bool := match K.lookup a with
  | some ⟨_, _, .dict es _, _⟩ => He.relAll vs (es.toList.map (·.val))
  | _ => false
theorem dict_pairs : ∀ {l : List DictEntry} {ks : List Str} {vs : List V}, l.map He.keyOf = He.keysIn w.params ks → Vals vs (l.map (·.val)) →
    (∀ e ∈ l, ∃ k, (mixKind P w).is k e.key = true ∧ e.hash = (mixKind P w).hash k) ∧ ∃ rs : List (Key × Value), Pairs (mixKind P w) l rs ∧ rs.map (·.1) = ks.map Sum.inr ∧ KV ((ks.zip vs).map fun q => ((Sum.inr q.1 : Key), q.2)) rs ∧ vs.length = ks.length
  | [], [], vs, _, r => by
    cases r
    exact ⟨fun e h => (by cases h), [], .nil, rfl, .nil, rfl⟩
  | [], _ :: _, _, h, _ => by cases h
  | _ :: _, [], _, h, _ => by cases h
  | e :: l, k :: ks, vs, h, r => by
    cases r with
    | @cons v u vs us rv rvs =>
      have h1 : He.keyOf e :: l.map He.keyOf = some (k, PyData.keyHash w.params k) :: He.keysIn w.params ks := h
      injection h1 with h2 h3
      obtain ⟨q1, rs, q2, q3, q4, q5⟩ := dict_pairs h3 rvs
      have hk : (mixKind P w).is (Sum.inr k) e.key = true ∧ e.hash = (mixKind P w).hash (Sum.inr k) := by
        unfold He.keyOf at h2
        split at h2
        · rename_i x t q
          have h4 := Option.some.inj h2
          obtain ⟨h5, h6⟩ := Prod.mk.inj h4
          subst h5
          exact ⟨by rw [q]; exact decide_eq_true rfl, h6⟩
        · cases h2
      refine ⟨fun e' he' => ?_, (Sum.inr k, e.val) :: rs, .cons hk.1 rfl q2, by rw [List.map_cons, List.map_cons, q3], .cons ⟨rfl, rv⟩ q4, by rw [List.length_cons, List.length_cons, q5]⟩
      rcases List.mem_cons.mp he' with rfl | he'
      · exact ⟨_, hk⟩
      · exact q1 e' he'
theorem kds_of {x : Str} {ks zs : List Str} (X : K.In h) (G : h.Ns mainGlobals mg) (g : (He.Fa.glo x).ok K = true) (hk : He.dicW K (He.ga K x) = some (He.keysIn w.params ks)) (hv : valsD K (He.ga K x) (zs.map V.str) = true) (nd : ks.Nodup) (hl : ks.length ≤ big) :
    KDs P w K mg x ((ks.zip zs).map fun q => ((Sum.inr q.1 : Key), D.str q.2)) := by
  obtain ⟨es, n, kd⟩ := He.dicW_ok hk
  have e1 : es.toList.map He.keyOf = He.keysIn w.params ks := by
    unfold He.dicW at hk
    rw [kd.at_] at hk
    have hk' : (match decide ("dict" = "dict") && ((#[] : Array (Option Value)).isEmpty && !(He.ga K x == sysModules)) with
      | true => some (es.toList.map He.keyOf)
      | false => none) = some (He.keysIn w.params ks) := hk
    split at hk'
    · exact Option.some.inj hk'
    · cases hk'
  have e2 : He.relAll (zs.map V.str) (es.toList.map (·.val)) = true := by
    unfold valsD at hv
    rw [kd.at_] at hv
    exact hv
  obtain ⟨q1, rs, q2, q3, q4, q5⟩ := dict_pairs (P := P) e1 (He.relAll_ok e2)
  have hz : ((ks.zip (zs.map V.str)).map fun q => ((Sum.inr q.1 : Key), q.2)) = (ks.zip zs).map fun q => ((Sum.inr q.1 : Key), V.str q.2) := by
    rw [List.zip_map_right, List.map_map]; rfl
  rw [hz] at q4
  have q5' : zs.length = ks.length := by simpa using q5
  refine ⟨He.ga K x, (ks.zip zs).map fun q => ((Sum.inr q.1 : Key), V.str q.2), He.glo_ok X G g, kd.low, ?_, ?_, fun H o => ?_, fun h2 X2 => ⟨rs, q4, ?_⟩⟩
  · rw [List.length_map, List.length_zip]; omega
  · rw [List.map_map, List.map_map]; rfl
  · rw [List.map_map, List.map_map]
    have ez : ∀ (f : Str → D), ((ks.zip zs).map ((·.2) ∘ fun q => ((Sum.inr q.1 : Key), f q.2))) = zs.map f := fun f => by
      rw [show ((fun (z : Key × D) => z.2) ∘ fun (q : Str × Str) => ((Sum.inr q.1 : Key), f q.2)) = f ∘ Prod.snd from rfl, ← List.map_map, List.map_snd_zip (by omega)]
    have ez2 : ((ks.zip zs).map ((fun (z : Key × V) => z.2) ∘ fun q => ((Sum.inr q.1 : Key), V.str q.2))) = zs.map V.str := by
      rw [show ((fun (z : Key × V) => z.2) ∘ fun (q : Str × Str) => ((Sum.inr q.1 : Key), V.str q.2)) = V.str ∘ Prod.snd from rfl, ← List.map_map, List.map_snd_zip (by omega)]
    rw [ez, ez2]
    exact Reps.ofStrs zs
  · obtain ⟨a1, a2⟩ : h2.get? (He.ga K x) = some ⟨.type "dict", none, .dict es n, #[]⟩ ∧ True := ⟨X2 _ _ kd.at_, trivial⟩
    exact ⟨_, es, n, a1, ⟨rfl, rfl, rfl⟩, rfl, fun e he => q1 e (Array.mem_toList_iff.mpr he), q2, by rw [q3]; exact List.Pairwise.map _ (fun a b z e => z (Sum.inr.inj e)) nd⟩
theorem dn_of {fa : List He.Fa} {fn : List He.DefD} {x qual : Str} {params : Arguments} {body : List Stmt} {scope : Scope} {ps : List Str} (X : K.In h) (G : h.Ns mainGlobals mg) (c : He.SaysD fa fn K) (i : Nat) (hf : fn[i]? = some ⟨(x, none), x, qual, params, body, scope, [], []⟩) (g : (He.Fa.glo x).ok K = true)
    (hb : ∀ (kV doc pm : Value) (an : Option Addr) (cdv ct : Value) (us : List Value), us.length = ps.length → bindArgs (PySem.W.fnOf x qual params body scope .none kV doc pm an cdv ct) ⟨us, []⟩ = pure (ps.zip us)) : Dn K mg x qual params body scope ps := by
  obtain ⟨fd, F⟩ := c.def_ i hf
  exact ⟨_, fd, F, He.glo_ok X G g, F.bindsN hb⟩
end

/-! ## the Hook: .. and tests of one's own -/
abbrev AlM : Type := He.AlT × Bool
def obsM (fa : List He.Fa) (fn : List He.DefD) (ts : List He.Tab) (tt : List (Frag → Bool)) (K : Frag) : AlM := (He.obsT fa fn ts K, tt.all fun t => t K)
def valM (fn : List He.DefD) (ts : List He.Tab) (w : World) : AlM := (He.valT fn ts w, true)
def obsMG (n : Nat) (fa : List He.Fa) (fn : List He.DefD) (ts : List He.Tab) (tt : List (Frag → Bool)) (g : Addr → Option Obj) : AlM := obsM fa fn ts tt (He.frG g (He.asD g n))
def SaysM (fa : List He.Fa) (fn : List He.DefD) (ts : List He.Tab) (tt : List (Frag → Bool)) (w : World) (K : Frag) : Prop := obsM fa fn ts tt K = valM fn ts w
def hookM (n : Nat) (fa : List He.Fa) (fn : List He.DefD) (ts : List He.Tab) (tt : List (Frag → Bool)) : PySem.W.Hook where
  α := AlM
  obs := fun s => obsMG n fa fn ts tt s.heap.get?
  val := fun w => valM fn ts w
  says := fun w h => ∃ K : Frag, K.In h ∧ SaysM fa fn ts tt w K
  of := fun _ _ e => ⟨_, He.frG_in, e⟩
  keeps := fun _ _ _ ⟨K, hK, c⟩ k => ⟨K, PySem.W.Frag.In.keeps hK k, c⟩
theorem obsMG_eq {n : Nat} {fa : List He.Fa} {fn : List He.DefD} {ts : List He.Tab} {tt : List (Frag → Bool)} {g : Addr → Option Obj} {s : Shared} (q : ∀ a, g a = s.heap.get? a) : obsMG n fa fn ts tt g = (hookM n fa fn ts tt).obs s := by
  have e : g = s.heap.get? := funext q
  subst e
  rfl
section
variable {fa : List He.Fa} {fn : List He.DefD} {ts : List He.Tab} {tt : List (Frag → Bool)} {w : World} {K : Frag}
theorem SaysM.t (c : SaysM fa fn ts tt w K) : He.SaysT fa fn ts w K := congrArg (fun z : AlM => z.1) c
theorem SaysM.d (c : SaysM fa fn ts tt w K) : He.SaysD fa fn K := c.t.d
theorem SaysM.fact (c : SaysM fa fn ts tt w K) (i : Nat) {f : He.Fa} (q : fa[i]? = some f) : f.ok K = true := c.d.fact i q
theorem SaysM.test (c : SaysM fa fn ts tt w K) (i : Nat) {f : Frag → Bool} (q : tt[i]? = some f) : f K = true :=
  List.all_eq_true.mp (show (tt.all fun t => t K) = true from congrArg (fun z : AlM => z.2) c) f (List.mem_of_getElem? q)
theorem SaysM.keys (c : SaysM fa fn ts tt w K) (i : Nat) {t : He.Tab} (q : ts[i]? = some t) : He.dicW K (t.1 K) = some (He.keysIn w.params t.2) := by
  have e : ts.map (fun t => He.dicW K (t.1 K)) = ts.map fun t => some (He.keysIn w.params t.2) := congrArg (fun z : AlM => z.1.2) c
  have e2 := congrArg (fun l => l[i]?) e
  simp only [List.getElem?_map, q, Option.map_some] at e2
  exact Option.some.inj e2
end

/-! ## the end -/
theorem walk_ofM {l : PySem.W.OpenLaw} {n k : Nat} {q : Program} {loose : List Str} {XP : (Str → Option Value) → Heap → Prop} {YP : World → Heap → Prop} {d : DefRec} {x : Str} {m : List D → M D}
    (hn : l.most = some n) (hn2 : n ≤ sizeLine) (hdf : d.params.defaults = []) (hr : Room k callerA)
    (F : ∀ (w : World) (mg : Str → Option Value) (h : Heap), YP w h → h.Ns mainGlobals mg →
      ∃ K : Frag, K.In h ∧ ∀ fa : Addr, mg d.name = some (.ref fa) → ∃ fd : FuncData, (∀ (s : Shared) (u : Value), BindsTo s fd ⟨[u], []⟩ [(x, u)]) ∧
        ∀ base : Heap, K.In base → base.Ns mainGlobals mg → FnOk l.prog w K mg base (L2.CX l.prog w) k fa fd [x] (spD K 1 m))
    (hm : ∀ ns : List Int, ns.length ≤ n → (∀ z ∈ ns, Builtin.Int.intBits z ≤ 1048576) → ∃ st, m [.scr ns] [] = .ok (.bl true) st) :
    PySem.W.WalkO q loose XP YP l.row.toRowW d [] (fun f vs => PySem.call f vs) := by
  refine Att.attach_callB hn hdf fun w s0 s1 mg mb fa o pm cd doc a vs ns G Y ho hd hcd hmg hobj hints hlen hbits hg => ?_
  obtain ⟨K, KX, hF⟩ := F w mg _ Y G.T.g
  obtain ⟨fd, hb, hF⟩ := hF fa hmg
  refine law_call KX G.T.g G.T.b G.T.builtins G.T.nolimit hg hobj hints (Nat.le_trans hlen hn2) hr hF hb (fun H hO hS => ?_) fun H e s' cx => ?_
  · obtain ⟨st, e⟩ := hm ns hlen hbits
    refine ⟨⟨[], []⟩, [.scr ns], [], ⟨.ref a, [], rfl, ⟨a, rfl, ?_⟩, rfl⟩, rfl, ⟨rfl, fun n m a z _ => by simp at z, fun a z => by simp at z, fun n c z => by simp at z⟩, ?_⟩
    · rcases hS with hS | hS
      · rcases hS with hS | ⟨ob, hS⟩
        · rcases hO a with z | ⟨o, xs, z⟩ <;> rw [hS] at z <;> cases z
        · exact .inl ⟨ob, hS, by simp [Lo.av]⟩
      · exact .inr hS
    · rw [e]
      exact fun v H' o' _ _ r => r
  · obtain ⟨_, _, _, _, _, _, _, _, _, _, _, _, hE⟩ := cx
    exact hE
end MP

namespace MP
open PySem L2
open PySem.Spec PyProof.Rows
/-! ## running meanings -/
def T {α : Type} (m : M α) (st : Store) (Q : α → Store → Prop) : Prop := wpR (m st) Q (fun _ _ => False)
section
variable {α β : Type} {st st' : Store}
theorem T.bind {m : M α} {f : α → M β} {Q : β → Store → Prop} {P : α → Store → Prop} (h : T m st P) (k : ∀ a st', P a st' → T (f a) st' Q) : T (m >>= f) st Q :=
  wpR.bind.mpr (wpR.mono h k fun _ _ z => z)
theorem T.mono {m : M α} {P Q : α → Store → Prop} (h : T m st P) (k : ∀ a st', P a st' → Q a st') : T m st Q := wpR.mono h k fun _ _ z => z
theorem T.ok {m : M α} {a : α} {Q : α → Store → Prop} (e : m st = .ok a st') (h : Q a st') : T m st Q := by
  unfold T; rw [e]; exact h
theorem T.get {m : M α} {Q : α → Store → Prop} (h : T m st Q) : ∃ a st', m st = .ok a st' ∧ Q a st' := by
  unfold T at h
  cases q : m st with
  | ok a st' => rw [q] at h; exact ⟨a, st', rfl, h⟩
  | exn e st' => rw [q] at h; exact h.elim
  | stuck => rw [q] at h; exact h.elim
@[simp] theorem t_bind {m : M α} {f : α → M β} {Q : β → Store → Prop} : T (m >>= f) st Q = T m st (fun a s => T (f a) s Q) := propext wpR.bind
@[simp] theorem t_map {m : M α} {f : α → β} {Q : β → Store → Prop} : T (f <$> m) st Q = T m st (fun a s => Q (f a) s) := by
  rw [map_eq_pure_bind, t_bind]; rfl
@[simp] theorem t_pure {a : α} {Q : α → Store → Prop} : T (pure a : M α) st Q = Q a st := rfl
@[simp] theorem t_guard {c : Bool} {m : M D} {Q : D → Store → Prop} : T (guardM c m) st Q = (c = true ∧ T m st Q) := by
  cases c with
  | true => exact propext ⟨fun h => ⟨rfl, h⟩, fun h => h.2⟩
  | false => exact propext ⟨fun h => False.elim h, fun h => by cases h.1⟩
@[simp] theorem t_guardL {c : Bool} {m : M α} {Q : α → Store → Prop} : T (guardL c m) st Q = (c = true ∧ T m st Q) := by
  cases c with
  | true => exact propext ⟨fun h => ⟨rfl, h⟩, fun h => h.2⟩
  | false => exact propext ⟨fun h => False.elim h, fun h => by cases h.1⟩
@[simp] theorem t_cond {c : Bool} {m m' : M α} {Q : α → Store → Prop} : T (cond c m m') st Q = ((c = true → T m st Q) ∧ (c = false → T m' st Q)) := by
  cases c <;> simp
@[simp high] theorem cond_pure {c : Bool} {a b : α} : (cond c (pure a) (pure b) : M α) = pure (cond c a b) := by cases c <;> rfl
@[simp] theorem t_ixr {n : Nat} {k : D} {Q : D → Store → Prop} : T (opIx (.ref n) k) st Q = T (ixCell st[n]? k) st Q := rfl
@[simp] theorem t_lenr {n : Nat} {Q : D → Store → Prop} : T (biLen (.ref n)) st Q = T (cellLen st[n]?) st Q := rfl
def setMc (n : Nat) : Option Cell → M Unit
  | some c => fun st => .ok () (st.set n c)
  | none => M.stuck
@[simp] theorem t_setr {n : Nat} {i v : D} {Q : Unit → Store → Prop} : T (setM (.ref n) i v) st Q = T (setMc n (setCell st[n]? i v)) st Q := by
  unfold T
  show wpR (match setCell st[n]? i v with | some c => R.ok () (st.set n c) | none => .stuck) Q _ = wpR (setMc n (setCell st[n]? i v) st) Q _
  cases setCell st[n]? i v <;> rfl
@[simp] theorem t_setc {n : Nat} {c : Cell} {Q : Unit → Store → Prop} : T (setMc n (some c)) st Q = Q () (st.set n c) := rfl
@[simp] theorem t_alloc {c : Cell} {Q : D → Store → Prop} : T (M.alloc c) st Q = Q (.ref st.length) (st ++ [c]) := rfl
@[simp] theorem t_stuck {Q : α → Store → Prop} : T (M.stuck : M α) st Q = False := rfl
@[simp] theorem t_noX {m : M α} {Q : α → Store → Prop} : T (noX m) st Q = T m st Q := by
  unfold T noX
  cases m st <;> rfl
@[simp] theorem big_lt' : (n < big) = (n < 16000000) := rfl
@[simp] theorem big_eq : (n ≤ big) = (n ≤ 16000000) := rfl
def lcl : Option Cell → M (List D)
  | some (.lst ds) => pure ds
  | _ => M.stuck
@[simp] theorem lcl_s {ds : List D} : lcl (some (.lst ds)) = pure ds := rfl
@[simp] theorem t_lstr {n : Nat} {Q : List D → Store → Prop} : T (lstOf (.ref n)) st Q = T (lcl st[n]?) st Q := by
  unfold T
  show wpR (match st[n]? with | some (.lst ds) => R.ok ds st | _ => .stuck) Q _ = _
  cases h : st[n]? with
  | none => rfl
  | some c => cases c <;> rfl
@[simp] theorem tuple_r {n : Nat} : biTuple (.ref n) = lstOf (.ref n) >>= fun ds => pure (.tup ds) := rfl
@[simp] theorem list_r {n : Nat} : biList (.ref n) = lstOf (.ref n) >>= fun ds => pure (.lst ds) := rfl
@[simp] theorem sl_r {n : Nat} {lo hi : Option Int} : opSl lo hi (.ref n) = lstOf (.ref n) >>= fun ds => pure (.lst (cutL ds lo hi)) := rfl
def isl : Option Cell → M Unit
  | some (.lst _) => pure ()
  | _ => M.stuck
@[simp] theorem isl_s {ds : List D} : isl (some (.lst ds)) = pure () := rfl
@[simp] theorem t_isl {n : Nat} {Q : Unit → Store → Prop} : T (isTy "list" (.ref n)) st Q = T (isl st[n]?) st Q := by
  unfold T
  show wpR (match st[n]? with | some (.lst _) => R.ok () st | _ => .stuck) Q _ = _
  cases h : st[n]? with
  | none => rfl
  | some c => cases c <;> rfl
def wrc (n : Nat) (c : Cell) : M D := fun st => .ok .non (st.set n c)
def apc (n : Nat) (v : D) : Option Cell → M D
  | some (.lst ds) => guardM (decide (ds.length < big)) (wrc n (.lst (ds ++ [v])))
  | _ => M.stuck
@[simp] theorem t_app {n : Nat} {v : D} {Q : D → Store → Prop} : T (mAppend (.ref n) [v]) st Q = T (apc n v st[n]?) st Q := by
  unfold T
  show wpR (match st[n]? with | some (.lst ds) => bif decide (ds.length < big) then R.ok .non (st.set n (.lst (ds ++ [v]))) else .stuck | _ => .stuck) Q _ = _
  cases h : st[n]? with
  | none => rfl
  | some c =>
    cases c with
    | lst ds =>
      show wpR (bif decide (ds.length < big) then R.ok D.non (st.set n (.lst (ds ++ [v]))) else .stuck) Q _ = wpR (guardM (decide (ds.length < big)) (wrc n (.lst (ds ++ [v]))) st) Q _
      cases decide (ds.length < big) <;> rfl
    | _ => rfl
@[simp] theorem t_apc {n : Nat} {v : D} {ds : List D} {Q : D → Store → Prop} : T (apc n v (some (.lst ds))) st Q = (ds.length < big ∧ Q .non (st.set n (.lst (ds ++ [v])))) := by
  show T (guardM (decide (ds.length < big)) (wrc n (.lst (ds ++ [v])))) st Q = _
  rw [t_guard, decide_eq_true_eq]
  rfl
theorem set_get {n : Nat} {c c' : Cell} (h : st[n]? = some c) : (st.set n c')[n]? = some c' := List.getElem?_set_self (List.getElem?_eq_some_iff.mp h).1
end
def RetQ (Q : D → Store → Prop) : Fl → Store → Prop
  | .nx _, s => Q .non s
  | .rt d, s => Q d s
  | _, _ => False
@[simp] theorem retQ_rt {Q : D → Store → Prop} {d : D} {s : Store} : RetQ Q (.rt d) s = Q d s := rfl
@[simp] theorem retQ_nx {Q : D → Store → Prop} {ρ : Env} {s : Store} : RetQ Q (.nx ρ) s = Q .non s := rfl
section
variable {n i : Nat} {b : DenS} {ds : List D} {st : Store} {f : Den} {f' g' g h k : DenS} {c : DenB} {ρ : Env} {js : List Nat} {fs : DenL}
theorem t_run {Q : D → Store → Prop} : T (runDef n b ds) st Q = T (b (ds.map some ++ List.replicate (n - ds.length) none)) st (RetQ Q) := by
  unfold runDef
  rw [t_bind]
  congr 1
  funext r s
  cases r <;> rfl
variable {Q : Fl → Store → Prop}
theorem t_asg : T (dSeq (dAsg f (gSet i)) g ρ) st Q = T (f ρ) st (fun d s => T (g (ρ.set i (some d))) s Q) := by
  unfold dSeq dAsg gSet
  simp only [t_bind, t_pure]
theorem t_asg1 : T (dAsg f (gSet i) ρ) st Q = T (f ρ) st (fun d s => Q (.nx (ρ.set i (some d))) s) := by
  unfold dAsg gSet
  simp only [t_bind, t_pure]
theorem t_ifs : T (dSeq (dIfS c f' g') k ρ) st Q = T (c ρ) st (fun b s => (b = true → T (dSeq f' k ρ) s Q) ∧ (b = false → T (dSeq g' k ρ) s Q)) := by
  unfold dSeq dIfS
  simp only [t_bind]
  congr 1
  funext b s
  cases b <;> simp
theorem t_ifs1 : T (dIfS c g h ρ) st Q = T (c ρ) st (fun b s => (b = true → T (g ρ) s Q) ∧ (b = false → T (h ρ) s Q)) := by
  unfold dIfS
  simp only [t_bind]
  congr 1
  funext b s
  cases b <;> simp
@[simp] theorem t_skip : T (dSeq dSkip g ρ) st Q = T (g ρ) st Q := by
  unfold dSeq dSkip
  simp only [t_bind, t_pure]
@[simp] theorem t_skip1 : T (dSkip ρ) st Q = Q (.nx ρ) st := rfl
theorem t_ret : T (dSeq (dRet f) g ρ) st Q = T (f ρ) st (fun d s => Q (.rt d) s) := by
  unfold dSeq dRet
  simp only [t_bind, t_pure]
theorem t_ret1 : T (dRet f ρ) st Q = T (f ρ) st (fun d s => Q (.rt d) s) := by
  unfold dRet
  simp only [t_bind, t_pure]
theorem t_retN : T (dRetN ρ) st Q = Q (.rt .non) st := rfl
theorem t_seq : T (dSeq (dSeq g h) k ρ) st Q = T (dSeq g (dSeq h k) ρ) st Q := by
  unfold dSeq
  simp only [t_bind]
  congr 1
  funext r s
  cases r <;> simp
theorem t_tg {t : Tg} : T (dSeq (dAsg f (gOf t)) g ρ) st Q = T (f ρ) st (fun d s => T (optE (t.bind d ρ)) s fun ρ' s => T (g ρ') s Q) := by
  unfold dSeq dAsg gOf
  simp only [t_bind, t_pure]
@[simp] theorem optE_s {ρ : Env} : optE (some ρ) = pure ρ := rfl
theorem t_par : T (dSeq (dPar js fs) g ρ) st Q = T (fs ρ) st (fun ds s => ds.length = js.length ∧ T (g ((js.zip ds).foldl (fun r p => r.set p.1 (some p.2)) ρ)) s Q) := by
  unfold dSeq dPar
  simp only [t_bind]
  congr 1
  funext ds s
  cases q : ds.length == js.length with
  | true => simp [eq_of_beq q]
  | false => simp; intro e; rw [e, beq_self_eq_true] at q; cases q
theorem t_exp : T (dSeq (dExpr f) g ρ) st Q = T (f ρ) st (fun _ s => T (g ρ) s Q) := by
  unfold dSeq dExpr
  simp only [t_bind, t_pure]
theorem t_for1 {it : DenI} {gt : DenG} : T (dFor it gt b ρ) st Q = T (it ρ) st (fun ds s => T (forL (fun d ρ => gt d ρ >>= b) ds ρ) s Q) := by
  unfold dFor
  simp only [t_bind]
theorem t_exp1 : T (dExpr f ρ) st Q = T (f ρ) st (fun _ s => Q (.nx ρ) s) := by
  unfold dExpr
  simp only [t_bind, t_pure]
@[simp] theorem gOf_nm {i : Nat} {d : D} : gOf (.nm i) d ρ = pure (ρ.set i (some d)) := rfl
theorem t_for {it : DenI} {gt : DenG} : T (dSeq (dFor it gt b) g ρ) st Q = T (it ρ) st (fun ds s => T (forL (fun d ρ => gt d ρ >>= b) ds ρ) s fun r s => T (match r with | .nx ρ' => g ρ' | .rt d => pure (.rt d) | .bk ρ' => pure (.bk ρ') | .ct ρ' => pure (.ct ρ')) s Q) := by
  unfold dSeq dFor
  simp only [t_bind] <;> rfl
/-- a loop that always goes on -/
theorem forL_inv {b : D → DenS} {I : Env → Store → Prop} : ∀ {ds : List D} {ρ : Env} {st : Store}, I ρ st → (∀ d ∈ ds, ∀ ρ st, I ρ st → T (b d ρ) st (fun r s => ∃ ρ', r = .nx ρ' ∧ I ρ' s)) → T (forL b ds ρ) st (fun r s => ∃ ρ', r = .nx ρ' ∧ I ρ' s)
  | [], ρ, st, h, _ => ⟨ρ, rfl, h⟩
  | d :: ds, ρ, st, h, k => by
    unfold forL
    rw [t_bind]
    refine (k d List.mem_cons_self ρ st h).mono fun r s hr => ?_
    obtain ⟨ρ', rfl, h'⟩ := hr
    exact forL_inv h' fun x hx => k x (List.mem_cons_of_mem _ hx)
end
theorem lg2 {n k : Nat} (h : n < 2 ^ k) (hk : 0 < k) : n.log2 < k := by
  by_cases h0 : n = 0
  · subst h0; simpa using hk
  · exact (Nat.log2_lt h0).mpr h
theorem lg {x : Int} (h0 : 0 ≤ x) (h : x < 1152921504606846976) : x.natAbs.log2 < 60 := lg2 (by omega) (by decide)
section
variable {i j : Int} {xs ys ds : List D} {a b : Str} {p : Int → Int → Bool} {bb : Bool} {k : D} {lo hi : Option Int}
@[simp] theorem add_ii : opAdd (.int i) (.int j) = pure (.int (i + j)) := rfl
@[simp] theorem add_ss : opAdd (.str a) (.str b) = guardM (decide (a.length + b.length ≤ big)) (pure (.str (a ++ b))) := rfl
@[simp] theorem add_tt : opAdd (.tup xs) (.tup ys) = guardM (decide (xs.length + ys.length ≤ big)) (pure (.tup (xs ++ ys))) := rfl
@[simp] theorem add_ll : opAdd (.lst xs) (.lst ys) = guardM (decide (xs.length + ys.length ≤ big)) (pure (.lst (xs ++ ys))) := rfl
@[simp] theorem sub_ii : opSub (.int i) (.int j) = pure (.int (i - j)) := rfl
@[simp] theorem mul_ii : opMul (.int i) (.int j) = guardM (decide (i.natAbs.log2 + j.natAbs.log2 < 1000000)) (pure (.int (i * j))) := rfl
@[simp] theorem mul_li : opMul (.lst xs) (.int i) = guardM (decide (-(2 ^ 63) ≤ i ∧ i < 2 ^ 63 ∧ xs.length * i.toNat ≤ big)) (pure (.lst (List.replicate i.toNat xs).flatten)) := rfl
@[simp] theorem mul_ti : opMul (.tup xs) (.int i) = guardM (!xs.isEmpty && decide (2 ≤ i ∧ i ≤ 1000 ∧ xs.length ≤ 1000)) (pure (.tup (List.replicate i.toNat xs).flatten)) := rfl
@[simp] theorem div_ii : opDiv (.int i) (.int j) = guardM (decide (0 < j ∧ j.natAbs.log2 < 9000)) (pure (.int (i / j))) := rfl
@[simp] theorem mod_ii : opMod (.int i) (.int j) = guardM (decide (0 < j)) (pure (.int (i % j))) := rfl
@[simp] theorem pow_ii : opPow (.int i) (.int j) = guardM (decide (0 ≤ j ∧ j ≤ 1000000 ∧ i.natAbs < 2 ^ 64)) (pure (.int (i ^ j.toNat))) := rfl
@[simp] theorem neg_i : opNeg (.int i) = pure (.int (-i)) := rfl
@[simp] theorem cmp_ii : opCmp p (.int i) (.int j) = pure (.bl (p i j)) := rfl
@[simp] theorem int_i : biInt (.int i) = pure (.int i) := rfl
@[simp] theorem int_b : biInt (.bl bb) = pure (.int (if bb then 1 else 0)) := rfl
@[simp] theorem abs_i : biAbs (.int i) = pure (.int (if i < 0 then -i else i)) := rfl
@[simp] theorem min_ii : biMin (.int i) (.int j) = pure (.int (if j < i then j else i)) := rfl
@[simp] theorem max_ii : biMax (.int i) (.int j) = pure (.int (if j > i then j else i)) := rfl
@[simp] theorem len_t : biLen (.tup xs) = pure (.int xs.length) := rfl
@[simp] theorem len_l : biLen (.lst xs) = pure (.int xs.length) := rfl
@[simp] theorem len_c {ns : List Int} : biLen (.scr ns) = pure (.int ns.length) := rfl
@[simp] theorem clen_l : cellLen (some (.lst xs)) = pure (.int xs.length) := rfl
@[simp] theorem cix_l : ixCell (some (.lst xs)) (.int i) = optM (atI xs i) := rfl
@[simp] theorem ix_t : opIx (.tup xs) (.int i) = optM (atI xs i) := rfl
@[simp] theorem ix_l : opIx (.lst xs) (.int i) = optM (atI xs i) := rfl
@[simp] theorem ix_c {ns : List Int} : opIx (.scr ns) (.int i) = optM ((atI ns i).map D.int) := rfl
@[simp] theorem optM_s {d : D} : optM (some d) = pure d := rfl
@[simp] theorem optM_n : optM none = M.stuck := rfl
@[simp] theorem setc_l : setCell (some (.lst xs)) (.int i) k = (ixN xs.length i).map fun j => .lst (xs.set j k) := rfl
@[simp] theorem sl_t : opSl lo hi (.tup xs) = pure (.tup (cutL xs lo hi)) := rfl
@[simp] theorem sl_l : opSl lo hi (.lst xs) = pure (.lst (cutL xs lo hi)) := rfl
@[simp] theorem asI_i : asI (.int i) = pure (some i) := rfl
@[simp] theorem asB_b : asB (.bl bb) = pure bb := rfl
@[simp] theorem list_t : biList (.tup xs) = pure (.lst xs) := rfl
@[simp] theorem list_l : biList (.lst xs) = pure (.lst xs) := rfl
@[simp] theorem tuple_l : biTuple (.lst xs) = pure (.tup xs) := rfl
@[simp] theorem tuple_t : biTuple (.tup xs) = pure (.tup xs) := rfl
@[simp] theorem dict_ix {ks : List Key} : opIx (.dic ks ds) k = ixCell (some (.dic ks ds)) k := rfl
@[simp] theorem cix_ds {ks : List Key} : ixCell (some (.dic ks ds)) (.str a) = optM (dget ks ds (.inr a)) := rfl
@[simp] theorem items_l : itemsOf (.lst xs) = pure xs := rfl
@[simp] theorem items_t : itemsOf (.tup xs) = pure xs := rfl
@[simp] theorem rng1_i : rng1 [.int i] = (bif decide (-(2 ^ 62) ≤ i ∧ i < 2 ^ 62) then pure (rangeL 0 i) else M.stuck) := rfl
end
@[simp] theorem at2_0 {a b : D} : atI [a, b] 0 = some a := rfl
@[simp] theorem at2_1 {a b : D} : atI [a, b] 1 = some b := rfl
@[simp] theorem at1_0 {a : D} : atI [a] 0 = some a := rfl
@[simp] theorem at3_0 {a b c : D} : atI [a, b, c] 0 = some a := rfl
@[simp] theorem at3_1 {a b c : D} : atI [a, b, c] 1 = some b := rfl
@[simp] theorem at3_2 {a b c : D} : atI [a, b, c] 2 = some c := rfl
@[simp] theorem ix2_0 : ixN 2 0 = some 0 := rfl
@[simp] theorem ix2_1 : ixN 2 1 = some 1 := rfl
theorem at_zero {α : Type} {a : α} {r : List α} : atI (a :: r) 0 = some a := by
  unfold atI ixN
  rw [if_pos (by omega), if_pos (by simp)]; rfl
theorem at_one {α : Type} {a b : α} {r : List α} : atI (a :: b :: r) 1 = some b := by
  unfold atI ixN
  rw [if_pos (by omega), if_pos (by simp only [List.length_cons]; omega)]; rfl
theorem at_two {α : Type} {a b c : α} {r : List α} : atI (a :: b :: c :: r) 2 = some c := by
  unfold atI ixN
  rw [if_pos (by omega), if_pos (by simp only [List.length_cons]; omega)]; rfl
@[simp] theorem cond_bl {c x y : Bool} : (cond c (D.bl x) (D.bl y)) = D.bl (cond c x y) := by cases c <;> rfl
@[simp] theorem at0n {α : Type} : atI ([] : List α) 0 = none := rfl
@[simp] theorem at1n {α : Type} {a : α} : atI [a] 1 = none := rfl
end MP

namespace MP
open PySem L2
open PySem.Spec PyProof.Rows
/-! ## values that == reads, and how deep they are -/
structure Dep (k : Nat) (d : D) : Prop where
  ok : d.okD = true
  dp : d.py.depth ≤ k
theorem Dep.mono {j k : Nat} {d : D} (h : Dep j d) (q : j ≤ k) : Dep k d := ⟨h.ok, Nat.le_trans h.dp q⟩
theorem Dep.sh {d : D} (h : Dep 64 d) : d.sh = true := by
  unfold D.sh
  rw [h.ok, Bool.true_and]
  exact decide_eq_true h.dp
@[simp] theorem dep_int {k : Nat} {i : Int} : Dep k (.int i) := ⟨rfl, by simp [D.py, PyData.depth]⟩
@[simp] theorem dep_bl {k : Nat} {b : Bool} : Dep k (.bl b) := ⟨rfl, by simp [D.py, PyData.depth]⟩
@[simp] theorem dep_non {k : Nat} : Dep k .non := ⟨rfl, by simp [D.py, PyData.depth]⟩
@[simp] theorem dep_str {k : Nat} {s : Str} (h : PyData.strOk s = true) : Dep k (.str s) := ⟨h, by simp [D.py, PyData.depth]⟩
theorem depthAll_le {k : Nat} : ∀ {ds : List D}, (∀ d ∈ ds, d.py.depth ≤ k) ↔ PyData.depthAll (pys ds) ≤ k
  | [] => by simp [pys, PyData.depthAll]
  | d :: ds => by
    have := depthAll_le (k := k) (ds := ds)
    simp only [pys, PyData.depthAll, List.mem_cons, forall_eq_or_imp, this]
    omega
@[simp] theorem dep_tup {k : Nat} {ds : List D} : Dep (k + 1) (.tup ds) ↔ ∀ d ∈ ds, Dep k d := by
  constructor
  · intro h d hd
    have h1 : okDs ds = true := h.ok
    rw [okDs_all, List.all_eq_true] at h1
    have h2 : PyData.depthAll (pys ds) + 1 ≤ k + 1 := by have := h.dp; simpa [D.py, PyData.depth] using this
    exact ⟨h1 d hd, depthAll_le.mpr (by omega) d hd⟩
  · intro h
    refine ⟨by show okDs ds = true; rw [okDs_all, List.all_eq_true]; exact fun d hd => (h d hd).ok, ?_⟩
    have := (depthAll_le (k := k) (ds := ds)).mp fun d hd => (h d hd).dp
    simp only [D.py, PyData.depth]; omega
@[simp] theorem dep_lst {k : Nat} {ds : List D} : Dep (k + 1) (.lst ds) ↔ ∀ d ∈ ds, Dep k d := by
  constructor
  · intro h d hd
    have h1 : okDs ds = true := h.ok
    rw [okDs_all, List.all_eq_true] at h1
    have h2 : PyData.depthAll (pys ds) + 1 ≤ k + 1 := by have := h.dp; simpa [D.py, PyData.depth] using this
    exact ⟨h1 d hd, depthAll_le.mpr (by omega) d hd⟩
  · intro h
    refine ⟨by show okDs ds = true; rw [okDs_all, List.all_eq_true]; exact fun d hd => (h d hd).ok, ?_⟩
    have := (depthAll_le (k := k) (ds := ds)).mp fun d hd => (h d hd).dp
    simp only [D.py, PyData.depth]; omega
theorem dep_tnil {k : Nat} : Dep (k + 1) (.tup []) := dep_tup.mpr fun _ h => by cases h
theorem Dep.pos_t {k : Nat} {ds : List D} (h : Dep k (.tup ds)) : 0 < k := by have := h.dp; simp only [D.py, PyData.depth] at this; omega
theorem Dep.pos_l {k : Nat} {ds : List D} (h : Dep k (.lst ds)) : 0 < k := by have := h.dp; simp only [D.py, PyData.depth] at this; omega
theorem Dep.items {k : Nat} {ds : List D} (h : Dep k (.tup ds)) {d : D} (hd : d ∈ ds) : Dep (k - 1) d := by
  obtain ⟨j, rfl⟩ : ∃ j, k = j + 1 := ⟨k - 1, by have := h.pos_t; omega⟩
  exact dep_tup.mp h d hd
theorem Dep.itemsL {k : Nat} {ds : List D} (h : Dep k (.lst ds)) {d : D} (hd : d ∈ ds) : Dep (k - 1) d := by
  obtain ⟨j, rfl⟩ : ∃ j, k = j + 1 := ⟨k - 1, by have := h.pos_l; omega⟩
  exact dep_lst.mp h d hd
theorem dataOf_ok {d : D} (h : d.okD = true) : dataOf d = pure d := by
  cases d <;> first | rfl | cases h
theorem eq_of {neg : Bool} {x y : D} (hx : Dep 64 x) (hy : Dep 64 y) : opEq neg x y = pure (.bl (if neg then !deq x y else deq x y)) := by
  unfold opEq
  rw [dataOf_ok hx.ok, dataOf_ok hy.ok]
  simp [hx.sh, hy.sh, guardM]
theorem in_of {neg : Bool} {x : D} {es : List D} (hx : Dep 64 x) (hy : Dep 64 (.tup es)) : opIn neg x (.tup es) = pure (.bl (if neg then !(es.any fun z => deq z x) else es.any fun z => deq z x)) := by
  have e : opIn neg x (.tup es) = dataOf x >>= fun a => guardM (a.sh && (D.tup es).sh) (pure (.bl (if neg then !(es.any fun z => deq z a) else es.any fun z => deq z a))) := by cases x <;> rfl
  rw [e, dataOf_ok hx.ok]
  simp [hx.sh, hy.sh, guardM]
theorem in_ofL {neg : Bool} {x : D} {es : List D} (hx : Dep 64 x) (hy : Dep 64 (.lst es)) : opIn neg x (.lst es) = pure (.bl (if neg then !(es.any fun z => deq z x) else es.any fun z => deq z x)) := by
  have e : opIn neg x (.lst es) = dataOf x >>= fun a => guardM (a.sh && (D.lst es).sh) (pure (.bl (if neg then !(es.any fun z => deq z a) else es.any fun z => deq z a))) := by cases x <;> rfl
  rw [e, dataOf_ok hx.ok]
  simp [hx.sh, hy.sh, guardM]
mutual
theorem deq_refl : ∀ {d : D}, d.okD = true → deq d d = true
  | .non, _ => by simp [deq, D.py, PyData.eqv]
  | .bl b, _ => by simp [deq, D.py, PyData.eqv]
  | .int i, _ => by simp [deq, D.py, PyData.eqv]
  | .str s, _ => by simp [deq, D.py, PyData.eqv]
  | .tup ds, h => by
    have := deqs_refl (ds := ds) h
    simpa [deq, D.py, PyData.eqv] using this
  | .lst ds, h => by
    have := deqs_refl (ds := ds) h
    simpa [deq, D.py, PyData.eqv] using this
  | .dic _ _, h => by cases h
  | .scr _, h => by cases h
  | .ref _, h => by cases h
theorem deqs_refl : ∀ {ds : List D}, okDs ds = true → PyData.eqvAll (pys ds) (pys ds) = true
  | [], _ => by simp [pys, PyData.eqvAll]
  | d :: ds, h => by
    have h' : (d.okD && okDs ds) = true := h
    rw [Bool.and_eq_true] at h'
    have e1 := deq_refl h'.1
    have e2 := deqs_refl h'.2
    unfold deq at e1
    simp [pys, PyData.eqvAll, e1, e2]
end
def isS (s : Str) : D → Bool
  | .str t => t == s
  | _ => false
@[simp] theorem deq_sr {d : D} {s : Str} : deq d (.str s) = isS s d := by cases d <;> simp [deq, D.py, PyData.eqv, isS]
@[simp] theorem deq_sl {d : D} {s : Str} : deq (.str s) d = isS s d := by
  cases d <;> simp [deq, D.py, PyData.eqv, isS]
  first | exact BEq.comm | exact Bool.eq_iff_iff.mpr (by simp [eq_comm])
def isNil : D → Bool
  | .tup [] => true
  | _ => false
@[simp] theorem deq_nil {d : D} : deq d (.tup []) = isNil d := by
  cases d with
  | tup ds => cases ds <;> simp [deq, D.py, pys, PyData.eqv, PyData.eqvAll, isNil]
  | _ => simp [deq, D.py, pys, PyData.eqv, isNil]
@[simp] theorem deq_ii {i j : Int} : deq (.int i) (.int j) = (i == j) := by simp [deq, D.py, PyData.eqv]
@[simp] theorem deq_bb {i j : Bool} : deq (.bl i) (.bl j) = (i == j) := by simp [deq, D.py, PyData.eqv]
@[simp] theorem deq_tt {xs ys : List D} : deq (.tup xs) (.tup ys) = PyData.eqvAll (pys xs) (pys ys) := by simp [deq, D.py, PyData.eqv]
@[simp] theorem deq_ll {xs ys : List D} : deq (.lst xs) (.lst ys) = PyData.eqvAll (pys xs) (pys ys) := by simp [deq, D.py, PyData.eqv]
@[simp] theorem eqvAll_cons {x y : D} {xs ys : List D} : PyData.eqvAll (pys (x :: xs)) (pys (y :: ys)) = (deq x y && PyData.eqvAll (pys xs) (pys ys)) := by simp [pys, PyData.eqvAll, deq]
@[simp] theorem eqvAll_nil : PyData.eqvAll (pys []) (pys []) = true := by simp [pys, PyData.eqvAll]
@[simp] theorem eqvAll_nc {x : D} {xs : List D} : PyData.eqvAll (pys []) (pys (x :: xs)) = false := by simp [pys, PyData.eqvAll]
@[simp] theorem eqvAll_cn {x : D} {xs : List D} : PyData.eqvAll (pys (x :: xs)) (pys []) = false := by simp [pys, PyData.eqvAll]
theorem eq_of_T {α : Type} {m : M α} {r : α} (h : ∀ st, T m st fun d s => d = r ∧ s = st) : m = pure r := by
  funext st
  obtain ⟨a, s, e, rfl, rfl⟩ := (h st).get
  exact e
@[simp] theorem guardM_t {m : M D} : guardM true m = m := rfl
@[simp] theorem q_ii {neg : Bool} {i j : Int} : opEq neg (.int i) (.int j) = pure (.bl (if neg then !(i == j) else i == j)) := by rw [eq_of dep_int dep_int]; simp
@[simp] theorem q_bb {neg : Bool} {i j : Bool} : opEq neg (.bl i) (.bl j) = pure (.bl (if neg then !(i == j) else i == j)) := by rw [eq_of dep_bl dep_bl]; simp
theorem q_s {neg : Bool} {a : D} {s : Str} (h : Dep 64 a) (hs : PyData.strOk s = true) : opEq neg a (.str s) = pure (.bl (if neg then !isS s a else isS s a)) := by rw [eq_of h (dep_str hs)]; simp
/-! ## kinds of values -/
def isI : D → Bool
  | .int _ => true
  | _ => false
def isB : D → Bool
  | .bl _ => true
  | _ => false
def isSt : D → Bool
  | .str _ => true
  | _ => false
def isTu : D → Bool
  | .tup _ => true
  | _ => false
theorem isi_int {d : D} (h : d.okD = true) : opIsi "int" d = pure (.bl (isI d || isB d)) := by cases d <;> first | rfl | cases h
theorem isi_bool {d : D} (h : d.okD = true) : opIsi "bool" d = pure (.bl (isB d)) := by cases d <;> first | rfl | cases h
theorem isi_str {d : D} (h : d.okD = true) : opIsi "str" d = pure (.bl (isSt d)) := by cases d <;> first | rfl | cases h
theorem isi_tuple {d : D} (h : d.okD = true) : opIsi "tuple" d = pure (.bl (isTu d)) := by cases d <;> first | rfl | cases h
@[simp] theorem noX_pure {α : Type} {a : α} : noX (pure a : M α) = pure a := rfl
theorem lc_map {t : Tg} {c : DenB} {f : Den} {ρ : Env} {p : D → Bool} {g : D → D} : ∀ {ds : List D}, (∀ d ∈ ds, ∃ ρ1, t.bind d ρ = some ρ1 ∧ c ρ1 = pure (p d) ∧ (p d = true → f ρ1 = pure (g d))) → lcL t c f ρ ds = pure ((ds.filter p).map g)
  | [], _ => rfl
  | d :: ds, h => by
    obtain ⟨ρ1, h1, h2, h3⟩ := h d List.mem_cons_self
    have ih := lc_map (ds := ds) fun x hx => h x (List.mem_cons_of_mem _ hx)
    unfold lcL
    rw [h1]
    simp only [optB, h2, noX_pure, pure_bind]
    cases hp : p d with
    | true => simp [h3 hp, ih, List.filter_cons, hp]
    | false => simp [ih, List.filter_cons, hp]
end MP

namespace K01
open PySem L2 MP
open PySem.Spec PyProof.Rows
abbrev fuelR : Nat := 70
abbrev fuelW : Nat := 1000
abbrev g_THINGS : D := .tup [.str "held", .str "place", .str "next"]
abbrev g_JOINTS : D := .tup [.str "and", .str "or"]
abbrev g_TURNED : List (Key × D) := [(.inr "below", .str "above"), (.inr "above", .str "below"), (.inr "not below", .str "not above"), (.inr "not above", .str "not below")]
def l_source_b : DenS :=
  dSeq (dAsg (dC (.int 0)) (gSet 2)) <|
  dSeq (dIfS (bVal (d2 opLt (dVar 1) (dCall (on1 biLen) (dCons (dVar 0) (dNil))))) (dAsg (dCall (on1 biAbs) (dCons (dCall (on1 biInt) (dCons (d2 opIx (dVar 0) (dVar 1)) (dNil))) (dNil))) (gSet 2)) (dSkip)) <|
  dSeq (dIfS (bVal (d2 opLt (dVar 2) (d2 opPow (dC (.int 10)) (dC (.int 18))))) (dRet (dOwn (dCons (dC (.int 0)) (dCons (d2 opAdd (dC (.int 1)) (d2 opMod (dCall (on1 biInt) (dCons (d2 opAdd (d2 opMul (dVar 2) (dC (.int 7919))) (d2 opMul (dC (.int 104729)) (dVar 1))) (dNil))) (dC (.int 2147483646)))) (dNil))))) (dSkip)) <|
  dRet (dOwn (dCons (dVar 2) (dCons (d2 opAdd (dC (.int 1)) (d2 opMod (dCall (on1 biInt) (dCons (d2 opAdd (dVar 2) (dVar 1)) (dNil))) (dC (.int 2147483646)))) (dNil))))
def l_source : List D → M D := runDef 3 l_source_b
def l_draw_b : DenS :=
  dSeq (dIfS (bVal (d2 opGt (d2 opIx (dVar 0) (dC (.int 0))) (dC (.int 0)))) (dSeq (dAsg (d2 opMod (dCall (on1 biInt) (dCons (d2 opIx (dVar 0) (dC (.int 0))) (dNil))) (dVar 1)) (gSet 2)) <|
  dSeq (dAsg (d2 opDiv (d2 opIx (dVar 0) (dC (.int 0))) (dVar 1)) (gSubD (dVar 0) (dC (.int 0)))) <|
  dRet (dVar 2)) (dSkip)) <|
  dSeq (dAsg (d2 opMod (dCall (on1 biInt) (dCons (d2 opMul (d2 opIx (dVar 0) (dC (.int 1))) (dC (.int 48271))) (dNil))) (dC (.int 2147483647))) (gSubD (dVar 0) (dC (.int 1)))) <|
  dRet (d2 opMod (dCall (on1 biInt) (dCons (d2 opDiv (d2 opMod (dCall (on1 biInt) (dCons (d2 opMul (d2 opIx (dVar 0) (dC (.int 1))) (d2 opIx (dVar 0) (dC (.int 1)))) (dNil))) (dC (.int 2147483629))) (dC (.int 64))) (dNil))) (dVar 1))
def l_draw : List D → M D := runDef 3 l_draw_b
def l_of_b : DenS :=
  dRet (d2 opIx (dVar 1) (dCall (arity 2 l_draw) (dCons (dVar 0) (dCons (dCall (on1 biLen) (dCons (dVar 1) (dNil))) (dNil)))))
def l_of : List D → M D := runDef 2 l_of_b
def l_known_b : DenS :=
  dSeq (dAsg (dCall (arity 2 l_of) (dCons (dVar 0) (dCons (dLst (dCons (dC (.int 0)) (dCons (dC (.int 1)) (dCons (dC (.int 2)) (dCons (dC (.int 2)) (dCons (dC (.int 3)) (dCons (dC (.int 4)) (dNil)))))))) (dNil)))) (gSet 1)) <|
  dSeq (dAsg (dCall (arity 2 l_of) (dCons (dVar 0) (dCons (dLst (dCons (dC (.str "below")) (dCons (dC (.str "not above")) (dNil)))) (dNil)))) (gSet 2)) <|
  dSeq (dAsg (dCall (arity 2 l_of) (dCons (dVar 0) (dCons (dLst (dCons (dTup (dCons (dC (.str "pointer")) (dNil))) (dCons (dTup (dCons (dC (.str "held")) (dCons (dCall (arity 2 l_of) (dCons (dVar 0) (dCons (dLst (dCons (dC (.int 2)) (dCons (dC (.int 4)) (dCons (dC (.int 4)) (dCons (dC (.int 0)) (dNil)))))) (dNil)))) (dNil)))) (dNil)))) (dNil)))) (gSet 3)) <|
  dSeq (dAsg (dIf (bVal (d2 (opEq false) (dVar 3) (dTup (dCons (dC (.str "pointer")) (dNil))))) (dTup (dCons (dC (.str "pointer")) (dNil))) (dTup (dCons (dC (.str "held")) (dCons (d2 opSub (dC (.int 4)) (d2 opIx (dVar 3) (dC (.int 1)))) (dNil))))) (gSet 4)) <|
  dSeq (dAsg (dCall (arity 2 l_of) (dCons (dVar 0) (dCons (dLst (dCons (dTup (dCons (dC (.str "next")) (dCons (dVar 1) (dNil)))) (dCons (dTup (dCons (dC (.str "next")) (dCons (dVar 1) (dNil)))) (dCons (dTup (dCons (dC (.str "place")) (dCons (dC (.int 4)) (dNil)))) (dNil))))) (dNil)))) (gSet 5)) <|
  dSeq (dAsg (dTup (dCons (dVar 2) (dCons (dVar 3) (dCons (dVar 5) (dNil))))) (gSet 6)) <|
  dSeq (dAsg (dTup (dCons (d2 opIx (d2 opIx (dVar 6) (dC (.int 2))) (dC (.int 0))) (dCons (d2 opSub (dC (.int 4)) (d2 opIx (d2 opIx (dVar 6) (dC (.int 2))) (dC (.int 1)))) (dNil)))) (gSet 7)) <|
  dSeq (dAsg (dTup (dCons (dCall (arity 2 l_of) (dCons (dVar 0) (dCons (dLst (dCons (dC (.str "above")) (dCons (dC (.str "not below")) (dNil)))) (dNil)))) (dCons (dVar 4) (dCons (dVar 7) (dNil))))) (gSet 8)) <|
  dSeq (dAsg (dCall (arity 2 l_draw) (dCons (dVar 0) (dCons (dC (.int 4)) (dNil)))) (gSet 9)) <|
  dSeq (dIfS (bVal (d2 (opEq false) (dVar 9) (dC (.int 0)))) (dSeq (dAsg (dTup (dCons (dCall (arity 2 l_of) (dCons (dVar 0) (dCons (dLst (dCons (dC (.str "above")) (dCons (dC (.str "below")) (dNil)))) (dNil)))) (dCons (dTup (dCons (dC (.str "pointer")) (dNil))) (dCons (dTup (dCons (dC (.str "next")) (dCons (d2 opMul (dC (.int 4)) (dCall (arity 2 l_draw) (dCons (dVar 0) (dCons (dC (.int 2)) (dNil))))) (dNil)))) (dNil))))) (gSet 10)) <|
  dAsg (dTup (dCons (dC (.str "and")) (dCons (dVar 6) (dCons (dVar 10) (dNil))))) (gSet 6)) (dSkip)) <|
  dSeq (dIfS (bVal (d2 (opEq false) (dVar 9) (dC (.int 1)))) (dAsg (dTup (dCons (dC (.str "or")) (dCons (dVar 8) (dCons (dTup (dCons (dC (.str "above")) (dCons (dTup (dCons (dC (.str "pointer")) (dNil))) (dCons (dTup (dCons (dC (.str "place")) (dCons (dC (.int 0)) (dNil)))) (dNil))))) (dNil))))) (gSet 8)) (dSkip)) <|
  dRet (dTup (dCons (dVar 6) (dCons (dVar 8) (dNil))))
def l_known : List D → M D := runDef 11 l_known_b
def l_point_b : DenS :=
  dSeq (dAsg (dCall (arity 2 l_of) (dCons (dVar 0) (dCons (dLst (dCons (dC (.str "pointer")) (dCons (dC (.str "pointer")) (dCons (dC (.str "held")) (dCons (dC (.str "place")) (dCons (dC (.str "next")) (dCons (dC (.str "next")) (dNil)))))))) (dNil)))) (gSet 1)) <|
  dSeq (dIfS (bVal (d2 (opEq false) (dVar 1) (dC (.str "pointer")))) (dRet (dTup (dCons (dC (.str "pointer")) (dNil)))) (dSkip)) <|
  dRet (dTup (dCons (dVar 1) (dCons (dCall (arity 2 l_of) (dCons (dVar 0) (dCons (dLst (dCons (dC (.int 0)) (dCons (dC (.int 2)) (dCons (dC (.int 4)) (dCons (dCall (arity 2 l_draw) (dCons (dVar 0) (dCons (dC (.int 5)) (dNil)))) (dNil)))))) (dNil)))) (dNil))))
def l_point : List D → M D := runDef 2 l_point_b
def l_comparison_b : DenS :=
  dSeq (dAsg (dCall (arity 2 l_of) (dCons (dVar 0) (dCons (dLst (dCons (dC (.str "below")) (dCons (dC (.str "above")) (dCons (dC (.str "not below")) (dCons (dC (.str "not above")) (dNil)))))) (dNil)))) (gSet 1)) <|
  dRet (dTup (dCons (dVar 1) (dCons (dCall (arity 1 l_point) (dCons (dVar 0) (dNil))) (dCons (dCall (arity 1 l_point) (dCons (dVar 0) (dNil))) (dNil)))))
def l_comparison : List D → M D := runDef 2 l_comparison_b
def l_condition_b : DenS :=
  dSeq (dAsg (dCall (arity 2 l_of) (dCons (dVar 0) (dCons (dLst (dCons (dC (.int 1)) (dCons (dC (.int 1)) (dCons (dC (.int 2)) (dCons (dC (.int 2)) (dCons (dC (.int 3)) (dNil))))))) (dNil)))) (gSet 1)) <|
  dSeq (dAsg (dCall (on1 biTuple) (dCons (dLc (iRange1 (dCons (dVar 1) (dNil))) [3] (.nm 3) (bTrue) (dCall (arity 1 l_comparison) (dCons (dVar 0) (dNil)))) (dNil))) (gSet 2)) <|
  dRet (dIf (bVal (d2 (opEq false) (dVar 1) (dC (.int 1)))) (d2 opIx (dVar 2) (dC (.int 0))) (d2 opAdd (dTup (dCons (dCall (arity 2 l_of) (dCons (dVar 0) (dCons (dLst (dCons (dC (.str "and")) (dCons (dC (.str "or")) (dNil)))) (dNil)))) (dNil))) (dVar 2)))
def l_condition : List D → M D := runDef 4 l_condition_b
def l_rule_b : DenS :=
  dSeq (dPar [1, 2] (dCons (dCall (arity 2 l_draw) (dCons (dVar 0) (dCons (dC (.int 5)) (dNil)))) (dCons (dCall (arity 1 l_known) (dCons (dVar 0) (dNil))) (dNil)))) <|
  dSeq (dIfS (bVal (d2 (opEq false) (dVar 1) (dC (.int 4)))) (dRet (dTup (dCons (dCall (arity 1 l_condition) (dCons (dVar 0) (dNil))) (dCons (dCall (arity 1 l_condition) (dCons (dVar 0) (dNil))) (dNil))))) (dSkip)) <|
  dSeq (dIfS (bVal (d2 (opEq false) (dVar 1) (dC (.int 3)))) (dRet (dTup (dCons (d2 opIx (dVar 2) (dC (.int 0))) (dCons (dCall (arity 1 l_condition) (dCons (dVar 0) (dNil))) (dNil))))) (dSkip)) <|
  dRet (dIf (bVal (d2 (opEq false) (dVar 1) (dC (.int 2)))) (dTup (dCons (dCall (arity 1 l_condition) (dCons (dVar 0) (dNil))) (dCons (d2 opIx (dVar 2) (dC (.int 1))) (dNil)))) (dVar 2))
def l_rule : List D → M D := runDef 3 l_rule_b
def l_drag_b : DenS :=
  dSeq (dAsg (dLst (dCons (dC (.int 1)) (dCons (dC (.int 2)) (dCons (dC (.int 3)) (dCons (dC (.int 10)) (dCons (dC (.int 40)) (dCons (d2 opAdd (dC (.int 1)) (dCall (arity 2 l_draw) (dCons (dVar 0) (dCons (dC (.int 20)) (dNil))))) (dNil)))))))) (gSet 2)) <|
  dSeq (dAsg (dCall (on1 biTuple) (dCons (dLc (iRange1 (dCons (d2 opAdd (dC (.int 2)) (dCall (arity 2 l_draw) (dCons (dVar 0) (dCons (d2 opSub (dVar 1) (dC (.int 1))) (dNil))))) (dNil))) [6] (.nm 6) (bTrue) (dCall (arity 2 l_of) (dCons (dVar 0) (dCons (dVar 2) (dNil))))) (dNil))) (gSet 3)) <|
  dSeq (dAsg (dCall (arity 2 l_draw) (dCons (dVar 0) (dCons (dCall (on1 biLen) (dCons (dVar 3) (dNil))) (dNil)))) (gSet 4)) <|
  dSeq (dAsg (dCall (arity 2 l_of) (dCons (dVar 0) (dCons (dLst (dCons (dC (.int 0)) (dCons (d2 opIx (dVar 3) (dVar 4)) (dCons (dCall (arity 2 l_draw) (dCons (dVar 0) (dCons (d2 opAdd (d2 opIx (dVar 3) (dVar 4)) (dC (.int 1))) (dNil)))) (dNil))))) (dNil)))) (gSet 5)) <|
  dRet (dTup (dCons (dVar 3) (dCons (dVar 4) (dCons (dVar 5) (dNil)))))
def l_drag : List D → M D := runDef 7 l_drag_b
def p_is_among_b : DenS :=
  dRet (dAnd (d1 (opIsi "str") (dVar 1)) (d2 (opIn false) (dVar 1) (dVar 0)))
def p_is_among : List D → M D := runDef 2 p_is_among_b
def p_is_number_b : DenS :=
  dRet (dAnd (d1 (opIsi "int") (dVar 0)) (dNot (d1 (opIsi "bool") (dVar 0))))
def p_is_number : List D → M D := runDef 1 p_is_number_b
def p_is_point_b : DenS :=
  dSeq (dIfS (dBOr (dBNot (bVal (d1 (opIsi "tuple") (dVar 0)))) (bVal (d2 (opEq false) (dVar 0) (dTup (dNil))))) (dRet (dC (.bl false))) (dSkip)) <|
  dSeq (dIfS (bVal (d2 (opEq false) (d2 opIx (dVar 0) (dC (.int 0))) (dC (.str "pointer")))) (dRet (d2 (opEq false) (dCall (on1 biLen) (dCons (dVar 0) (dNil))) (dC (.int 1)))) (dSkip)) <|
  dRet (dAnd (d2 (opEq false) (dCall (on1 biLen) (dCons (dVar 0) (dNil))) (dC (.int 2))) (dAnd (dCall (arity 2 p_is_among) (dCons (dC g_THINGS) (dCons (d2 opIx (dVar 0) (dC (.int 0))) (dNil)))) (dAnd (dCall (arity 1 p_is_number) (dCons (d2 opIx (dVar 0) (dC (.int 1))) (dNil))) (dChain opLe opLe (dC (.int 0)) (d2 opIx (dVar 0) (dC (.int 1))) (dC (.int 4))))))
def p_is_point : List D → M D := runDef 1 p_is_point_b
def p_is_comparison_b : DenS :=
  dSeq (dIfS (dBOr (dBNot (bVal (d1 (opIsi "tuple") (dVar 0)))) (dBOr (bVal (d2 (opEq true) (dCall (on1 biLen) (dCons (dVar 0) (dNil))) (dC (.int 3)))) (dBNot (bVal (dCall (arity 2 p_is_among) (dCons (dKlist g_TURNED) (dCons (d2 opIx (dVar 0) (dC (.int 0))) (dNil)))))))) (dRet (dC (.bl false))) (dSkip)) <|
  dRet (dAnd (dCall (arity 1 p_is_point) (dCons (d2 opIx (dVar 0) (dC (.int 1))) (dNil))) (dCall (arity 1 p_is_point) (dCons (d2 opIx (dVar 0) (dC (.int 2))) (dNil))))
def p_is_comparison : List D → M D := runDef 1 p_is_comparison_b
def p_is_good_condition_b : DenS :=
  dSeq (dIfS (dBOr (dBNot (bVal (d1 (opIsi "tuple") (dVar 0)))) (bVal (d2 (opIn true) (dCall (on1 biLen) (dCons (dVar 0) (dNil))) (dTup (dCons (dC (.int 3)) (dCons (dC (.int 4)) (dNil))))))) (dRet (dC (.bl false))) (dSkip)) <|
  dSeq (dIfS (bVal (dCall (arity 2 p_is_among) (dCons (dC g_JOINTS) (dCons (d2 opIx (dVar 0) (dC (.int 0))) (dNil))))) (dRet (dCall (on1 biAll) (dCons (dLc (iVal (dSl (dVar 0) (oSome (dC (.int 1))) (oNone))) [1] (.nm 1) (bTrue) (dCall (arity 1 p_is_comparison) (dCons (dVar 1) (dNil)))) (dNil)))) (dSkip)) <|
  dRet (dCall (arity 1 p_is_comparison) (dCons (dVar 0) (dNil)))
def p_is_good_condition : List D → M D := runDef 2 p_is_good_condition_b
def p_is_good_rule_b : DenS :=
  dRet (dAnd (d1 (opIsi "tuple") (dVar 0)) (dAnd (d2 (opEq false) (dCall (on1 biLen) (dCons (dVar 0) (dNil))) (dC (.int 2))) (dCall (on1 biAll) (dCons (dLc (iVal (dVar 0)) [1] (.nm 1) (bTrue) (dCall (arity 1 p_is_good_condition) (dCons (dVar 1) (dNil)))) (dNil)))))
def p_is_good_rule : List D → M D := runDef 2 p_is_good_rule_b
def p_need_rule_b : DenS :=
  dIfS (dBNot (bVal (dCall (arity 1 p_is_good_rule) (dCons (dVar 0) (dNil))))) (dNever) (dSkip)
def p_need_rule : List D → M D := runDef 1 p_need_rule_b
def p_parts_of_b : DenS :=
  dRet (dIf (bVal (d2 (opIn false) (d2 opIx (dVar 0) (dC (.int 0))) (dC g_JOINTS))) (dCall (on1 biList) (dCons (dSl (dVar 0) (oSome (dC (.int 1))) (oNone)) (dNil))) (dLst (dCons (dVar 0) (dNil))))
def p_parts_of : List D → M D := runDef 1 p_parts_of_b
def p_all_comparisons_b : DenS :=
  dRet (d2 opAdd (dCall (arity 1 p_parts_of) (dCons (d2 opIx (dVar 0) (dC (.int 0))) (dNil))) (dCall (arity 1 p_parts_of) (dCons (d2 opIx (dVar 0) (dC (.int 1))) (dNil))))
def p_all_comparisons : List D → M D := runDef 1 p_all_comparisons_b
def p_comparisons_b : DenS :=
  dSeq (dExpr (dCall (arity 1 p_need_rule) (dCons (dVar 0) (dNil)))) <|
  dRet (dCall (arity 1 p_all_comparisons) (dCons (dVar 0) (dNil)))
def p_comparisons : List D → M D := runDef 1 p_comparisons_b
def l_parts_b : DenS :=
  dRet (dIf (bVal (d2 (opIn false) (d2 opIx (dVar 0) (dC (.int 0))) (dTup (dCons (dC (.str "and")) (dCons (dC (.str "or")) (dNil)))))) (dCall (on1 biList) (dCons (dSl (dVar 0) (oSome (dC (.int 1))) (oNone)) (dNil))) (dLst (dCons (dVar 0) (dNil))))
def l_parts : List D → M D := runDef 1 l_parts_b
def p_turned_point_b : DenS :=
  dRet (dIf (bVal (d2 (opEq false) (dCall (on1 biLen) (dCons (dVar 0) (dNil))) (dC (.int 1)))) (dVar 0) (dTup (dCons (d2 opIx (dVar 0) (dC (.int 0))) (dCons (d2 opSub (dC (.int 4)) (d2 opIx (dVar 0) (dC (.int 1)))) (dNil)))))
def p_turned_point : List D → M D := runDef 1 p_turned_point_b
def p_joined_b : DenS :=
  dRet (dIf (bVal (d2 opGt (dCall (on1 biLen) (dCons (dVar 1) (dNil))) (dC (.int 1)))) (d2 opAdd (dTup (dCons (dVar 0) (dNil))) (dCall (on1 biTuple) (dCons (dVar 1) (dNil)))) (d2 opIx (dVar 1) (dC (.int 0))))
def p_joined : List D → M D := runDef 2 p_joined_b
def p_joint_of_b : DenS :=
  dRet (dIf (bVal (d2 (opIn false) (d2 opIx (dVar 0) (dC (.int 0))) (dC g_JOINTS))) (d2 opIx (dVar 0) (dC (.int 0))) (dC .non))
def p_joint_of : List D → M D := runDef 1 p_joint_of_b
def p_turned_condition_b : DenS :=
  dSeq (dAsg (dKdict g_TURNED) (gSet 1)) <|
  dSeq (dAsg (dLc (iVal (dCall (arity 1 p_parts_of) (dCons (dVar 0) (dNil)))) [3, 4, 5] (.tup [.nm 3, .nm 4, .nm 5]) (bTrue) (dTup (dCons (d2 opIx (dVar 1) (dVar 3)) (dCons (dCall (arity 1 p_turned_point) (dCons (dVar 4) (dNil))) (dCons (dCall (arity 1 p_turned_point) (dCons (dVar 5) (dNil))) (dNil)))))) (gSet 2)) <|
  dRet (dCall (arity 2 p_joined) (dCons (dCall (arity 1 p_joint_of) (dCons (dVar 0) (dNil))) (dCons (dVar 2) (dNil))))
def p_turned_condition : List D → M D := runDef 6 p_turned_condition_b
def p_turned_rule_b : DenS :=
  dRet (dTup (dCons (dCall (arity 1 p_turned_condition) (dCons (d2 opIx (dVar 0) (dC (.int 1))) (dNil))) (dCons (dCall (arity 1 p_turned_condition) (dCons (d2 opIx (dVar 0) (dC (.int 0))) (dNil))) (dNil))))
def p_turned_rule : List D → M D := runDef 1 p_turned_rule_b
def p_upside_down_b : DenS :=
  dSeq (dExpr (dCall (arity 1 p_need_rule) (dCons (dVar 0) (dNil)))) <|
  dRet (dCall (arity 1 p_turned_rule) (dCons (dVar 0) (dNil)))
def p_upside_down : List D → M D := runDef 1 p_upside_down_b
def l_turned_b : DenS :=
  dSeq (dAsg (dDic [(dC (.str "below"), dC (.str "above")), (dC (.str "above"), dC (.str "below")), (dC (.str "not below"), dC (.str "not above")), (dC (.str "not above"), dC (.str "not below"))]) (gSet 1)) <|
  dSeq (dAsg (dOwn (dNil)) (gSet 2)) <|
  dSeq (dFor (iVal (dCall (arity 1 l_parts) (dCons (dVar 0) (dNil)))) (gOf (.nm 3)) (dSeq (dAsg (dLc (iVal (dSl (dVar 3) (oSome (dC (.int 1))) (oNone))) [5] (.nm 5) (bTrue) (dIf (bVal (d2 (opEq false) (dVar 5) (dTup (dCons (dC (.str "pointer")) (dNil))))) (dVar 5) (dTup (dCons (d2 opIx (dVar 5) (dC (.int 0))) (dCons (d2 opSub (dC (.int 4)) (d2 opIx (dVar 5) (dC (.int 1)))) (dNil)))))) (gSet 4)) <|
  dExpr (dMeth "list" mAppend (dVar 2) (dCons (d2 opAdd (dTup (dCons (d2 opIx (dVar 1) (d2 opIx (dVar 3) (dC (.int 0)))) (dNil))) (dCall (on1 biTuple) (dCons (dVar 4) (dNil)))) (dNil))))) <|
  dRet (dIf (bVal (d2 (opIn false) (d2 opIx (dVar 0) (dC (.int 0))) (dTup (dCons (dC (.str "and")) (dCons (dC (.str "or")) (dNil)))))) (d2 opAdd (dTup (dCons (d2 opIx (dVar 0) (dC (.int 0))) (dNil))) (dCall (on1 biTuple) (dCons (dVar 2) (dNil)))) (d2 opIx (dVar 2) (dC (.int 0))))
def l_turned : List D → M D := runDef 6 l_turned_b
def l_pointer_b : DenS :=
  dSeq (dAsg (dCall (on1 biSumA) (dCons (d2 opIx (dVar 1) (dC (.int 0))) (dNil))) (gSet 2)) <|
  dSeq (dAsg (dLst (dCons (dCall (arity 2 l_draw) (dCons (dVar 0) (dCons (d2 opAdd (dVar 2) (dC (.int 1))) (dNil)))) (dCons (d2 opSub (dCall (arity 2 l_draw) (dCons (dVar 0) (dCons (d2 opAdd (dVar 2) (dC (.int 21))) (dNil)))) (dC (.int 10))) (dNil)))) (gSet 3)) <|
  dRet (dCall (arity 2 l_of) (dCons (dVar 0) (dCons (d2 opAdd (dVar 3) (dLst (dCons (d2 opSub (dCall (arity 2 l_draw) (dCons (dVar 0) (dCons (d2 opMul (dC (.int 3)) (dVar 2)) (dNil)))) (dVar 2)) (dNil)))) (dNil))))
def l_pointer : List D → M D := runDef 4 l_pointer_b
def p_is_rule_b : DenS :=
  dRet (dCall (arity 1 p_is_good_rule) (dCons (dVar 0) (dNil)))
def p_is_rule : List D → M D := runDef 1 p_is_rule_b
def l_is_int_b : DenS :=
  dRet (dAnd (d1 (opIsi "int") (dVar 0)) (dNot (d1 (opIsi "bool") (dVar 0))))
def l_is_int : List D → M D := runDef 1 l_is_int_b
def l_is_point_b : DenS :=
  dSeq (dIfS (dBOr (dBNot (bVal (d1 (opIsi "tuple") (dVar 0)))) (dBOr (bVal (d2 (opEq false) (dVar 0) (dTup (dNil)))) (dBNot (bVal (d1 (opIsi "str") (d2 opIx (dVar 0) (dC (.int 0)))))))) (dRet (dC (.bl false))) (dSkip)) <|
  dSeq (dIfS (bVal (d2 (opEq false) (d2 opIx (dVar 0) (dC (.int 0))) (dC (.str "pointer")))) (dRet (d2 (opEq false) (dCall (on1 biLen) (dCons (dVar 0) (dNil))) (dC (.int 1)))) (dSkip)) <|
  dSeq (dAsg (dAnd (d2 (opIn false) (d2 opIx (dVar 0) (dC (.int 0))) (dTup (dCons (dC (.str "held")) (dCons (dC (.str "place")) (dCons (dC (.str "next")) (dNil)))))) (d2 (opEq false) (dCall (on1 biLen) (dCons (dVar 0) (dNil))) (dC (.int 2)))) (gSet 1)) <|
  dRet (dAnd (dVar 1) (dAnd (dCall (arity 1 l_is_int) (dCons (d2 opIx (dVar 0) (dC (.int 1))) (dNil))) (dChain opLe opLe (dC (.int 0)) (d2 opIx (dVar 0) (dC (.int 1))) (dC (.int 4)))))
def l_is_point : List D → M D := runDef 2 l_is_point_b
def l_is_comparison_b : DenS :=
  dSeq (dIfS (dBOr (dBNot (bVal (d1 (opIsi "tuple") (dVar 0)))) (dBOr (bVal (d2 (opEq true) (dCall (on1 biLen) (dCons (dVar 0) (dNil))) (dC (.int 3)))) (dBNot (bVal (d1 (opIsi "str") (d2 opIx (dVar 0) (dC (.int 0)))))))) (dRet (dC (.bl false))) (dSkip)) <|
  dSeq (dIfS (bVal (d2 (opIn true) (d2 opIx (dVar 0) (dC (.int 0))) (dTup (dCons (dC (.str "below")) (dCons (dC (.str "above")) (dCons (dC (.str "not below")) (dCons (dC (.str "not above")) (dNil)))))))) (dRet (dC (.bl false))) (dSkip)) <|
  dRet (dAnd (dCall (arity 1 l_is_point) (dCons (d2 opIx (dVar 0) (dC (.int 1))) (dNil))) (dCall (arity 1 l_is_point) (dCons (d2 opIx (dVar 0) (dC (.int 2))) (dNil))))
def l_is_comparison : List D → M D := runDef 1 l_is_comparison_b
def l_is_condition_b : DenS :=
  dSeq (dIfS (bVal (dCall (arity 1 l_is_comparison) (dCons (dVar 0) (dNil)))) (dRet (dC (.bl true))) (dSkip)) <|
  dSeq (dIfS (dBOr (dBNot (bVal (d1 (opIsi "tuple") (dVar 0)))) (dBOr (bVal (d2 (opIn true) (dCall (on1 biLen) (dCons (dVar 0) (dNil))) (dTup (dCons (dC (.int 3)) (dCons (dC (.int 4)) (dNil)))))) (bVal (d2 (opIn true) (d2 opIx (dVar 0) (dC (.int 0))) (dTup (dCons (dC (.str "and")) (dCons (dC (.str "or")) (dNil)))))))) (dRet (dC (.bl false))) (dSkip)) <|
  dRet (d2 (opEq false) (dLc (iVal (dSl (dVar 0) (oSome (dC (.int 1))) (oNone))) [1] (.nm 1) (dBNot (bVal (dCall (arity 1 l_is_comparison) (dCons (dVar 1) (dNil))))) (dVar 1)) (dLst (dNil)))
def l_is_condition : List D → M D := runDef 2 l_is_condition_b
def l_is_rule_b : DenS :=
  dSeq (dIfS (dBOr (dBNot (bVal (d1 (opIsi "tuple") (dVar 0)))) (bVal (d2 (opEq true) (dCall (on1 biLen) (dCons (dVar 0) (dNil))) (dC (.int 2))))) (dRet (dC (.bl false))) (dSkip)) <|
  dRet (dAnd (dCall (arity 1 l_is_condition) (dCons (d2 opIx (dVar 0) (dC (.int 0))) (dNil))) (dCall (arity 1 l_is_condition) (dCons (d2 opIx (dVar 0) (dC (.int 1))) (dNil))))
def l_is_rule : List D → M D := runDef 1 l_is_rule_b
def p_is_condition_b : DenS :=
  dRet (dCall (arity 1 p_is_good_condition) (dCons (dVar 0) (dNil)))
def p_is_condition : List D → M D := runDef 1 p_is_condition_b
def p_is_good_drag_b : DenS :=
  dSeq (dIfS (dBOr (dBNot (bVal (d1 (opIsi "tuple") (dVar 0)))) (dBOr (bVal (d2 (opEq true) (dCall (on1 biLen) (dCons (dVar 0) (dNil))) (dC (.int 3)))) (dBNot (bVal (d1 (opIsi "tuple") (d2 opIx (dVar 0) (dC (.int 0)))))))) (dRet (dC (.bl false))) (dSkip)) <|
  dSeq (dAsg (dVar 0) (gOf (.tup [.nm 1, .nm 2, .nm 3]))) <|
  dSeq (dIfS (dBOr (dBNot (bVal (dChain opLe opLe (dC (.int 2)) (dCall (on1 biLen) (dCons (dVar 1) (dNil))) (dC (.int 6))))) (dBNot (bVal (dCall (on1 biAll) (dCons (dLc (iVal (dVar 1)) [4] (.nm 4) (bTrue) (dAnd (dCall (arity 1 p_is_number) (dCons (dVar 4) (dNil))) (d2 opGt (dVar 4) (dC (.int 0))))) (dNil)))))) (dRet (dC (.bl false))) (dSkip)) <|
  dRet (dAnd (dCall (arity 1 p_is_number) (dCons (dVar 2) (dNil))) (dAnd (dChain opLe opLt (dC (.int 0)) (dVar 2) (dCall (on1 biLen) (dCons (dVar 1) (dNil)))) (dAnd (dCall (arity 1 p_is_number) (dCons (dVar 3) (dNil))) (dChain opLe opLe (dC (.int 0)) (dVar 3) (d2 opIx (dVar 1) (dVar 2))))))
def p_is_good_drag : List D → M D := runDef 5 p_is_good_drag_b
def p_is_drag_b : DenS :=
  dRet (dCall (arity 1 p_is_good_drag) (dCons (dVar 0) (dNil)))
def p_is_drag : List D → M D := runDef 1 p_is_drag_b
def l_is_drag_b : DenS :=
  dSeq (dIfS (dBOr (dBNot (bVal (d1 (opIsi "tuple") (dVar 0)))) (dBOr (bVal (d2 (opEq true) (dCall (on1 biLen) (dCons (dVar 0) (dNil))) (dC (.int 3)))) (dBNot (bVal (d1 (opIsi "tuple") (d2 opIx (dVar 0) (dC (.int 0)))))))) (dRet (dC (.bl false))) (dSkip)) <|
  dSeq (dIfS (dBOr (dBNot (bVal (dChain opLe opLe (dC (.int 2)) (dCall (on1 biLen) (dCons (d2 opIx (dVar 0) (dC (.int 0))) (dNil))) (dC (.int 6))))) (bVal (d2 (opEq true) (dLc (iVal (d2 opIx (dVar 0) (dC (.int 0)))) [1] (.nm 1) (dBOr (dBNot (bVal (dCall (arity 1 l_is_int) (dCons (dVar 1) (dNil))))) (bVal (d2 opLt (dVar 1) (dC (.int 1))))) (dVar 1)) (dLst (dNil))))) (dRet (dC (.bl false))) (dSkip)) <|
  dSeq (dIfS (dBOr (dBNot (bVal (dCall (arity 1 l_is_int) (dCons (d2 opIx (dVar 0) (dC (.int 1))) (dNil))))) (dBNot (bVal (dChain opLe opLt (dC (.int 0)) (d2 opIx (dVar 0) (dC (.int 1))) (dCall (on1 biLen) (dCons (d2 opIx (dVar 0) (dC (.int 0))) (dNil))))))) (dRet (dC (.bl false))) (dSkip)) <|
  dRet (dAnd (dCall (arity 1 l_is_int) (dCons (d2 opIx (dVar 0) (dC (.int 2))) (dNil))) (dChain opLe opLe (dC (.int 0)) (d2 opIx (dVar 0) (dC (.int 2))) (d2 opIx (d2 opIx (dVar 0) (dC (.int 0))) (d2 opIx (dVar 0) (dC (.int 1))))))
def l_is_drag : List D → M D := runDef 2 l_is_drag_b
def p_is_pointer_b : DenS :=
  dRet (dCall (arity 1 p_is_number) (dCons (dVar 0) (dNil)))
def p_is_pointer : List D → M D := runDef 1 p_is_pointer_b
def l_odd_b : DenS :=
  dSeq (dAsg (dLst (dCons (dC .non) (dCons (dC (.bl true)) (dCons (dC (.bl false)) (dCons (dC (.int 0)) (dCons (dC (.int 1)) (dCons (dC (.int 4)) (dCons (dC (.int 5)) (dCons (d1 opNeg (dC (.int 1))) (dCons (dC (.int 7)) (dCons (dC (.str "")) (dCons (dC (.str "and")) (dCons (dC (.str "or")) (dCons (dC (.str "below")) (dCons (dC (.str "pointer")) (dCons (dC (.str "held")) (dCons (dTup (dNil)) (dCons (dLst (dNil)) (dCons (dTup (dCons (dC (.str "pointer")) (dNil))) (dNil)))))))))))))))))))) (gSet 1)) <|
  dSeq (dAsg (d2 opAdd (dVar 1) (dLst (dCons (dTup (dCons (dC (.str "held")) (dCons (dC (.int 2)) (dNil)))) (dCons (dTup (dCons (dC (.str "next")) (dCons (dC (.int 5)) (dNil)))) (dCons (dTup (dCons (dC (.str "place")) (dCons (dC (.bl true)) (dNil)))) (dCons (dTup (dCons (dC (.str "pointer")) (dCons (dC (.int 0)) (dNil)))) (dCons (dTup (dCons (dC (.str "below")) (dCons (dTup (dCons (dC (.str "pointer")) (dNil))) (dCons (dTup (dCons (dC (.str "next")) (dCons (dC (.int 2)) (dNil)))) (dNil))))) (dNil)))))))) (gSet 1)) <|
  dRet (dCall (arity 2 l_of) (dCons (dVar 0) (dCons (d2 opAdd (dVar 1) (dLst (dCons (dLst (dCons (dC (.str "pointer")) (dNil))) (dCons (dTup (dCons (dC (.int 1)) (dCons (dC (.int 1)) (dNil)))) (dCons (dTup (dCons (dTup (dCons (dC (.int 1)) (dCons (dC (.int 1)) (dNil)))) (dCons (dC (.int 0)) (dCons (dC (.int 0)) (dNil))))) (dCons (d2 opPow (dC (.int 10)) (dC (.int 39))) (dCons (dC (.str "not above")) (dCons (dC (.str "not")) (dNil))))))))) (dNil))))
def l_odd : List D → M D := runDef 2 l_odd_b
def l_spoilt_b (r_ : List D → M D) : DenS :=
  dSeq (dIfS (dBOr (dBNot (bVal (d1 (opIsi "tuple") (dVar 1)))) (dBOr (bVal (d2 (opEq false) (dVar 1) (dTup (dNil)))) (bVal (d2 (opEq false) (dCall (arity 2 l_draw) (dCons (dVar 0) (dCons (dC (.int 6)) (dNil)))) (dC (.int 0)))))) (dRet (dCall (arity 1 l_odd) (dCons (dVar 0) (dNil)))) (dSkip)) <|
  dSeq (dPar [2, 3] (dCons (dCall (arity 2 l_draw) (dCons (dVar 0) (dCons (dCall (on1 biLen) (dCons (dVar 1) (dNil))) (dNil)))) (dCons (dCall (arity 2 l_draw) (dCons (dVar 0) (dCons (dC (.int 9)) (dNil)))) (dNil)))) <|
  dSeq (dIfS (bVal (d2 (opEq false) (dVar 3) (dC (.int 0)))) (dRet (d2 opAdd (dSl (dVar 1) (oNone) (oSome (dVar 2))) (dSl (dVar 1) (oSome (d2 opAdd (dVar 2) (dC (.int 1)))) (oNone)))) (dSkip)) <|
  dSeq (dIfS (bVal (d2 (opEq false) (dVar 3) (dC (.int 1)))) (dRet (d2 opAdd (dSl (dVar 1) (oNone) (oSome (d2 opAdd (dVar 2) (dC (.int 1))))) (dSl (dVar 1) (oSome (dVar 2)) (oNone)))) (dSkip)) <|
  dSeq (dIfS (bVal (d2 (opEq false) (dVar 3) (dC (.int 2)))) (dRet (d2 opAdd (d2 opAdd (dSl (dVar 1) (oNone) (oSome (dVar 2))) (dTup (dCons (dCall (arity 1 l_odd) (dCons (dVar 0) (dNil))) (dNil)))) (dSl (dVar 1) (oSome (dVar 2)) (oNone)))) (dSkip)) <|
  dSeq (dIfS (bVal (d2 (opEq false) (dVar 3) (dC (.int 3)))) (dRet (dCall (on1 biList) (dCons (dVar 1) (dNil)))) (dSkip)) <|
  dRet (d2 opAdd (d2 opAdd (dSl (dVar 1) (oNone) (oSome (dVar 2))) (dTup (dCons (dCall (arity 2 r_) (dCons (dVar 0) (dCons (d2 opIx (dVar 1) (dVar 2)) (dNil)))) (dNil)))) (dSl (dVar 1) (oSome (d2 opAdd (dVar 2) (dC (.int 1)))) (oNone)))
def l_spoilt : Nat → List D → M D
  | 0 => fun _ => M.stuck
  | n + 1 => runDef 4 (l_spoilt_b (l_spoilt n))
def p_law_b : DenS :=
  dSeq (dFor (iRange1 (dCons (d2 opAdd (dC (.int 1)) (dCall (on2 biMin) (dCons (dCall (on1 biLen) (dCons (dVar 0) (dNil))) (dCons (dC (.int 10)) (dNil))))) (dNil))) (gOf (.nm 1)) (dSeq (dAsg (dCall (arity 2 l_source) (dCons (dVar 0) (dCons (dVar 1) (dNil)))) (gSet 2)) <|
  dSeq (dPar [3, 4] (dCons (dCall (arity 1 l_rule) (dCons (dVar 2) (dNil))) (dCons (dCall (arity 2 l_drag) (dCons (dVar 2) (dCons (dC (.int 6)) (dNil)))) (dNil)))) <|
  dSeq (dIfS (bVal (d2 (opEq true) (dCall (arity 1 p_comparisons) (dCons (dVar 3) (dNil))) (d2 opAdd (dCall (arity 1 l_parts) (dCons (d2 opIx (dVar 3) (dC (.int 0))) (dNil))) (dCall (arity 1 l_parts) (dCons (d2 opIx (dVar 3) (dC (.int 1))) (dNil)))))) (dRet (dC (.bl false))) (dSkip)) <|
  dSeq (dIfS (dBOr (bVal (d2 (opEq true) (dCall (arity 1 p_upside_down) (dCons (dVar 3) (dNil))) (dTup (dCons (dCall (arity 1 l_turned) (dCons (d2 opIx (dVar 3) (dC (.int 1))) (dNil))) (dCons (dCall (arity 1 l_turned) (dCons (d2 opIx (dVar 3) (dC (.int 0))) (dNil))) (dNil)))))) (bVal (d2 (opEq true) (dCall (arity 1 p_upside_down) (dCons (dCall (arity 1 p_upside_down) (dCons (dVar 3) (dNil))) (dNil))) (dVar 3)))) (dRet (dC (.bl false))) (dSkip)) <|
  dFor (iVal (dLst (dCons (dVar 3) (dCons (d2 opIx (dVar 3) (dC (.int 0))) (dCons (dVar 4) (dCons (dCall (arity 2 l_pointer) (dCons (dVar 2) (dCons (dVar 4) (dNil)))) (dNil))))))) (gOf (.nm 5)) (dFor (iRange1 (dCons (dC (.int 5)) (dNil))) (gOf (.nm 6)) (dSeq (dIfS (dBOr (bVal (d2 (opEq true) (dCall (arity 1 p_is_rule) (dCons (dVar 5) (dNil))) (dCall (arity 1 l_is_rule) (dCons (dVar 5) (dNil))))) (bVal (d2 (opEq true) (dCall (arity 1 p_is_condition) (dCons (dVar 5) (dNil))) (dCall (arity 1 l_is_condition) (dCons (dVar 5) (dNil)))))) (dRet (dC (.bl false))) (dSkip)) <|
  dSeq (dIfS (dBOr (bVal (d2 (opEq true) (dCall (arity 1 p_is_drag) (dCons (dVar 5) (dNil))) (dCall (arity 1 l_is_drag) (dCons (dVar 5) (dNil))))) (bVal (d2 (opEq true) (dCall (arity 1 p_is_pointer) (dCons (dVar 5) (dNil))) (dCall (arity 1 l_is_int) (dCons (dVar 5) (dNil)))))) (dRet (dC (.bl false))) (dSkip)) <|
  dSeq (dIfS (dBOr (dBNot (bVal (d1 (opIsi "bool") (dCall (arity 1 p_is_rule) (dCons (dVar 5) (dNil)))))) (dBNot (bVal (d1 (opIsi "bool") (dCall (arity 1 p_is_drag) (dCons (dVar 5) (dNil))))))) (dRet (dC (.bl false))) (dSkip)) <|
  dAsg (dCall (arity 2 (l_spoilt fuelR)) (dCons (dVar 2) (dCons (dVar 5) (dNil)))) (gSet 5))))) <|
  dSeq (dAsg (dTup (dCons (dC (.str "below")) (dCons (dTup (dCons (dC (.str "pointer")) (dNil))) (dCons (dTup (dCons (dC (.str "next")) (dCons (dC (.int 4)) (dNil)))) (dNil))))) (gSet 7)) <|
  dSeq (dAsg (dLst (dCons (dVar 7) (dCons (dTup (dCons (dC (.str "and")) (dCons (dVar 7) (dCons (dVar 7) (dNil))))) (dCons (dTup (dCons (dC (.str "and")) (dCons (dVar 7) (dCons (dVar 7) (dCons (dVar 7) (dNil)))))) (dCons (dTup (dCons (dC (.str "and")) (dCons (dVar 7) (dCons (dVar 7) (dCons (dVar 7) (dCons (dVar 7) (dNil))))))) (dCons (dTup (dCons (dC (.str "or")) (dCons (dVar 7) (dNil)))) (dNil))))))) (gSet 3)) <|
  dSeq (dIfS (bVal (d2 (opEq true) (dLc (iVal (d2 opAdd (dVar 3) (dLst (dCons (dTup (dCons (dC (.str "and")) (dCons (dTup (dCons (dC (.str "or")) (dCons (dVar 7) (dCons (dVar 7) (dNil))))) (dCons (dVar 7) (dNil))))) (dNil))))) [5] (.nm 5) (bTrue) (dCall (arity 1 p_is_condition) (dCons (dVar 5) (dNil)))) (d2 opAdd (d2 opMul (dLst (dCons (dC (.bl true)) (dNil))) (dC (.int 3))) (d2 opMul (dLst (dCons (dC (.bl false)) (dNil))) (dC (.int 3)))))) (dRet (dC (.bl false))) (dSkip)) <|
  dRet (dAnd (dCall (arity 1 p_is_drag) (dCons (dTup (dCons (d2 opMul (dTup (dCons (d2 opPow (dC (.int 10)) (dC (.int 6))) (dNil))) (dC (.int 6))) (dCons (dC (.int 5)) (dCons (d2 opPow (dC (.int 10)) (dC (.int 6))) (dNil))))) (dNil))) (dAnd (dNot (dCall (arity 1 p_is_drag) (dCons (dTup (dCons (d2 opMul (dTup (dCons (dC (.int 1)) (dNil))) (dC (.int 7))) (dCons (dC (.int 0)) (dCons (dC (.int 0)) (dNil))))) (dNil)))) (dNot (dCall (arity 1 p_is_drag) (dCons (dTup (dCons (dTup (dCons (dC (.int 1)) (dCons (dC (.int 0)) (dNil)))) (dCons (dC (.int 0)) (dCons (dC (.int 0)) (dNil))))) (dNil))))))
def p_law : List D → M D := runDef 8 p_law_b
end K01
namespace K01
open PySem L2 MP
open PySem.Spec PyProof.Rows
def Src (st : Store) (n : Nat) : Prop := ∃ a b : Int, st[n]? = some (.lst [.int a, .int b]) ∧ 0 ≤ a ∧ 0 ≤ b ∧ b < 2147483648
def Fr (n : Nat) (st st' : Store) : Prop := st.length ≤ st'.length ∧ ∀ i, i < st.length → i ≠ n → st'[i]? = st[i]?
theorem Fr.refl (n : Nat) (st : Store) : Fr n st st := ⟨Nat.le_refl _, fun _ _ _ => rfl⟩
theorem Fr.trans {n : Nat} {a b c : Store} (h : Fr n a b) (k : Fr n b c) : Fr n a c :=
  ⟨Nat.le_trans h.1 k.1, fun i hi hn => (k.2 i (Nat.lt_of_lt_of_le hi h.1) hn).trans (h.2 i hi hn)⟩
theorem Fr.set {n : Nat} {st : Store} {c : Cell} : Fr n st (st.set n c) := ⟨by simp, fun i _ hn => List.getElem?_set_ne (Ne.symm hn)⟩
abbrev Dr (n : Nat) (st : Store) (P : D → Prop) (d : D) (st' : Store) : Prop := P d ∧ Src st' n ∧ Fr n st st'
abbrev Below (m : Int) (d : D) : Prop := ∃ v, d = .int v ∧ 0 ≤ v ∧ v < m
theorem draw_spec {st : Store} {n : Nat} {m : Int} (h : Src st n) (hm : 0 < m) (hb : m < 2 ^ 60) : T (l_draw [.ref n, .int m]) st (Dr n st (Below m)) := by
  obtain ⟨a, b, e, ha, hb0, hb1⟩ := h
  have gm := lg (x := m) (by omega) (by omega)
  simp [l_draw, l_draw_b, dSeq, dAsg, dIfS, dRet, runDef, e, set_get e]
  refine ⟨fun h0 => ⟨hm, ⟨hm, by omega⟩, ⟨_, rfl, Int.emod_nonneg _ (by omega), Int.emod_lt_of_pos _ hm⟩, ⟨_, _, set_get e, Int.ediv_nonneg ha (by omega), hb0, hb1⟩, Fr.set⟩, fun h0 => ?_⟩
  have g1 := lg hb0 (by omega)
  have h1 : 0 ≤ b * 48271 % 2147483647 := Int.emod_nonneg _ (by decide)
  have h2 : b * 48271 % 2147483647 < 2147483647 := Int.emod_lt_of_pos _ (by decide)
  have g2 := lg h1 (by omega)
  have g3 : Nat.log2 48271 < 60 := lg2 (by decide) (by decide)
  have g4 : Nat.log2 64 < 60 := lg2 (by decide) (by decide)
  exact ⟨by omega, by omega, by omega, hm, ⟨_, rfl, Int.emod_nonneg _ (by omega), Int.emod_lt_of_pos _ hm⟩, ⟨_, _, set_get e, ha, h1, by omega⟩, Fr.set⟩
theorem at_mem {ds : List D} {i : Int} (h0 : 0 ≤ i) (h1 : i < ds.length) : ∃ d, atI ds i = some d ∧ d ∈ ds := by
  unfold atI ixN
  rw [if_pos h0, if_pos (by omega)]
  refine ⟨ds[i.toNat]'(by omega), ?_, List.getElem_mem _⟩
  simp
theorem of_spec {st : Store} {n : Nat} {ds : List D} (h : Src st n) (h0 : ds ≠ []) (h1 : ds.length < 1000) : T (l_of [.ref n, .lst ds]) st (Dr n st (· ∈ ds)) := by
  have hl : 0 < ds.length := List.length_pos_iff.mpr h0
  simp [l_of, l_of_b, dSeq, dAsg, dIfS, dRet, runDef]
  refine (draw_spec h (by omega) (by omega)).mono fun d st' hd => ?_
  obtain ⟨⟨v, rfl, v0, v1⟩, hs, hf⟩ := hd
  obtain ⟨d, e1, e2⟩ := at_mem v0 v1
  simp [e1]
  exact ⟨e2, hs, hf⟩
theorem of_specT {st : Store} {n : Nat} {ds : List D} (h : Src st n) (h0 : ds ≠ []) (h1 : ds.length < 1000) : T (l_of [.ref n, .tup ds]) st (Dr n st (· ∈ ds)) := by
  have hl : 0 < ds.length := List.length_pos_iff.mpr h0
  simp [l_of, l_of_b, dSeq, dAsg, dIfS, dRet, runDef]
  refine (draw_spec h (by omega) (by omega)).mono fun d st' hd => ?_
  obtain ⟨⟨v, rfl, v0, v1⟩, hs, hf⟩ := hd
  obtain ⟨d, e1, e2⟩ := at_mem v0 v1
  simp [e1]
  exact ⟨e2, hs, hf⟩
@[simp] theorem so1 : PyData.strOk "pointer" = true := by decide +kernel
@[simp] theorem so2 : PyData.strOk "held" = true := by decide +kernel
@[simp] theorem so3 : PyData.strOk "place" = true := by decide +kernel
@[simp] theorem so4 : PyData.strOk "next" = true := by decide +kernel
@[simp] theorem so5 : PyData.strOk "below" = true := by decide +kernel
@[simp] theorem so6 : PyData.strOk "above" = true := by decide +kernel
@[simp] theorem so7 : PyData.strOk "not below" = true := by decide +kernel
@[simp] theorem so8 : PyData.strOk "not above" = true := by decide +kernel
@[simp] theorem so9 : PyData.strOk "and" = true := by decide +kernel
@[simp] theorem so10 : PyData.strOk "or" = true := by decide +kernel
@[simp] theorem so11 : PyData.strOk "" = true := by decide +kernel
@[simp] theorem so12 : PyData.strOk "not" = true := by decide +kernel
def IsPt (d : D) : Prop := d = .tup [.str "pointer"] ∨ ∃ (s : Str) (v : Int), (s = "held" ∨ s = "place" ∨ s = "next") ∧ 0 ≤ v ∧ v ≤ 4 ∧ d = .tup [.str s, .int v]
theorem isPt_n {s : Str} {v : Int} (h : s = "held" ∨ s = "place" ∨ s = "next") (h0 : 0 ≤ v) (h1 : v ≤ 4) : IsPt (.tup [.str s, .int v]) := .inr ⟨s, v, h, h0, h1, rfl⟩
theorem isPt_p : IsPt (.tup [.str "pointer"]) := .inl rfl
theorem point_spec {st : Store} {n : Nat} (h : Src st n) : T (l_point [.ref n]) st (Dr n st IsPt) := by
  rw [l_point, t_run, l_point_b, t_asg]
  simp
  refine (of_spec h (by simp) (by simp)).mono fun d st1 hd => ?_
  obtain ⟨hd, h1, f1⟩ := hd
  have hs : ∃ s : Str, d = .str s ∧ (s = "pointer" ∨ s = "held" ∨ s = "place" ∨ s = "next") := by
    simp at hd
    rcases hd with rfl | rfl | rfl | rfl <;> simp
  obtain ⟨s, rfl, hs⟩ := hs
  have hk : PyData.strOk s = true := by rcases hs with rfl | rfl | rfl | rfl <;> simp
  rw [t_ifs]
  simp [eq_of (dep_str hk) (dep_str so1), isS]
  refine ⟨fun e => by rw [t_ret]; simp; exact ⟨isPt_p, h1, f1⟩, fun e => ?_⟩
  rw [t_ret1]
  simp
  refine (draw_spec h1 (by decide) (by decide)).mono fun d st2 hd => ?_
  obtain ⟨⟨v, rfl, v0, v1⟩, h2, f2⟩ := hd
  refine (of_spec h2 (by simp) (by simp)).mono fun d st3 hd => ?_
  obtain ⟨hd, h3, f3⟩ := hd
  have hv : ∃ v : Int, d = .int v ∧ 0 ≤ v ∧ v ≤ 4 := by
    simp at hd
    rcases hd with rfl | rfl | rfl | rfl <;> exact ⟨_, rfl, by omega, by omega⟩
  obtain ⟨v, rfl, v0, v1⟩ := hv
  exact ⟨isPt_n (hs.resolve_left e) v0 v1, h3, (f1.trans f2).trans f3⟩
def IsWd (s : Str) : Prop := s = "below" ∨ s = "above" ∨ s = "not below" ∨ s = "not above"
def IsCmp (d : D) : Prop := ∃ s p r, IsWd s ∧ IsPt p ∧ IsPt r ∧ d = .tup [.str s, p, r]
theorem comparison_spec {st : Store} {n : Nat} (h : Src st n) : T (l_comparison [.ref n]) st (Dr n st IsCmp) := by
  simp [l_comparison, l_comparison_b, dSeq, dAsg, dIfS, dRet, runDef]
  refine (of_spec h (by simp) (by simp)).mono fun d st1 hd => ?_
  obtain ⟨hd, h1, f1⟩ := hd
  have hs : ∃ s : Str, d = .str s ∧ IsWd s := by
    simp at hd
    rcases hd with rfl | rfl | rfl | rfl <;> simp [IsWd]
  obtain ⟨s, rfl, hs⟩ := hs
  refine (point_spec h1).mono fun p st2 hd => ?_
  obtain ⟨hp, h2, f2⟩ := hd
  refine (point_spec h2).mono fun r st3 hd => ?_
  obtain ⟨hr, h3, f3⟩ := hd
  exact ⟨⟨s, p, r, hs, hp, hr, rfl⟩, h3, (f1.trans f2).trans f3⟩
def IsCond (d : D) : Prop := IsCmp d ∨ ∃ (s : Str) (cs : List D), (s = "and" ∨ s = "or") ∧ 2 ≤ cs.length ∧ cs.length ≤ 3 ∧ (∀ c ∈ cs, IsCmp c) ∧ d = .tup (.str s :: cs)
/-- a list of draws -/
theorem lc_draw {n : Nat} {t : Tg} {f : Den} {ρ : MP.Env} {P : D → Prop} : ∀ {ds : List D} {st : Store}, Src st n → (∀ d ∈ ds, ∃ ρ1, t.bind d ρ = some ρ1 ∧ ∀ st, Src st n → T (f ρ1) st (Dr n st P)) →
    T (lcL t bTrue f ρ ds) st (fun ys st' => (∀ y ∈ ys, P y) ∧ ys.length = ds.length ∧ Src st' n ∧ Fr n st st')
  | [], st, h, _ => ⟨by simp, rfl, h, Fr.refl _ _⟩
  | d :: ds, st, h, k => by
    obtain ⟨ρ1, e, hf⟩ := k d List.mem_cons_self
    unfold lcL
    rw [e]
    simp [optB]
    refine (hf st h).mono fun y st1 hy => ?_
    obtain ⟨hy, h1, f1⟩ := hy
    refine (lc_draw h1 fun x hx => k x (List.mem_cons_of_mem _ hx)).mono fun ys st2 hq => ?_
    obtain ⟨q1, q2, q3, q4⟩ := hq
    exact ⟨⟨hy, q1⟩, q2, q3, f1.trans q4⟩
theorem rangeL_len {i : Int} : (rangeL 0 i).length = i.toNat := by simp [rangeL]
theorem condition_spec {st : Store} {n : Nat} (h : Src st n) : T (l_condition [.ref n]) st (Dr n st IsCond) := by
  simp [l_condition, l_condition_b, dSeq, dAsg, dIfS, dRet, runDef]
  refine (of_spec h (by simp) (by simp)).mono fun d st1 hd => ?_
  obtain ⟨hd, h1, f1⟩ := hd
  have hv : ∃ v : Int, d = .int v ∧ 1 ≤ v ∧ v ≤ 3 := by
    simp at hd
    rcases hd with rfl | rfl | rfl <;> exact ⟨_, rfl, by omega, by omega⟩
  obtain ⟨v, rfl, v0, v1⟩ := hv
  simp [wipeE, show (-4611686018427387904 : Int) ≤ v by omega, show v < 4611686018427387904 by omega, rangeL_len]
  refine ⟨by omega, ?_⟩
  refine (lc_draw (P := IsCmp) h1 fun d hd => ⟨_, rfl, fun st hs => ?_⟩).mono fun ys st2 hq => ?_
  · simp
    exact comparison_spec hs
  · obtain ⟨q1, q2, q3, q4⟩ := hq
    rw [rangeL_len] at q2
    refine ⟨fun e => ?_, fun e => ?_⟩
    · subst e
      obtain ⟨y, rfl⟩ : ∃ y, ys = [y] := List.length_eq_one_iff.mp q2
      simp
      exact ⟨.inl (q1 y (by simp)), q3, f1.trans q4⟩
    · refine (of_spec q3 (by simp) (by simp)).mono fun d st3 hd => ?_
      obtain ⟨hd, h3, f3⟩ := hd
      have hj : ∃ s : Str, d = .str s ∧ (s = "and" ∨ s = "or") := by
        simp at hd
        rcases hd with rfl | rfl <;> simp
      obtain ⟨s, rfl, hj⟩ := hj
      try simp
      exact ⟨by omega, .inr ⟨s, ys, hj, by omega, by omega, q1, rfl⟩, h3, (f1.trans q4).trans f3⟩
def IsRule (d : D) : Prop := ∃ a b, IsCond a ∧ IsCond b ∧ d = .tup [a, b]
theorem cond_of {d : D} (h : IsCmp d) : IsCond d := .inl h
theorem cond_2 {s : Str} {a b : D} (hs : s = "and" ∨ s = "or") (ha : IsCmp a) (hb : IsCmp b) : IsCond (.tup [.str s, a, b]) :=
  .inr ⟨s, [a, b], hs, by simp, by simp, by simp [ha, hb], rfl⟩
theorem cmp_3 {s : Str} {a b : D} (hs : IsWd s) (ha : IsPt a) (hb : IsPt b) : IsCmp (.tup [.str s, a, b]) := ⟨s, a, b, hs, ha, hb, rfl⟩
theorem isWd1 : IsWd "below" := .inl rfl
theorem isWd2 : IsWd "above" := .inr (.inl rfl)
theorem isWd3 : IsWd "not below" := .inr (.inr (.inl rfl))
theorem isWd4 : IsWd "not above" := .inr (.inr (.inr rfl))
/-- one of some words -/
theorem of_words {st : Store} {n : Nat} {zs : List Str} (h : Src st n) (h0 : zs ≠ []) (h1 : zs.length < 1000) : T (l_of [.ref n, .lst (zs.map D.str)]) st (Dr n st fun d => ∃ s ∈ zs, d = .str s) :=
  (of_spec h (by simpa using h0) (by simpa using h1)).mono fun d st' ⟨hd, hs, hf⟩ => ⟨by obtain ⟨s, e1, e2⟩ := List.mem_map.mp hd; exact ⟨s, e1, e2.symm⟩, hs, hf⟩
theorem of_ints {st : Store} {n : Nat} {zs : List Int} (h : Src st n) (h0 : zs ≠ []) (h1 : zs.length < 1000) : T (l_of [.ref n, .lst (zs.map D.int)]) st (Dr n st fun d => ∃ s ∈ zs, d = .int s) :=
  (of_spec h (by simpa using h0) (by simpa using h1)).mono fun d st' ⟨hd, hs, hf⟩ => ⟨by obtain ⟨s, e1, e2⟩ := List.mem_map.mp hd; exact ⟨s, e1, e2.symm⟩, hs, hf⟩
theorem known_spec {st : Store} {n : Nat} (h : Src st n) : T (l_known [.ref n]) st (Dr n st IsRule) := by
  rw [l_known, t_run, l_known_b, t_asg]
  simp
  refine (of_ints (zs := [0, 1, 2, 2, 3, 4]) h (by simp) (by simp)).mono fun d st1 hd => ?_
  obtain ⟨⟨share, hsh, rfl⟩, h1, f1⟩ := hd
  have hsh : 0 ≤ share ∧ share ≤ 4 := by simp at hsh; omega
  rw [t_asg]; simp
  refine (of_words (zs := ["below", "not above"]) h1 (by simp) (by simp)).mono fun d st2 hd => ?_
  obtain ⟨⟨other, ho, rfl⟩, h2, f2⟩ := hd
  have ho : IsWd other := by simp at ho; rcases ho with rfl | rfl <;> simp [IsWd]
  rw [t_asg]; simp
  refine (of_ints (zs := [2, 4, 4, 0]) h2 (by simp) (by simp)).mono fun d st3 hd => ?_
  obtain ⟨⟨hgt, hg, rfl⟩, h3, f3⟩ := hd
  have hg : 0 ≤ hgt ∧ hgt ≤ 4 := by simp at hg; omega
  refine (of_spec h3 (by simp) (by simp)).mono fun d st4 hd => ?_
  obtain ⟨hd, h4, f4⟩ := hd
  have hd : d = .tup [.str "pointer"] ∨ d = .tup [.str "held", .int hgt] := by simpa using hd
  rw [t_asg]
  have F4 := ((f1.trans f2).trans f3).trans f4
  clear f1 f2 f3 f4
  refine T.mono (P := fun b s => IsPt d ∧ IsPt b ∧ s = st4) ?_ fun back s hb => ?_
  · rcases hd with rfl | rfl
    · simp
      rw [eq_of (dep_tup.mpr (by simp [dep_str])) (dep_tup.mpr (by simp [dep_str]))]
      simp [eqvAll_cons, deq_sr, isS, eqvAll_nil]
      exact isPt_p
    · simp
      rw [eq_of (dep_tup.mpr (by simp [dep_str, dep_int])) (dep_tup.mpr (by simp [dep_str]))]
      simp (decide := true) [eqvAll_cons, deq_sr, isS, eqvAll_nil]
      exact ⟨isPt_n (.inl rfl) (by omega) (by omega), isPt_n (.inl rfl) (by omega) (by omega)⟩
  obtain ⟨hpt, hback, rfl⟩ := hb
  rw [t_asg]; simp
  refine (of_spec h4 (by simp) (by simp)).mono fun g st5 hd => ?_
  obtain ⟨hgo, h5, f5⟩ := hd
  have hgo : ∃ (s : Str) (v : Int), (s = "held" ∨ s = "place" ∨ s = "next") ∧ 0 ≤ v ∧ v ≤ 4 ∧ g = .tup [.str s, .int v] := by
    simp at hgo
    rcases hgo with rfl | rfl
    · exact ⟨_, _, .inr (.inr rfl), by omega, by omega, rfl⟩
    · exact ⟨_, _, .inr (.inl rfl), by omega, by omega, rfl⟩
  obtain ⟨gs, gv, hgs, g0, g1, rfl⟩ := hgo
  rw [t_asg]; simp
  rw [t_asg]; simp
  rw [t_asg]; simp
  refine (of_words (zs := ["above", "not below"]) h5 (by simp) (by simp)).mono fun d st6 hd => ?_
  obtain ⟨⟨w6, hw6, rfl⟩, h6, f6⟩ := hd
  have hw6 : IsWd w6 := by simp at hw6; rcases hw6 with rfl | rfl <;> simp [IsWd]
  rw [t_asg]; simp
  refine (draw_spec h6 (by decide) (by decide)).mono fun d st7 hd => ?_
  obtain ⟨⟨mode, rfl, m0, m1⟩, h7, f7⟩ := hd
  have F7 := ((F4.trans f5).trans f6).trans f7
  have hdown := cmp_3 ho hpt (isPt_n hgs g0 g1)
  have hup := cmp_3 hw6 hback (isPt_n hgs (show 0 ≤ 4 - gv by omega) (by omega))
  have last : ∀ (s : Store) (a b : D), Src s n → Fr n st s → IsCond a → IsCond b → Dr n st IsRule (.tup [a, b]) s := fun s a b hs hf ha hb => ⟨⟨a, b, ha, hb, rfl⟩, hs, hf⟩
  have up2 : IsCond (.tup [.str "or", .tup [.str w6, back, .tup [.str gs, .int (4 - gv)]], .tup [.str "above", .tup [.str "pointer"], .tup [.str "place", .int 0]]]) := cond_2 (.inr rfl) hup (cmp_3 isWd2 isPt_p (isPt_n (.inr (.inl rfl)) (by omega) (by omega)))
  rw [t_ifs]; simp
  refine ⟨fun e => ?_, fun e => ?_⟩
  · rw [t_seq, t_asg]; simp
    refine (of_words (zs := ["above", "below"]) h7 (by simp) (by simp)).mono fun d st8 hd => ?_
    obtain ⟨⟨w8, hw8, rfl⟩, h8, f8⟩ := hd
    have hw8 : IsWd w8 := by simp at hw8; rcases hw8 with rfl | rfl <;> simp [IsWd]
    refine (draw_spec h8 (by decide) (by decide)).mono fun d st9 hd => ?_
    obtain ⟨⟨v9, rfl, v0, v1⟩, h9, f9⟩ := hd
    have l1 := lg v0 (by omega)
    have l2 : Nat.log2 4 < 60 := lg2 (by decide) (by decide)
    simp
    refine ⟨by omega, ?_⟩
    have hc := cond_2 (.inl rfl) hdown (cmp_3 hw8 isPt_p (isPt_n (.inr (.inr rfl)) (show 0 ≤ 4 * v9 by omega) (by omega)))
    rw [t_asg]; simp
    rw [t_ifs]; simp
    refine ⟨fun e => ?_, fun e => ?_⟩
    · omega
    · rw [t_ret1]; simp
      exact last _ _ _ h9 ((F7.trans f8).trans f9) hc (.inl hup)
  · rw [t_ifs]; simp
    refine ⟨fun e => ?_, fun e => ?_⟩
    · rw [t_asg]; simp
      rw [t_ret1]; simp
      exact last _ _ _ h7 F7 (.inl hdown) up2
    · rw [t_ret1]; simp
      exact last _ _ _ h7 F7 (.inl hdown) (.inl hup)
end K01

namespace K01
open PySem L2 MP
open PySem.Spec PyProof.Rows
theorem rule_spec {st : Store} {n : Nat} (h : Src st n) : T (l_rule [.ref n]) st (Dr n st IsRule) := by
  rw [l_rule, t_run, l_rule_b, t_par]
  simp
  refine (draw_spec h (by decide) (by decide)).mono fun d st1 hd => ?_
  obtain ⟨⟨mode, rfl, m0, m1⟩, h1, f1⟩ := hd
  refine (known_spec h1).mono fun r st2 hd => ?_
  obtain ⟨hr, h2, f2⟩ := hd
  have F2 := f1.trans f2
  rw [t_ifs]; simp
  refine ⟨fun e => ?_, fun e => ?_⟩
  · rw [t_ret]; simp
    refine (condition_spec h2).mono fun a st3 hd => ?_
    obtain ⟨ha, h3, f3⟩ := hd
    refine (condition_spec h3).mono fun b st4 hd => ?_
    obtain ⟨hb, h4, f4⟩ := hd
    exact ⟨⟨a, b, ha, hb, rfl⟩, h4, (F2.trans f3).trans f4⟩
  obtain ⟨a, b, ha, hb, rfl⟩ := hr
  rw [t_ifs]; simp
  refine ⟨fun e => ?_, fun e => ?_⟩
  · rw [t_ret]; simp
    refine (condition_spec h2).mono fun b st3 hd => ?_
    obtain ⟨hb, h3, f3⟩ := hd
    exact ⟨⟨a, b, ha, hb, rfl⟩, h3, F2.trans f3⟩
  · rw [t_ret1]; simp
    refine ⟨fun e => ?_, fun e => ?_⟩
    · refine (condition_spec h2).mono fun c st3 hd => ?_
      obtain ⟨hc, h3, f3⟩ := hd
      exact ⟨⟨c, b, hc, hb, rfl⟩, h3, F2.trans f3⟩
    · exact ⟨⟨a, b, ha, hb, rfl⟩, h2, F2⟩
/-- a drag of rows up to 40 high -/
def IsDrg (d : D) : Prop := ∃ (hs : List Int) (held grab : Int), 2 ≤ hs.length ∧ hs.length ≤ 6 ∧ (∀ x ∈ hs, 1 ≤ x ∧ x ≤ 40) ∧ 0 ≤ held ∧ held < hs.length ∧ 0 ≤ grab ∧ (∃ hh, atI hs held = some hh ∧ grab ≤ hh) ∧ d = .tup [.tup (hs.map D.int), .int held, .int grab]
theorem ints_of {P : Int → Prop} : ∀ {ds : List D}, (∀ d ∈ ds, ∃ v, d = .int v ∧ P v) → ∃ ns : List Int, ds = ns.map D.int ∧ ∀ x ∈ ns, P x
  | [], _ => ⟨[], rfl, by simp⟩
  | d :: ds, h => by
    obtain ⟨v, rfl, hv⟩ := h d List.mem_cons_self
    obtain ⟨ns, rfl, hns⟩ := ints_of fun x hx => h x (List.mem_cons_of_mem _ hx)
    exact ⟨v :: ns, rfl, by simpa using ⟨hv, hns⟩⟩
theorem at_ints {ns : List Int} {i : Int} : atI (ns.map D.int) i = (atI ns i).map D.int := atI_map _ _ _
theorem at_memI {ns : List Int} {i : Int} (h0 : 0 ≤ i) (h1 : i < ns.length) : ∃ d, atI ns i = some d ∧ d ∈ ns := by
  unfold atI ixN
  rw [if_pos h0, if_pos (by omega)]
  exact ⟨ns[i.toNat]'(by omega), by simp, List.getElem_mem _⟩
theorem drag_spec {st : Store} {n : Nat} {m : Int} (hm : 2 ≤ m) (hm6 : m ≤ 6) (h : Src st n) : T (l_drag [.ref n, .int m]) st (Dr n st IsDrg) := by
  rw [l_drag, t_run, l_drag_b, t_asg]
  simp
  refine (draw_spec h (by decide) (by decide)).mono fun d st1 hd => ?_
  obtain ⟨⟨v1, rfl, a0, a1⟩, h1, f1⟩ := hd
  simp
  rw [t_asg]; simp
  refine (draw_spec h1 (by omega) (by omega)).mono fun d st2 hd => ?_
  obtain ⟨⟨v2, rfl, b0, b1⟩, h2, f2⟩ := hd
  simp [show (-4611686018427387904 : Int) ≤ 2 + v2 by omega, show 2 + v2 < 4611686018427387904 by omega, rangeL_len, wipeE]
  refine ⟨by omega, ?_⟩
  refine (lc_draw (P := fun d => ∃ v : Int, d = .int v ∧ 1 ≤ v ∧ v ≤ 40) h2 fun d hd => ⟨_, rfl, fun st hs => ?_⟩).mono fun ys st3 hq => ?_
  · simp
    refine (of_spec hs (by simp) (by simp)).mono fun d st' hd => ⟨?_, hd.2⟩
    have hd := hd.1
    simp at hd
    rcases hd with rfl | rfl | rfl | rfl | rfl | rfl <;> exact ⟨_, rfl, by omega, by omega⟩
  obtain ⟨q1, q2, h3, f3⟩ := hq
  rw [rangeL_len] at q2
  obtain ⟨hs, rfl, hhs⟩ := ints_of q1
  have q2 : hs.length = (2 + v2).toNat := by simpa using q2
  rw [t_asg]; simp
  refine (draw_spec h3 (by omega) (by omega)).mono fun d st4 hd => ?_
  obtain ⟨⟨held, rfl, c0, c1⟩, h4, f4⟩ := hd
  obtain ⟨hh, e1, e2⟩ := at_memI c0 (by simpa using c1)
  have e3 := hhs hh e2
  rw [t_asg]; simp [at_ints, e1]
  refine (draw_spec h4 (by omega) (by omega)).mono fun d st5 hd => ?_
  obtain ⟨⟨v5, rfl, d0, d1⟩, h5, f5⟩ := hd
  refine (of_spec h5 (by simp) (by simp)).mono fun g st6 hd => ?_
  obtain ⟨hg, h6, f6⟩ := hd
  have hg : ∃ g' : Int, g = .int g' ∧ 0 ≤ g' ∧ g' ≤ hh := by
    simp at hg
    rcases hg with rfl | rfl | rfl <;> exact ⟨_, rfl, by omega, by omega⟩
  obtain ⟨g', rfl, g0, g1⟩ := hg
  rw [t_ret1]; simp
  exact ⟨⟨hs, held, g', by omega, by omega, hhs, c0, by simpa using c1, g0, ⟨hh, e1, g1⟩, rfl⟩, h6, ((((f1.trans f2).trans f3).trans f4).trans f5).trans f6⟩
theorem intsD_map : ∀ ns : List Int, intsD (ns.map D.int) = some ns
  | [] => rfl
  | n :: ns => by
    have := intsD_map ns
    show (intsD (ns.map D.int)).map (n :: ·) = _
    rw [this]; rfl
theorem sum_t {ns : List Int} : biSumA (.tup (ns.map D.int)) = pure (.int ns.sum) := by
  show sumL _ = _
  unfold sumL
  rw [intsD_map]
theorem sum_le : ∀ {ns : List Int}, (∀ x ∈ ns, 1 ≤ x ∧ x ≤ 40) → 0 ≤ ns.sum ∧ (ns.length : Int) ≤ ns.sum ∧ ns.sum ≤ 40 * ns.length
  | [], _ => by simp
  | n :: ns, h => by
    have h1 := h n List.mem_cons_self
    have h2 := sum_le fun x hx => h x (List.mem_cons_of_mem _ hx)
    simp only [List.sum_cons, List.length_cons]
    omega
theorem pointer_spec {st : Store} {n : Nat} {d : D} (hd : IsDrg d) (h : Src st n) : T (l_pointer [.ref n, d]) st (Dr n st fun d => ∃ v, d = .int v) := by
  obtain ⟨hs, held, grab, k1, k2, k3, k4, k5, k6, k7, rfl⟩ := hd
  obtain ⟨s0, s1, s2⟩ := sum_le k3
  rw [l_pointer, t_run, l_pointer_b, t_asg]
  simp [sum_t]
  rw [t_asg]; simp
  refine (draw_spec h (by omega) (by omega)).mono fun d st1 hd => ?_
  obtain ⟨⟨v1, rfl, a0, a1⟩, h1, f1⟩ := hd
  refine (draw_spec h1 (by omega) (by omega)).mono fun d st2 hd => ?_
  obtain ⟨⟨v2, rfl, b0, b1⟩, h2, f2⟩ := hd
  simp
  rw [t_ret1]; simp
  have g1 : Nat.log2 3 < 60 := lg2 (by decide) (by decide)
  have g2 := lg s0 (by omega)
  refine ⟨by omega, ?_⟩
  refine (draw_spec h2 (by omega) (by omega)).mono fun d st3 hd => ?_
  obtain ⟨⟨v3, rfl, c0, c1⟩, h3, f3⟩ := hd
  simp
  refine (of_spec h3 (by simp) (by simp)).mono fun g st4 hd => ?_
  obtain ⟨hg, h4, f4⟩ := hd
  refine ⟨?_, h4, ((f1.trans f2).trans f3).trans f4⟩
  simp at hg
  rcases hg with rfl | rfl | rfl <;> exact ⟨_, rfl⟩
end K01

namespace K01
open PySem L2 MP
open PySem.Spec PyProof.Rows
/-! ### what is recognized -/
def th (d : D) : Bool := isS "held" d || (isS "place" d || isS "next" d)
def rng (d : D) : Bool := match d with
  | .int v => decide (0 ≤ v) && decide (v ≤ 4)
  | _ => false
def isPtB : D → Bool
  | .tup [a] => isS "pointer" a
  | .tup [a, b] => !isS "pointer" a && (th a && (isI b && rng b))
  | _ => false
def wd (d : D) : Bool := isS "below" d || (isS "above" d || (isS "not below" d || isS "not above" d))
def isCmpB : D → Bool
  | .tup [a, b, c] => wd a && (isPtB b && isPtB c)
  | _ => false
def jn (d : D) : Bool := isS "and" d || isS "or" d
def isCondB : D → Bool
  | .tup [a, b, c] => if jn a then isCmpB b && isCmpB c else wd a && (isPtB b && isPtB c)
  | .tup [a, b, c, d] => jn a && (isCmpB b && (isCmpB c && isCmpB d))
  | _ => false
def isRuleB : D → Bool
  | .tup [a, b] => isCondB a && isCondB b
  | _ => false
theorem isS_str {s : Str} {d : D} (h : isS s d = true) : d = .str s := by
  cases d with
  | str t => rw [eq_of_beq h]
  | _ => cases h
theorem isS_isStr {s : Str} {d : D} (h : isSt d = false) : isS s d = false := by cases d <;> first | rfl | cases h
theorem is_number_eq {d : D} (h : d.okD = true) : p_is_number [d] = pure (.bl (isI d)) := by
  refine eq_of_T fun st => ?_
  rw [p_is_number, t_run, p_is_number_b, t_ret1]
  simp [isi_int h, isi_bool h]
  cases d <;> simp [isI, isB]
theorem l_is_int_eq {d : D} (h : d.okD = true) : l_is_int [d] = pure (.bl (isI d)) := by
  refine eq_of_T fun st => ?_
  rw [l_is_int, t_run, l_is_int_b, t_ret1]
  simp [isi_int h, isi_bool h]
  cases d <;> simp [isI, isB]
theorem any_words {zs : List Str} {d : D} : ((zs.map D.str).any fun z => deq z d) = zs.any fun z => isS z d := by
  rw [List.any_map]
  simp [Function.comp_def]
theorem dep_wordsT {zs : List Str} (hz : ∀ z ∈ zs, PyData.strOk z = true) : Dep 64 (.tup (zs.map D.str)) := by
  simp
  exact fun z h => dep_str (hz z h)
theorem dep_wordsL {zs : List Str} (hz : ∀ z ∈ zs, PyData.strOk z = true) : Dep 64 (.lst (zs.map D.str)) := by
  simp
  exact fun z h => dep_str (hz z h)
theorem among_eq {zs : List Str} {d : D} (h : Dep 64 d) (hz : ∀ z ∈ zs, PyData.strOk z = true) : p_is_among [.tup (zs.map D.str), d] = pure (.bl (zs.any fun z => isS z d)) := by
  refine eq_of_T fun st => ?_
  rw [p_is_among, t_run, p_is_among_b, t_ret1]
  simp only [dAnd, d1, d2]
  simp [isi_str h.ok, in_of h (dep_wordsT hz), Function.comp_def]
  cases hs : isSt d with
  | true => simp
  | false =>
    simp
    exact fun z _ => isS_isStr hs
theorem amongL_eq {zs : List Str} {d : D} (h : Dep 64 d) (hz : ∀ z ∈ zs, PyData.strOk z = true) : p_is_among [.lst (zs.map D.str), d] = pure (.bl (zs.any fun z => isS z d)) := by
  refine eq_of_T fun st => ?_
  rw [p_is_among, t_run, p_is_among_b, t_ret1]
  simp only [dAnd, d1, d2]
  simp [isi_str h.ok, in_ofL h (dep_wordsL hz), Function.comp_def]
  cases hs : isSt d with
  | true => simp
  | false =>
    simp
    exact fun z _ => isS_isStr hs
theorem is_point_eq {d : D} (h : Dep 60 d) : p_is_point [d] = pure (.bl (isPtB d)) := by
  refine eq_of_T fun st => ?_
  have h64 : Dep 64 d := h.mono (by decide)
  rw [p_is_point, t_run, p_is_point_b, t_ifs]
  cases d with
  | tup ds =>
    have am : ∀ a, Dep 64 a → p_is_among [g_THINGS, a] = pure (.bl (th a)) := fun a ha => by
      have := among_eq (zs := (["held", "place", "next"] : List Str)) ha (by simp)
      simpa [th] using this
    simp only [dBOr, dBNot, bVal, d1, d2]
    simp [isi_tuple h.ok, eq_of h64, isTu]
    match ds, h, h64 with
    | [], _, _ => simp [isNil, isPtB, t_ret]
    | [a], h, _ =>
      have ha : Dep 64 a := (h.items (d := a) (by simp)).mono (by decide)
      simp [isNil, t_ifs, t_ret, t_ret1, q_s ha, isPtB]
    | [a, b], h, _ =>
      have ha : Dep 64 a := (h.items (d := a) (by simp)).mono (by decide)
      have hb : Dep 64 b := (h.items (d := b) (by simp)).mono (by decide)
      simp [isNil, t_ifs, t_ret, t_ret1, q_s ha, isPtB, am a ha, is_number_eq hb.ok]
      refine ⟨fun e => by simp [e], fun e => ?_⟩
      simp [e]
      cases th a with
      | false => simp
      | true =>
        cases b with
        | int v =>
          simp [isI, rng]
          by_cases h0 : 0 ≤ v
          · simp [h0]; omega
          · simp [h0]
        | _ => simp [isI, rng]
    | a :: b :: c :: r, h, _ =>
      have ha : Dep 64 a := (h.items (d := a) (by simp)).mono (by decide)
      have e1 : ((r.length : Int) + 1 + 1 + 1 == 1) = false := by simp; omega
      have e2 : ((r.length : Int) + 1 + 1 + 1 == 2) = false := by simp; omega
      have e0 := at_zero (a := a) (r := b :: c :: r)
      simp [isNil, t_ifs, t_ret, t_ret1, q_s ha, isPtB, e0, e1, e2]
  | _ =>
    simp only [dBOr, dBNot, bVal, d1, d2]
    simp [isi_tuple h.ok, isTu, isPtB, t_ret]
theorem in_th {a : D} (ha : Dep 64 a) : opIn false a (.tup [.str "held", .str "place", .str "next"]) = pure (.bl (th a)) := by
  rw [in_of ha (by simp)]
  simp [th]
theorem in_wd {a : D} (ha : Dep 64 a) : opIn true a (.tup [.str "below", .str "above", .str "not below", .str "not above"]) = pure (.bl (!wd a)) := by
  rw [in_of ha (by simp)]
  simp [wd]
theorem in_jn {a : D} (ha : Dep 64 a) : opIn false a (.tup [.str "and", .str "or"]) = pure (.bl (jn a)) := by
  rw [in_of ha (by simp)]
  simp [jn]
theorem in_jnN {a : D} (ha : Dep 64 a) : opIn true a (.tup [.str "and", .str "or"]) = pure (.bl (!jn a)) := by
  rw [in_of ha (by simp)]
  simp [jn]
theorem l_is_point_eq {d : D} (h : Dep 60 d) : l_is_point [d] = pure (.bl (isPtB d)) := by
  refine eq_of_T fun st => ?_
  have h64 : Dep 64 d := h.mono (by decide)
  rw [l_is_point, t_run, l_is_point_b, t_ifs]
  cases d with
  | tup ds =>
    simp only [dBOr, dBNot, bVal, d1, d2]
    simp [isi_tuple h.ok, eq_of h64, isTu]
    match ds, h, h64 with
    | [], _, _ => simp [isNil, isPtB, t_ret]
    | a :: r, h, _ =>
      have ha : Dep 64 a := (h.items (d := a) (by simp)).mono (by decide)
      simp [isNil, at_zero, isi_str ha.ok]
      cases hs : isSt a with
      | false =>
        simp [t_ret]
        match r with
        | [] => simp [isPtB, isS_isStr hs]
        | [b] => simp [isPtB, isS_isStr hs, th]
        | _ :: _ :: _ => simp [isPtB]
      | true =>
        simp [t_ifs, at_zero, q_s ha]
        refine ⟨fun e => ?_, fun e => ?_⟩
        · simp [t_ret]
          match r with
          | [] => simp [isPtB, e]
          | [b] => simp [isPtB, e]
          | _ :: _ :: _ =>
            simp [isPtB]
            omega
        · rw [t_asg]
          simp [at_zero, in_th ha]
          match r, h with
          | [], _ => simp [isPtB, e, t_ret1]
          | [b], h =>
            have hb : Dep 64 b := (h.items (d := b) (by simp)).mono (by decide)
            simp [isPtB, e, t_ret1, l_is_int_eq hb.ok]
            cases ht : th a with
            | false => simp
            | true =>
              simp
              cases b with
              | int v =>
                simp [isI, rng]
                by_cases h0 : 0 ≤ v
                · simp [h0]; omega
                · simp [h0]
              | _ => simp [isI, rng]
          | b :: c :: r, _ =>
            have e2 : ((r.length : Int) + 1 + 1 + 1 == 2) = false := by simp; omega
            simp [isPtB, t_ret1, e2]
  | _ =>
    simp only [dBOr, dBNot, bVal, d1, d2]
    simp [isi_tuple h.ok, isTu, isPtB, t_ret]
theorem is_comparison_eq {d : D} (h : Dep 60 d) : p_is_comparison [d] = pure (.bl (isCmpB d)) := by
  refine eq_of_T fun st => ?_
  have h64 : Dep 64 d := h.mono (by decide)
  rw [p_is_comparison, t_run, p_is_comparison_b, t_ifs]
  have am : ∀ a, Dep 64 a → p_is_among [.lst (g_TURNED.map fun q => keyV q.1), a] = pure (.bl (wd a)) := fun a ha => by
    have := amongL_eq (zs := (["below", "above", "not below", "not above"] : List Str)) ha (by simp)
    simpa [wd, keyV] using this
  cases d with
  | tup ds =>
    simp only [dBOr, dBNot, bVal, d1, d2]
    simp [isi_tuple h.ok, isTu, dKlist]
    match ds, h with
    | [], _ => simp [isCmpB, t_ret]
    | [_], _ => simp [isCmpB, t_ret]
    | [_, _], _ => simp [isCmpB, t_ret]
    | [a, b, c], h =>
      have ha : Dep 64 a := (h.items (d := a) (by simp)).mono (by decide)
      have hb : Dep 60 b := (h.items (d := b) (by simp)).mono (by decide)
      have hc : Dep 60 c := (h.items (d := c) (by simp)).mono (by decide)
      have am' := am a ha
      simp [keyV] at am'
      simp [isCmpB, keyV, am', t_ret, t_ret1, is_point_eq hb, is_point_eq hc]
      cases wd a <;> cases isPtB b <;> cases isPtB c <;> simp
    | _ :: _ :: _ :: _ :: r, _ =>
      simp [isCmpB, t_ret]
      intro e
      omega
  | _ =>
    simp only [dBOr, dBNot, bVal, d1, d2]
    simp [isi_tuple h.ok, isTu, isCmpB, t_ret]
theorem l_is_comparison_eq {d : D} (h : Dep 60 d) : l_is_comparison [d] = pure (.bl (isCmpB d)) := by
  refine eq_of_T fun st => ?_
  have h64 : Dep 64 d := h.mono (by decide)
  rw [l_is_comparison, t_run, l_is_comparison_b, t_ifs]
  cases d with
  | tup ds =>
    simp only [dBOr, dBNot, bVal, d1, d2]
    simp [isi_tuple h.ok, isTu]
    match ds, h with
    | [], _ => simp [isCmpB, t_ret]
    | [_], _ => simp [isCmpB, t_ret]
    | [_, _], _ => simp [isCmpB, t_ret]
    | [a, b, c], h =>
      have ha : Dep 64 a := (h.items (d := a) (by simp)).mono (by decide)
      have hb : Dep 60 b := (h.items (d := b) (by simp)).mono (by decide)
      have hc : Dep 60 c := (h.items (d := c) (by simp)).mono (by decide)
      simp [isCmpB, isi_str ha.ok]
      cases hs : isSt a with
      | false => simp [t_ret, wd, isS_isStr hs]
      | true =>
        simp [t_ifs, in_wd ha, t_ret, t_ret1, l_is_point_eq hb, l_is_point_eq hc]
        cases wd a <;> cases isPtB b <;> cases isPtB c <;> simp
    | _ :: _ :: _ :: _ :: r, _ =>
      simp [isCmpB, t_ret]
      intro e
      omega
  | _ =>
    simp only [dBOr, dBNot, bVal, d1, d2]
    simp [isi_tuple h.ok, isTu, isCmpB, t_ret]
theorem blsD_map : ∀ bs : List Bool, blsD (bs.map D.bl) = some bs
  | [] => rfl
  | b :: bs => by
    have := blsD_map bs
    show (blsD (bs.map D.bl)).map (b :: ·) = _
    rw [this]; rfl
theorem all_l {bs : List Bool} : biAll (.lst (bs.map D.bl)) = pure (.bl (bs.all id)) := by
  show allL _ = _
  unfold allL
  rw [blsD_map]
theorem lc_bools {t : Tg} {f : Den} {ρ : MP.Env} {g : D → Bool} {ds : List D} (h : ∀ d ∈ ds, ∃ ρ1, t.bind d ρ = some ρ1 ∧ f ρ1 = pure (.bl (g d))) : lcL t bTrue f ρ ds = pure ((ds.map g).map D.bl) := by
  have := lc_map (t := t) (c := bTrue) (f := f) (ρ := ρ) (p := fun _ => true) (g := fun d => .bl (g d)) (ds := ds) fun d hd => by
    obtain ⟨ρ1, h1, h2⟩ := h d hd
    exact ⟨ρ1, h1, rfl, fun _ => h2⟩
  rw [this, List.filter_eq_self.mpr (by simp), List.map_map]
  rfl
theorem cut1 {α : Type} {a : α} {r : List α} : cutL (a :: r) (some 1) none = r := by
  unfold cutL HT.sIx
  simp
theorem cond_none : ∀ {ds : List D}, ds.length ≠ 3 → ds.length ≠ 4 → isCondB (.tup ds) = false
  | [], _, _ => rfl
  | [_], _, _ => rfl
  | [_, _], _, _ => rfl
  | [_, _, _], h, _ => absurd rfl h
  | [_, _, _, _], _, h => absurd rfl h
  | _ :: _ :: _ :: _ :: _ :: _, _, _ => rfl
theorem is_good_condition_eq {d : D} (h : Dep 60 d) : p_is_good_condition [d] = pure (.bl (isCondB d)) := by
  refine eq_of_T fun st => ?_
  have h64 : Dep 64 d := h.mono (by decide)
  have am : ∀ a, Dep 64 a → p_is_among [g_JOINTS, a] = pure (.bl (jn a)) := fun a ha => by
    have := among_eq (zs := (["and", "or"] : List Str)) ha (by simp)
    simpa [jn] using this
  rw [p_is_good_condition, t_run, p_is_good_condition_b, t_ifs]
  cases d with
  | tup ds =>
    simp only [dBOr, dBNot, bVal, d1, d2]
    have hin : ∀ n : Nat, opIn true (.int n) (.tup [.int 3, .int 4]) = pure (.bl (!(n == 3 || n == 4))) := fun n => by
      rw [in_of dep_int (by simp)]
      have e3 : ((3 : Int) == (n : Int)) = (n == 3) := by rw [Bool.eq_iff_iff]; simp; omega
      have e4 : ((4 : Int) == (n : Int)) = (n == 4) := by rw [Bool.eq_iff_iff]; simp; omega
      simp [e3, e4]
    simp [isi_tuple h.ok, isTu, hin]
    refine ⟨fun h3 h4 => ?_, fun h34 => ?_⟩
    · simp [t_ret, cond_none h3 h4]
    · have go : ∀ (a : D) (r : List D), Dep 60 (.tup (a :: r)) → r.length < 1000 → (jn a = true → isCondB (.tup (a :: r)) = r.all isCmpB) → (jn a = false → isCondB (.tup (a :: r)) = isCmpB (.tup (a :: r))) → T
        (dSeq
          (dIfS (bVal (dCall (arity 2 p_is_among) (dCons (dC g_JOINTS) (dCons (d2 opIx (dVar 0) (dC (D.int 0))) dNil))))
            (dRet
              (dCall (on1 biAll)
                (dCons
                  (dLc (iVal (dSl (dVar 0) (oSome (dC (D.int 1))) oNone)) [1] (Tg.nm 1) bTrue
                    (dCall (arity 1 p_is_comparison) (dCons (dVar 1) dNil)))
                  dNil)))
            dSkip)
          (dRet (dCall (arity 1 p_is_comparison) (dCons (dVar 0) dNil))) [some (D.tup (a :: r)), none])
        st (RetQ fun d s => d = D.bl (isCondB (D.tup (a :: r))) ∧ s = st) := fun a r h hr h1 h2 => by
        have ha : Dep 64 a := (h.items (d := a) (by simp)).mono (by decide)
        have am' := am a ha
        simp only [g_JOINTS] at am'
        rw [t_ifs]
        simp [at_zero, am']
        refine ⟨fun e => ?_, fun e => ?_⟩
        · simp [t_ret, cut1, wipeE]
          refine ⟨by omega, ?_⟩
          rw [lc_bools (g := isCmpB) fun d hd => ⟨_, rfl, by simpa using is_comparison_eq ((h.items (d := d) (by simp [hd])).mono (by decide))⟩]
          simp
          rw [← List.map_map, all_l]
          simp [h1 e]
        · simp [t_ret1, is_comparison_eq h, h2 e]
      match ds, h, h34 with
      | [a, b, c], h, _ => exact go a [b, c] h (by simp) (fun e => by simp [isCondB, e]) (fun e => by simp [isCondB, isCmpB, e])
      | [a, b, c, d], h, _ => exact go a [b, c, d] h (by simp) (fun e => by simp [isCondB, e]) (fun e => by simp [isCondB, isCmpB, e])
      | [], _, h34 => simp at h34
      | [_], _, h34 => simp at h34
      | [_, _], _, h34 => simp at h34
      | _ :: _ :: _ :: _ :: _ :: r, _, h34 => simp at h34
  | _ =>
    simp only [dBOr, dBNot, bVal, d1, d2]
    simp [isi_tuple h.ok, isTu, isCondB, t_ret]
theorem wd_jn {a : D} (h : wd a = true) : jn a = false := by
  simp [wd] at h
  rcases h with h | h | h | h <;> rw [isS_str h] <;> decide +kernel
theorem l_nil {neg : Bool} {xs : List D} (h : ∀ x ∈ xs, Dep 63 x) : opEq neg (.lst xs) (.lst []) = pure (.bl (if neg then !xs.isEmpty else xs.isEmpty)) := by
  rw [eq_of (dep_lst.mpr h) (by simp)]
  cases xs <;> simp
theorem filt_all (p : D → Bool) : ∀ r : List D, (r.filter fun d => !p d).isEmpty = r.all p
  | [] => rfl
  | d :: r => by
    have := filt_all p r
    cases h : p d <;> simp [h, List.filter_cons, this]
theorem l_is_condition_eq {d : D} (h : Dep 60 d) : l_is_condition [d] = pure (.bl (isCondB d)) := by
  refine eq_of_T fun st => ?_
  have h64 : Dep 64 d := h.mono (by decide)
  rw [l_is_condition, t_run, l_is_condition_b, t_ifs]
  simp [l_is_comparison_eq h]
  refine ⟨fun e => ?_, fun e => ?_⟩
  · simp [t_ret]
    have h3 : ∃ a b c, d = .tup [a, b, c] := by
      unfold isCmpB at e
      split at e
      · exact ⟨_, _, _, rfl⟩
      · cases e
    obtain ⟨a, b, c, rfl⟩ := h3
    simp [isCmpB] at e
    simp [isCondB, wd_jn e.1, e]
  · rw [t_ifs]
    cases d with
    | tup ds =>
      simp only [dBOr, dBNot, bVal, d1, d2]
      have hin : ∀ n : Nat, opIn true (.int n) (.tup [.int 3, .int 4]) = pure (.bl (!(n == 3 || n == 4))) := fun n => by
        rw [in_of dep_int (by simp)]
        have e3 : ((3 : Int) == (n : Int)) = (n == 3) := by rw [Bool.eq_iff_iff]; simp; omega
        have e4 : ((4 : Int) == (n : Int)) = (n == 4) := by rw [Bool.eq_iff_iff]; simp; omega
        simp [e3, e4]
      simp [isi_tuple h.ok, isTu, hin]
      refine ⟨fun h3 h4 => ?_, fun h34 => ?_⟩
      · simp [t_ret, cond_none h3 h4]
      · have go : ∀ (a : D) (r : List D), Dep 60 (.tup (a :: r)) → r.length < 1000 → (jn a = true → isCondB (.tup (a :: r)) = r.all isCmpB) → (jn a = false → isCondB (.tup (a :: r)) = isCmpB (.tup (a :: r))) → isCmpB (.tup (a :: r)) = false → T (opIx (.tup (a :: r)) (.int 0)) st (fun x s => T (opIn true x (.tup [.str "and", .str "or"])) s fun x s => T (asB x) s fun b s =>
            (b = true → T (dSeq (dRet (dC (.bl false))) (dRet (d2 (opEq false) (dLc (iVal (dSl (dVar 0) (oSome (dC (.int 1))) (oNone))) [1] (.nm 1) (dBNot (bVal (dCall (arity 1 l_is_comparison) (dCons (dVar 1) (dNil))))) (dVar 1)) (dLst (dNil)))) [some (.tup (a :: r)), none]) s (RetQ fun d s => d = D.bl (isCondB (.tup (a :: r))) ∧ s = st)) ∧
            (b = false → T (dRet (d2 (opEq false) (dLc (iVal (dSl (dVar 0) (oSome (dC (.int 1))) (oNone))) [1] (.nm 1) (dBNot (bVal (dCall (arity 1 l_is_comparison) (dCons (dVar 1) (dNil))))) (dVar 1)) (dLst (dNil))) [some (.tup (a :: r)), none]) s (RetQ fun d s => d = D.bl (isCondB (.tup (a :: r))) ∧ s = st))) := fun a r h hr h1 h2 h3 => by
          have ha : Dep 64 a := (h.items (d := a) (by simp)).mono (by decide)
          simp [at_zero, in_jnN ha]
          refine ⟨fun e => ?_, fun e => ?_⟩
          · simp [t_ret, h2 e, h3]
          · simp [t_ret1, cut1, wipeE]
            refine ⟨by omega, ?_⟩
            rw [lc_map (p := fun d => !isCmpB d) (g := id) fun d hd => ⟨_, rfl, by simp [l_is_comparison_eq ((h.items (d := d) (by simp [hd])).mono (by decide) : Dep 60 d), dBNot], fun _ => by simp⟩]
            simp [l_nil (xs := r.filter fun d => !isCmpB d) fun x hx => ((h.items (d := x) (by simp [(List.mem_filter.mp hx).1])).mono (by decide) : Dep 63 x)]
            rw [h1 e]
            exact filt_all _ _
        match ds, h, h34, e with
        | [a, b, c], h, _, e =>
          have := go a [b, c] h (by simp) (fun e => by simp [isCondB, e]) (fun e => by simp [isCondB, isCmpB, e]) e
          first | exact this | simpa using this
        | [a, b, c, d], h, _, e =>
          have := go a [b, c, d] h (by simp) (fun e => by simp [isCondB, e]) (fun e => by simp [isCondB, isCmpB, e]) e
          first | exact this | simpa using this
        | [], _, h34, _ => simp at h34
        | [_], _, h34, _ => simp at h34
        | [_, _], _, h34, _ => simp at h34
        | _ :: _ :: _ :: _ :: _ :: r, _, h34, _ => simp at h34
    | _ =>
      simp only [dBOr, dBNot, bVal, d1, d2]
      simp [isi_tuple h.ok, isTu, isCondB, t_ret]
theorem is_good_rule_eq {d : D} (h : Dep 60 d) : p_is_good_rule [d] = pure (.bl (isRuleB d)) := by
  refine eq_of_T fun st => ?_
  have h64 : Dep 64 d := h.mono (by decide)
  rw [p_is_good_rule, t_run, p_is_good_rule_b, t_ret1]
  cases d with
  | tup ds =>
    simp only [dAnd, d1, d2]
    simp [isi_tuple h.ok, isTu]
    match ds, h with
    | [], _ => simp [isRuleB]
    | [_], _ => simp [isRuleB]
    | [a, b], h =>
      have ha : Dep 60 a := (h.items (d := a) (by simp)).mono (by decide)
      have hb : Dep 60 b := (h.items (d := b) (by simp)).mono (by decide)
      simp [isRuleB, wipeE]
      rw [lc_bools (g := isCondB) fun d hd => ⟨_, rfl, by
        have : Dep 60 d := by
          simp at hd
          rcases hd with rfl | rfl
          · exact ha
          · exact hb
        simpa using is_good_condition_eq this⟩]
      simp
      have := all_l (bs := [isCondB a, isCondB b])
      simp at this
      simp [this]
    | _ :: _ :: _ :: r, _ =>
      simp [isRuleB]
      intro e
      omega
  | _ =>
    simp only [dAnd, d1, d2]
    simp [isi_tuple h.ok, isTu, isRuleB]
theorem l_is_rule_eq {d : D} (h : Dep 60 d) : l_is_rule [d] = pure (.bl (isRuleB d)) := by
  refine eq_of_T fun st => ?_
  have h64 : Dep 64 d := h.mono (by decide)
  rw [l_is_rule, t_run, l_is_rule_b, t_ifs]
  cases d with
  | tup ds =>
    simp only [dBOr, dBNot, bVal, d1, d2]
    simp [isi_tuple h.ok, isTu]
    match ds, h with
    | [], _ => simp [isRuleB, t_ret]
    | [_], _ => simp [isRuleB, t_ret]
    | [a, b], h =>
      have ha : Dep 60 a := (h.items (d := a) (by simp)).mono (by decide)
      have hb : Dep 60 b := (h.items (d := b) (by simp)).mono (by decide)
      simp [isRuleB, t_ret1, l_is_condition_eq ha, l_is_condition_eq hb]
    | _ :: _ :: _ :: r, _ =>
      simp [isRuleB, t_ret]
      intro e
      omega
  | _ =>
    simp only [dBOr, dBNot, bVal, d1, d2]
    simp [isi_tuple h.ok, isTu, isRuleB, t_ret]
end K01

namespace K01
open PySem L2 MP
open PySem.Spec PyProof.Rows
def rowB (d : D) : Bool := match d with
  | .int v => decide (0 < v)
  | _ => false
def heldB (hs : List D) (x g : D) : Bool := match x with
  | .int v => decide (0 ≤ v) && (decide (v < hs.length) && match g, atI hs v with
    | .int w, some (.int u) => decide (0 ≤ w) && decide (w ≤ u)
    | _, _ => false)
  | _ => false
def isDragB : D → Bool
  | .tup [.tup hs, x, g] => decide (2 ≤ hs.length) && (decide (hs.length ≤ 6) && (hs.all rowB && heldB hs x g))
  | _ => false
theorem rows_ints {hs : List D} (h : hs.all rowB = true) : ∃ ns : List Int, hs = ns.map D.int ∧ ∀ x ∈ ns, 0 < x := by
  refine ints_of fun d hd => ?_
  have := List.all_eq_true.mp h d hd
  unfold rowB at this
  split at this
  · exact ⟨_, rfl, of_decide_eq_true this⟩
  · cases this
theorem all_id {hs : List D} {g : D → Bool} : (hs.map g).all id = hs.all g := by simp [List.all_map]
theorem is_good_drag_eq {d : D} (h : Dep 60 d) : p_is_good_drag [d] = pure (.bl (isDragB d)) := by
  refine eq_of_T fun st => ?_
  have h64 : Dep 64 d := h.mono (by decide)
  rw [p_is_good_drag, t_run, p_is_good_drag_b, t_ifs]
  cases d with
  | tup ds =>
    simp only [dBOr, dBNot, bVal, d1, d2]
    simp [isi_tuple h.ok, isTu]
    match ds, h with
    | [], _ => simp [isDragB, t_ret]
    | [_], _ => simp [isDragB, t_ret]
    | [_, _], _ => simp [isDragB, t_ret]
    | [a, x, g], h =>
      have ha : Dep 64 a := (h.items (d := a) (by simp)).mono (by decide)
      have hx : Dep 64 x := (h.items (d := x) (by simp)).mono (by decide)
      have hg : Dep 64 g := (h.items (d := g) (by simp)).mono (by decide)
      simp [isi_tuple ha.ok]
      cases a with
      | tup hs =>
        have hh : ∀ d ∈ hs, Dep 59 d := fun d hd => ((h.items (d := .tup hs) (by simp)).items hd).mono (by decide)
        simp [isTu]
        rw [t_tg]
        simp [Tg.bind, Tgs.bind]
        rw [t_ifs]
        simp [isDragB]
        refine ⟨fun e => ?_, fun e1 e2 => ⟨by omega, ?_⟩⟩
        · simp [t_ret]
          intro a b
          omega
        · simp [wipeE]
          rw [lc_bools (g := rowB) fun d hd => ⟨_, rfl, by
            have := is_number_eq (hh d hd).ok
            cases d <;> simp [this, isI, rowB]⟩]
          simp only [t_pure, all_l, asB_b, all_id]
          refine ⟨fun e => by simp [t_ret, e], fun e => ?_⟩
          have e1' : 2 ≤ hs.length := by omega
          have e2' : hs.length ≤ 6 := by omega
          simp only [e, e1', e2', decide_true, Bool.true_and]
          rw [t_ret1]
          obtain ⟨ns, rfl, hns⟩ := rows_ints e
          simp only [dAnd, d1, d2]
          simp [is_number_eq hx.ok]
          cases x with
          | int v =>
            simp [isI]
            by_cases v0 : 0 ≤ v
            · by_cases v1 : v < ns.length
              · obtain ⟨u, hu, _⟩ := at_memI v0 v1
                simp [v0, v1, is_number_eq hg.ok, at_ints, hu, heldB]
                cases g with
                | int w => simp [isI]; omega
                | _ => simp [isI]
              · simp [v0, v1, heldB]
            · simp [v0, heldB]
          | _ => simp [isI, heldB]
      | _ => simp [isTu, t_ret, isDragB]
    | _ :: _ :: _ :: _ :: r, _ =>
      simp [isDragB, t_ret]
      intro e
      omega
  | _ =>
    simp only [dBOr, dBNot, bVal, d1, d2]
    simp [isi_tuple h.ok, isTu, isDragB, t_ret]
theorem filt_not {p : D → Bool} (r : List D) : (r.filter p).isEmpty = r.all fun d => !p d := by
  have := filt_all (fun d => !p d) r
  simpa using this
theorem l_is_drag_eq {d : D} (h : Dep 60 d) : l_is_drag [d] = pure (.bl (isDragB d)) := by
  refine eq_of_T fun st => ?_
  have h64 : Dep 64 d := h.mono (by decide)
  rw [l_is_drag, t_run, l_is_drag_b, t_ifs]
  cases d with
  | tup ds =>
    simp only [dBOr, dBNot, bVal, d1, d2]
    simp [isi_tuple h.ok, isTu]
    match ds, h with
    | [], _ => simp [isDragB, t_ret]
    | [_], _ => simp [isDragB, t_ret]
    | [_, _], _ => simp [isDragB, t_ret]
    | [a, x, g], h =>
      have ha : Dep 64 a := (h.items (d := a) (by simp)).mono (by decide)
      have hx : Dep 64 x := (h.items (d := x) (by simp)).mono (by decide)
      have hg : Dep 64 g := (h.items (d := g) (by simp)).mono (by decide)
      simp [isi_tuple ha.ok]
      cases a with
      | tup hs =>
        have hh : ∀ d ∈ hs, Dep 59 d := fun d hd => ((h.items (d := .tup hs) (by simp)).items hd).mono (by decide)
        simp [isTu]
        rw [t_ifs]
        simp only [dBOr, dBNot, bVal, d1, d2]
        simp [isDragB]
        refine ⟨fun e => ?_, fun e1 e2 => ⟨by omega, ?_⟩⟩
        · simp [t_ret]
          intro a b
          omega
        · simp only [wipeE]
          rw [lc_map (p := fun d => !rowB d) (g := id) fun d hd => ⟨_, rfl, by
            have := l_is_int_eq (hh d hd).ok
            cases d <;> simp [this, isI, rowB, dBOr, dBNot]
            congr 1; rw [Bool.eq_iff_iff]; simp; omega, fun _ => by simp⟩]
          simp only [t_pure]
          have hq := l_nil (neg := true) (xs := (hs.filter fun d => !rowB d).map id) fun x hx => by
            rw [List.map_id] at hx
            exact (hh x (List.mem_filter.mp hx).1).mono (by decide)
          rw [hq, List.map_id, filt_all]
          simp only [if_true, t_pure, asB_b, Bool.not_eq_true', Bool.not_eq_false']
          refine ⟨fun e => by simp only [e]; simp [t_ret], fun e => ?_⟩
          have e1' : 2 ≤ hs.length := by omega
          have e2' : hs.length ≤ 6 := by omega
          simp only [e, e1', e2', decide_true, Bool.true_and]
          obtain ⟨ns, rfl, hns⟩ := rows_ints e
          rw [t_ifs]
          simp only [dBOr, dBNot, bVal, d1, d2]
          simp [l_is_int_eq hx.ok]
          cases x with
          | int v =>
            simp [isI]
            by_cases v0 : 0 ≤ v
            · by_cases v1 : v < ns.length
              · obtain ⟨u, hu, _⟩ := at_memI v0 v1
                rw [t_ret1]
                simp only [dAnd, d1, d2]
                simp [v0, v1, l_is_int_eq hg.ok, at_ints, hu, heldB, t_ret]
                cases g with
                | int w => simp [isI]; omega
                | _ => simp [isI]
              · simp [v0, v1, heldB, t_ret]
            · simp [v0, heldB, t_ret]
          | _ => simp [isI, heldB, t_ret]
      | _ => simp [isTu, t_ret, isDragB]
    | _ :: _ :: _ :: _ :: r, _ =>
      simp [isDragB, t_ret]
      intro e
      omega
  | _ =>
    simp only [dBOr, dBNot, bVal, d1, d2]
    simp [isi_tuple h.ok, isTu, isDragB, t_ret]
end K01

namespace K01
open PySem L2 MP
open PySem.Spec PyProof.Rows
theorem isPt_dep {p : D} (h : IsPt p) : Dep 1 p := by
  rcases h with rfl | ⟨s, v, hs, h0, h1, rfl⟩
  · simp
  · rcases hs with rfl | rfl | rfl <;> simp
theorem isPt_B {p : D} (h : IsPt p) : isPtB p = true := by
  rcases h with rfl | ⟨s, v, hs, h0, h1, rfl⟩
  · simp [isPtB, isS]
  · rcases hs with rfl | rfl | rfl <;> simp [isPtB, isS, th, isI, rng, h0, h1] <;> decide +kernel
theorem isWd_ok {s : Str} (h : IsWd s) : PyData.strOk s = true := by rcases h with rfl | rfl | rfl | rfl <;> simp
theorem isWd_B {s : Str} (h : IsWd s) : wd (.str s) = true := by rcases h with rfl | rfl | rfl | rfl <;> decide +kernel
theorem isCmp_dep {p : D} (h : IsCmp p) : Dep 2 p := by
  obtain ⟨s, a, b, hs, ha, hb, rfl⟩ := h
  exact dep_tup.mpr (by simp [isWd_ok hs, isPt_dep ha, isPt_dep hb])
theorem isCmp_B {p : D} (h : IsCmp p) : isCmpB p = true := by
  obtain ⟨s, a, b, hs, ha, hb, rfl⟩ := h
  simp [isCmpB, isWd_B hs, isPt_B ha, isPt_B hb]
theorem isCond_dep {p : D} (h : IsCond p) : Dep 3 p := by
  rcases h with h | ⟨s, cs, hs, h0, h1, hc, rfl⟩
  · exact (isCmp_dep h).mono (by decide)
  · refine dep_tup.mpr ?_
    have : PyData.strOk s = true := by rcases hs with rfl | rfl <;> simp
    simp [this]
    exact fun a ha => isCmp_dep (hc a ha)
theorem jn_s {s : Str} (hs : s = "and" ∨ s = "or") : jn (.str s) = true := by rcases hs with rfl | rfl <;> decide +kernel
theorem isCond_B {p : D} (h : IsCond p) : isCondB p = true := by
  rcases h with h | ⟨s, cs, hs, h0, h1, hc, rfl⟩
  · have := isCmp_B h
    obtain ⟨s, a, b, hs, ha, hb, rfl⟩ := h
    simp [isCmpB] at this
    simp [isCondB, wd_jn this.1, this]
  · match cs, h0, h1, hc with
    | [a, b], _, _, hc => simp [isCondB, jn_s hs, isCmp_B (hc a (by simp)), isCmp_B (hc b (by simp))]
    | [a, b, c], _, _, hc => simp [isCondB, jn_s hs, isCmp_B (hc a (by simp)), isCmp_B (hc b (by simp)), isCmp_B (hc c (by simp))]
    | [], h0, _, _ => simp at h0
    | [_], h0, _, _ => simp at h0
    | _ :: _ :: _ :: _ :: _, _, h1, _ => simp at h1
theorem isRule_dep {p : D} (h : IsRule p) : Dep 4 p := by
  obtain ⟨a, b, ha, hb, rfl⟩ := h
  exact dep_tup.mpr (by simp [isCond_dep ha, isCond_dep hb])
theorem isRule_B {p : D} (h : IsRule p) : isRuleB p = true := by
  obtain ⟨a, b, ha, hb, rfl⟩ := h
  simp [isRuleB, isCond_B ha, isCond_B hb]
theorem need_rule_eq {r : D} (h : IsRule r) : p_need_rule [r] = pure .non := by
  refine eq_of_T fun st => ?_
  rw [p_need_rule, t_run, p_need_rule_b, t_ifs1]
  simp [is_good_rule_eq ((isRule_dep h).mono (by decide)), isRule_B h]
/-! ### parts -/
def partsD : D → List D
  | .tup (.str s :: cs) => if s = "and" ∨ s = "or" then cs else [.tup (.str s :: cs)]
  | d => [d]
theorem wd_not {s : Str} (h : IsWd s) : ¬(s = "and" ∨ s = "or") := by rcases h with rfl | rfl | rfl | rfl <;> decide +kernel
theorem partsD_cmp {p : D} (h : IsCmp p) : partsD p = [p] := by
  obtain ⟨s, a, b, hs, ha, hb, rfl⟩ := h
  simp only [partsD]
  rw [if_neg (wd_not hs)]
theorem parts_cmp {c : D} (h : IsCond c) : ∀ p ∈ partsD c, IsCmp p := by
  rcases h with h | ⟨s, cs, hs, h0, h1, hc, rfl⟩
  · rw [partsD_cmp h]; simpa using h
  · simp only [partsD]; rw [if_pos hs]; exact hc
theorem parts_len {c : D} (h : IsCond c) : (partsD c).length ≤ 3 := by
  rcases h with h | ⟨s, cs, hs, h0, h1, hc, rfl⟩
  · rw [partsD_cmp h]; simp
  · simp only [partsD]; rw [if_pos hs]; exact h1
theorem cond_hd {c : D} (h : IsCond c) : ∃ (s : Str) (r : List D), c = .tup (.str s :: r) ∧ PyData.strOk s = true ∧ partsD c = (if jn (.str s) = true then r else [c]) := by
  rcases h with h | ⟨s, cs, hs, h0, h1, hc, rfl⟩
  · rw [partsD_cmp h]
    obtain ⟨s, a, b, hs, ha, hb, rfl⟩ := h
    exact ⟨s, _, rfl, isWd_ok hs, by rw [wd_jn (isWd_B hs)]; simp⟩
  · exact ⟨s, cs, rfl, by rcases hs with rfl | rfl <;> simp, by simp only [partsD]; rw [if_pos hs, if_pos (jn_s hs)]⟩
theorem parts_of_eq {c : D} (h : IsCond c) : p_parts_of [c] = pure (.lst (partsD c)) := by
  obtain ⟨s, r, rfl, hs, hp⟩ := cond_hd h
  refine eq_of_T fun st => ?_
  rw [p_parts_of, t_run, p_parts_of_b, t_ret1]
  have := in_jn (dep_str hs (k := 64))
  simp [at_zero, g_JOINTS, this, cut1, hp]
  cases jn (.str s) <;> simp
theorem l_parts_eq {c : D} (h : IsCond c) : l_parts [c] = pure (.lst (partsD c)) := by
  obtain ⟨s, r, rfl, hs, hp⟩ := cond_hd h
  refine eq_of_T fun st => ?_
  rw [l_parts, t_run, l_parts_b, t_ret1]
  have := in_jn (dep_str hs (k := 64))
  simp [at_zero, this, cut1, hp]
  cases jn (.str s) <;> simp
theorem comparisons_eq {a b : D} (ha : IsCond a) (hb : IsCond b) : p_comparisons [.tup [a, b]] = pure (.lst (partsD a ++ partsD b)) := by
  refine eq_of_T fun st => ?_
  rw [p_comparisons, t_run, p_comparisons_b, t_exp]
  simp [need_rule_eq ⟨a, b, ha, hb, rfl⟩]
  rw [t_ret1]
  have h1 := parts_len ha
  have h2 := parts_len hb
  simp [p_all_comparisons, t_run, p_all_comparisons_b, t_ret1, parts_of_eq ha, parts_of_eq hb]
  omega
end K01

namespace K01
open PySem L2 MP
open PySem.Spec PyProof.Rows
/-! ### upside down -/
def tP : D → D
  | .tup [a, .int v] => .tup [a, .int (4 - v)]
  | d => d
def tw (s : Str) : Str := if s = "below" then "above" else if s = "above" then "below" else if s = "not below" then "not above" else "not below"
def tCmp : D → D
  | .tup [.str s, p, q] => .tup [.str (tw s), tP p, tP q]
  | d => d
def tC : D → D
  | .tup (.str s :: cs) => if s = "and" ∨ s = "or" then .tup (.str s :: cs.map tCmp) else tCmp (.tup (.str s :: cs))
  | d => d
theorem tw_wd {s : Str} (h : IsWd s) : IsWd (tw s) ∧ tw (tw s) = s := by
  rcases h with rfl | rfl | rfl | rfl <;> exact ⟨by simp (decide := true) [tw, IsWd], by decide +kernel⟩
theorem tP_pt {p : D} (h : IsPt p) : IsPt (tP p) ∧ tP (tP p) = p := by
  rcases h with rfl | ⟨s, v, hs, h0, h1, rfl⟩
  · exact ⟨isPt_p, rfl⟩
  · refine ⟨isPt_n hs (by omega) (by omega), ?_⟩
    simp only [tP]
    rw [show 4 - (4 - v) = v by omega]
theorem tCmp_cmp {p : D} (h : IsCmp p) : IsCmp (tCmp p) ∧ tCmp (tCmp p) = p := by
  obtain ⟨s, a, b, hs, ha, hb, rfl⟩ := h
  obtain ⟨h1, h2⟩ := tw_wd hs
  obtain ⟨a1, a2⟩ := tP_pt ha
  obtain ⟨b1, b2⟩ := tP_pt hb
  exact ⟨cmp_3 h1 a1 b1, by simp only [tCmp, h2, a2, b2]⟩
theorem tC_cmp {p : D} (h : IsCmp p) : tC p = tCmp p := by
  obtain ⟨s, a, b, hs, ha, hb, rfl⟩ := h
  simp only [tC]
  rw [if_neg (wd_not hs)]
theorem tC_cond {c : D} (h : IsCond c) : IsCond (tC c) ∧ tC (tC c) = c := by
  rcases h with h | ⟨s, cs, hs, h0, h1, hc, rfl⟩
  · obtain ⟨h1, h2⟩ := tCmp_cmp h
    rw [tC_cmp h, tC_cmp h1, h2]
    exact ⟨.inl h1, rfl⟩
  · simp only [tC]
    rw [if_pos hs]
    refine ⟨.inr ⟨s, _, hs, by simpa using h0, by simpa using h1, by simpa using fun c h => (tCmp_cmp (hc c h)).1, rfl⟩, ?_⟩
    simp only [tC]
    rw [if_pos hs, List.map_map]
    congr 2
    have : cs.map (tCmp ∘ tCmp) = cs.map id := List.map_congr_left fun c h => (tCmp_cmp (hc c h)).2
    rw [this, List.map_id]
theorem turned_point_eq {p : D} (h : IsPt p) : p_turned_point [p] = pure (tP p) := by
  refine eq_of_T fun st => ?_
  rw [p_turned_point, t_run, p_turned_point_b, t_ret1]
  rcases h with rfl | ⟨s, v, hs, h0, h1, rfl⟩
  · simp [tP]
  · simp [tP]
theorem dget_tw {s : Str} (h : IsWd s) : dget (g_TURNED.map (·.1)) (g_TURNED.map (·.2)) (.inr s) = some (.str (tw s)) := by
  rcases h with rfl | rfl | rfl | rfl <;> simp (decide := true) [dget, tw, g_TURNED]
theorem joined_eq {j : D} {ps : List D} (hp : ps ≠ []) (hl : ps.length < 1000) : p_joined [j, .lst ps] = pure (if 1 < ps.length then .tup (j :: ps) else ps.headD .non) := by
  refine eq_of_T fun st => ?_
  rw [p_joined, t_run, p_joined_b, t_ret1]
  simp
  refine ⟨fun e => ⟨by omega, fun e2 => absurd e (by omega)⟩, fun e => ?_⟩
  match ps, hp with
  | a :: r, _ =>
    have : r = [] := List.length_eq_zero_iff.mp (by simp at e; omega)
    subst this
    simp
theorem joint_of_eq {c : D} (h : IsCond c) : ∃ s r, c = .tup (.str s :: r) ∧ p_joint_of [c] = pure (if jn (.str s) = true then .str s else .non) := by
  obtain ⟨s, r, rfl, hs, hp⟩ := cond_hd h
  refine ⟨s, r, rfl, eq_of_T fun st => ?_⟩
  rw [p_joint_of, t_run, p_joint_of_b, t_ret1]
  have := in_jn (dep_str hs (k := 64))
  simp [at_zero, g_JOINTS, this]
theorem parts_ne {c : D} (h : IsCond c) : partsD c ≠ [] := by
  rcases h with h | ⟨s, cs, hs, h0, h1, hc, rfl⟩
  · rw [partsD_cmp h]; simp
  · simp only [partsD]; rw [if_pos hs]; intro e; rw [e] at h0; simp at h0
theorem turned_condition_eq {c : D} (h : IsCond c) : p_turned_condition [c] = pure (tC c) := by
  refine eq_of_T fun st => ?_
  rw [p_turned_condition, t_run, p_turned_condition_b, t_asg]
  simp only [dKdict, t_pure]
  rw [t_asg]
  have hl := parts_len h
  simp [parts_of_eq h]
  refine ⟨by omega, ?_⟩
  simp only [wipeE]
  rw [lc_map (p := fun _ => true) (g := tCmp) fun d hd => by
    obtain ⟨s, a, b, hs, ha, hb, rfl⟩ := parts_cmp h d hd
    refine ⟨_, rfl, rfl, fun _ => ?_⟩
    have := dget_tw hs
    simp at this
    simp [this, turned_point_eq ha, turned_point_eq hb, tCmp]]
  rw [List.filter_eq_self.mpr (by simp)]
  simp only [t_pure]
  rw [t_ret1]
  obtain ⟨s, r, e1, e2⟩ := joint_of_eq h
  have hne := parts_ne h
  have hj := joined_eq (j := if jn (.str s) = true then .str s else .non) (ps := (partsD c).map tCmp) (by simpa using hne) (by simp; omega)
  simp [e2, hj]
  subst e1
  rcases h with h | ⟨s', cs, hs, h0, h1, hc, e⟩
  · rw [partsD_cmp h, tC_cmp h]; simp
  · injection e with e
    injection e with e1 e2
    injection e1 with e1
    subst e1 e2
    simp only [partsD, tC, if_pos hs]
    rw [if_pos (show 1 < r.length by omega), jn_s hs]
    simp
theorem upside_eq {a b : D} (ha : IsCond a) (hb : IsCond b) : p_upside_down [.tup [a, b]] = pure (.tup [tC b, tC a]) := by
  refine eq_of_T fun st => ?_
  rw [p_upside_down, t_run, p_upside_down_b, t_exp]
  simp [need_rule_eq ⟨a, b, ha, hb, rfl⟩]
  rw [t_ret1]
  simp [p_turned_rule, t_run, p_turned_rule_b, t_ret1, turned_condition_eq ha, turned_condition_eq hb]
end K01

namespace K01
open PySem L2 MP
open PySem.Spec PyProof.Rows
abbrev tblD : D := .dic (g_TURNED.map (·.1)) (g_TURNED.map (·.2))
theorem table_eq {ρ : MP.Env} : dDic [(dC (.str "below"), dC (.str "above")), (dC (.str "above"), dC (.str "below")), (dC (.str "not below"), dC (.str "not above")), (dC (.str "not above"), dC (.str "not below"))] ρ = pure tblD := by
  kernel_rfl
abbrev turnB : DenS := (dSeq (dAsg (dLc (iVal (dSl (dVar 3) (oSome (dC (.int 1))) (oNone))) [5] (.nm 5) (bTrue) (dIf (bVal (d2 (opEq false) (dVar 5) (dTup (dCons (dC (.str "pointer")) (dNil))))) (dVar 5) (dTup (dCons (d2 opIx (dVar 5) (dC (.int 0))) (dCons (d2 opSub (dC (.int 4)) (d2 opIx (dVar 5) (dC (.int 1)))) (dNil)))))) (gSet 4)) <|
  dExpr (dMeth "list" mAppend (dVar 2) (dCons (d2 opAdd (dTup (dCons (d2 opIx (dVar 1) (d2 opIx (dVar 3) (dC (.int 0)))) (dNil))) (dCall (on1 biTuple) (dCons (dVar 4) (dNil)))) (dNil))))
theorem turn_loop {c : D} {n : Nat} : ∀ (ps acc : List D) (o3 o4 : Option D) (st : Store), (∀ p ∈ ps, IsCmp p) → st[n]? = some (.lst acc) → acc.length + ps.length < 1000 →
    T (forL (fun d ρ => turnB (ρ.set 3 (some d))) ps [some c, some tblD, some (.ref n), o3, o4, none]) st (fun r s => (∃ o3 o4, r = .nx [some c, some tblD, some (.ref n), o3, o4, none]) ∧ s = st.set n (.lst (acc ++ ps.map tCmp)))
  | [], acc, o3, o4, st, _, h, _ => ⟨⟨o3, o4, rfl⟩, by
    have := (List.getElem?_eq_some_iff.mp h)
    obtain ⟨h1, h2⟩ := this
    rw [List.map_nil, List.append_nil, ← h2, List.set_getElem_self]⟩
  | p :: ps, acc, o3, o4, st, hp, h, hl => by
    unfold forL
    rw [t_bind]
    obtain ⟨s, a, b, hs, ha, hb, rfl⟩ := hp p List.mem_cons_self
    simp only [List.set]
    rw [t_asg]
    simp [cut1, wipeE]
    rw [lc_map (p := fun _ => true) (g := tP) fun d hd => ⟨_, rfl, rfl, fun _ => by
      have hd : IsPt d := by
        simp at hd
        rcases hd with rfl | rfl
        · exact ha
        · exact hb
      rcases hd with rfl | ⟨s, v, hs, h0, h1, rfl⟩
      · simp [eq_of (show Dep 64 (D.tup [D.str "pointer"]) by simp) (show Dep 64 (D.tup [D.str "pointer"]) by simp), tP, isS]
      · have hk : PyData.strOk s = true := by rcases hs with rfl | rfl | rfl <;> simp
        simp [eq_of (show Dep 64 (D.tup [D.str s, D.int v]) by simp [hk]) (show Dep 64 (D.tup [D.str "pointer"]) by simp), tP]⟩]
    simp only [t_pure, List.filter_eq_self.mpr (show ∀ x ∈ [a, b], true = true by simp), List.map_cons, List.map_nil, List.set]
    rw [t_exp1]
    have hd := dget_tw hs
    simp at hd
    simp at hl
    simp [h, hd]
    refine ⟨by omega, ?_⟩
    refine (turn_loop ps (acc ++ [tCmp (.tup [.str s, a, b])]) _ _ _ (fun p h => hp p (List.mem_cons_of_mem _ h)) (set_get h) (by simp; omega)).mono fun r s' hr => ?_
    obtain ⟨h1, h2⟩ := hr
    refine ⟨h1, ?_⟩
    rw [h2]
    simp [tCmp]
def Ext (st s : Store) : Prop := ∃ e, s = st ++ e
theorem turned_eq {c : D} (h : IsCond c) (st : Store) : T (l_turned [c]) st (fun d s => d = tC c ∧ Ext st s) := by
  rw [l_turned, t_run, l_turned_b, t_asg]
  simp only [table_eq, t_pure]
  rw [t_asg]; simp
  rw [t_for]; simp [l_parts_eq h]
  have hl := parts_len h
  refine (turn_loop (n := st.length) (partsD c) [] _ _ _ (parts_cmp h) (by simp) (by simp; omega)).mono fun r s hr => ?_
  obtain ⟨⟨o3, o4, rfl⟩, rfl⟩ := hr
  simp
  rw [t_ret1]
  obtain ⟨s, r, rfl, hs, hp⟩ := cond_hd h
  have := in_jn (dep_str hs (k := 64))
  have h2 : tC (.tup (.str s :: r)) = (if jn (.str s) = true then .tup (.str s :: r.map tCmp) else tCmp (.tup (.str s :: r))) := by
    rcases h with h | ⟨s', cs, hs', h0, h1, hc, e⟩
    · rw [tC_cmp h]
      obtain ⟨s', a, b, hs', ha, hb, e⟩ := h
      injection e with e
      injection e with e1 e2
      injection e1 with e1
      subst e1
      rw [wd_jn (isWd_B hs')]; simp
    · injection e with e
      injection e with e1 e2
      injection e1 with e1
      subst e1
      simp only [tC]
      rw [if_pos hs', if_pos (jn_s hs')]
  simp [at_zero, this]
  cases hj : jn (.str s) with
  | true =>
    rw [hj] at h2 hp
    simp at h2 hp
    simp [h2, hp]
    rw [hp] at hl
    exact ⟨by omega, _, rfl⟩
  | false =>
    rw [hj] at h2 hp
    simp at h2 hp
    simp [h2, hp]
    exact ⟨_, rfl⟩
theorem Src.ext {st s : Store} {n : Nat} (h : Src st n) (e : Ext st s) : Src s n := by
  obtain ⟨e, rfl⟩ := e
  obtain ⟨a, b, h1, h2⟩ := h
  exact ⟨a, b, by rw [List.getElem?_append_left (List.getElem?_eq_some_iff.mp h1).1]; exact h1, h2⟩
theorem Fr.ext {st s : Store} {n : Nat} (e : Ext st s) : Fr n st s := by
  obtain ⟨e, rfl⟩ := e
  exact ⟨by simp, fun i hi _ => List.getElem?_append_left hi⟩
/-! ### odd values, spoilt values -/
def leaf : D → Prop
  | .non => True
  | .bl _ => True
  | .int _ => True
  | .str s => PyData.strOk s = true
  | _ => False
def Pl (L : Nat) : Nat → D → Prop
  | 0, d => leaf d
  | k + 1, d => leaf d ∨ ∃ ds, (d = .tup ds ∨ d = .lst ds) ∧ ds.length ≤ L ∧ ∀ x ∈ ds, Pl L k x
theorem Pl.leaf {L : Nat} : ∀ {k : Nat} {d : D}, leaf d → Pl L k d
  | 0, _, h => h
  | _ + 1, _, h => .inl h
theorem Pl.mono {L M : Nat} (hL : L ≤ M) : ∀ {k : Nat} {d : D}, Pl L k d → Pl M (k + 1) d ∧ Pl M k d
  | 0, d, h => ⟨.inl h, h⟩
  | k + 1, d, h => by
    rcases h with h | ⟨ds, h1, h2, h3⟩
    · exact ⟨.inl h, .inl h⟩
    · exact ⟨.inr ⟨ds, h1, by omega, fun x hx => (Pl.mono hL (h3 x hx)).1⟩, .inr ⟨ds, h1, by omega, fun x hx => (Pl.mono hL (h3 x hx)).2⟩⟩
theorem Pl.up {L M k j : Nat} {d : D} (h : Pl L k d) (hL : L ≤ M) (hk : k ≤ j) : Pl M j d := by
  induction hk with
  | refl => exact (Pl.mono hL h).2
  | step _ ih => exact (Pl.mono (Nat.le_refl _) ih).1
theorem leaf_dep {d : D} (h : leaf d) : Dep 0 d := by
  cases d <;> first | exact dep_non | exact dep_bl | exact dep_int | exact dep_str h | cases h
theorem Pl.dep {L : Nat} : ∀ {k : Nat} {d : D}, Pl L k d → Dep k d
  | 0, _, h => leaf_dep h
  | k + 1, d, h => by
    rcases h with h | ⟨ds, rfl | rfl, h2, h3⟩
    · exact (leaf_dep h).mono (Nat.zero_le _)
    · exact dep_tup.mpr fun x hx => (h3 x hx).dep
    · exact dep_lst.mpr fun x hx => (h3 x hx).dep
theorem pl_tup {L k : Nat} {ds : List D} (h : ds.length ≤ L) (q : ∀ x ∈ ds, Pl L k x) : Pl L (k + 1) (.tup ds) := .inr ⟨ds, .inl rfl, h, q⟩
theorem pl_lst {L k : Nat} {ds : List D} (h : ds.length ≤ L) (q : ∀ x ∈ ds, Pl L k x) : Pl L (k + 1) (.lst ds) := .inr ⟨ds, .inr rfl, h, q⟩
theorem odd_spec {st : Store} {n : Nat} (h : Src st n) : T (l_odd [.ref n]) st (Dr n st (Pl 6 2)) := by
  rw [l_odd, t_run, l_odd_b, t_asg]
  simp
  rw [t_asg]; simp
  rw [t_ret1]; simp
  refine (of_spec h (by simp) (by simp)).mono fun d st1 hd => ⟨?_, hd.2⟩
  have hd := hd.1
  simp at hd
  have hp : Pl 6 1 (.tup [.str "pointer"]) := pl_tup (by simp) (by simp [Pl, leaf])
  rcases hd with rfl | rfl | rfl | rfl | rfl | rfl | rfl | rfl | rfl | rfl | rfl | rfl | rfl | rfl | rfl | rfl | rfl | rfl | rfl | rfl | rfl | rfl | rfl | rfl | rfl | rfl | rfl | rfl | rfl
  all_goals simp [Pl, leaf]
end K01

namespace K01
open PySem L2 MP
open PySem.Spec PyProof.Rows
theorem cut_take {α : Type} {ds : List α} {i : Int} (h0 : 0 ≤ i) (h1 : i ≤ ds.length) : cutL ds none (some i) = ds.take i.toNat := by
  unfold cutL HT.sIx
  simp only [if_neg (show ¬ i < 0 by omega), List.drop_zero, Nat.sub_zero]
  rw [Nat.min_eq_left (by omega)]
theorem cut_drop {α : Type} {ds : List α} {i : Int} (h0 : 0 ≤ i) (h1 : i ≤ ds.length) : cutL ds (some i) none = ds.drop i.toNat := by
  unfold cutL HT.sIx
  simp only [if_neg (show ¬ i < 0 by omega)]
  rw [Nat.min_eq_left (by omega), ← List.length_drop, List.take_length]
theorem spoilt_spec : ∀ (n k L : Nat) (d : D) (st : Store) (m : Nat), k < n → k ≤ 60 → 6 ≤ L → L ≤ 1000 → Src st m → Pl L k d → T (l_spoilt n [.ref m, d]) st (Dr m st (Pl (L + 1) (k + 3)))
  | 0, _, _, _, _, _, h, _, _, _, _, _ => absurd h (Nat.not_lt_zero _)
  | n + 1, k, L, d, st, m, hk, hk60, h6, hL, hs, hd => by
    have odd : ∀ st1, Src st1 m → Fr m st st1 → T (l_odd [.ref m]) st1 (Dr m st (Pl (L + 1) (k + 3))) := fun st1 h1 f1 =>
      (odd_spec h1).mono fun d st2 hd => ⟨hd.1.up (by omega) (by omega), hd.2.1, f1.trans hd.2.2⟩
    have ok := hd.dep.ok
    rw [l_spoilt, t_run, l_spoilt_b, t_ifs]
    simp only [dBOr, dBNot, bVal, d1, d2]
    simp [isi_tuple ok]
    cases ht : isTu d with
    | false =>
      simp [t_ret]
      exact odd st hs (Fr.refl _ _)
    | true =>
      obtain ⟨ds, rfl⟩ : ∃ ds, d = .tup ds := by cases d <;> first | exact ⟨_, rfl⟩ | cases ht
      obtain ⟨j, rfl, hlen, hit⟩ : ∃ j, k = j + 1 ∧ ds.length ≤ L ∧ ∀ x ∈ ds, Pl L j x := by
        cases k with
        | zero => cases hd
        | succ j =>
          rcases hd with hd | ⟨ds', e | e, h2, h3⟩
          · cases hd
          · cases e; exact ⟨j, rfl, h2, h3⟩
          · cases e
      have h64 : Dep 64 (.tup ds) := hd.dep.mono (by omega)
      simp [eq_of h64]
      cases hn : isNil (.tup ds) with
      | true =>
        simp [t_ret]
        exact odd st hs (Fr.refl _ _)
      | false =>
        have hpos : 0 < ds.length := by
          cases ds with
          | nil => cases hn
          | cons _ _ => simp
        simp
        refine (draw_spec hs (by decide) (by decide)).mono fun d st1 hd1 => ?_
        obtain ⟨⟨v0, rfl, _, _⟩, h1, f1⟩ := hd1
        simp
        refine ⟨fun e => ?_, fun e => ?_⟩
        · simp [t_ret]
          exact odd st1 h1 f1
        · rw [t_par]
          simp
          refine (draw_spec h1 (by omega) (by omega)).mono fun d st2 hd2 => ?_
          obtain ⟨⟨i, rfl, i0, i1⟩, h2, f2⟩ := hd2
          refine (draw_spec h2 (by decide) (by decide)).mono fun d st3 hd3 => ?_
          obtain ⟨⟨mode, rfl, _, _⟩, h3, f3⟩ := hd3
          have F3 := (f1.trans f2).trans f3
          have c1 := cut_take (ds := ds) i0 (by omega)
          have c2 := cut_drop (ds := ds) (i := i + 1) (by omega) (by omega)
          have c3 := cut_take (ds := ds) (i := i + 1) (by omega) (by omega)
          have c4 := cut_drop (ds := ds) i0 (by omega)
          have l1 : (ds.take i.toNat).length = i.toNat := by rw [List.length_take]; omega
          have l2 : (ds.drop (i + 1).toNat).length = ds.length - (i + 1).toNat := List.length_drop
          have l3 : (ds.take (i + 1).toNat).length = (i + 1).toNat := by rw [List.length_take]; omega
          have l4 : (ds.drop i.toNat).length = ds.length - i.toNat := List.length_drop
          have m1 : ∀ k x, x ∈ ds.take k → x ∈ ds := fun k x h => List.mem_of_mem_take h
          have m2 : ∀ k x, x ∈ ds.drop k → x ∈ ds := fun k x h => List.mem_of_mem_drop h
          have up : ∀ x ∈ ds, Pl (L + 1) (j + 3) x := fun x h => (hit x h).up (by omega) (by omega)
          rw [t_ifs]; simp
          refine ⟨fun e => ?_, fun e => ?_⟩
          · simp [t_ret, c1, c2, l1, l2]
            refine ⟨by omega, pl_tup (by simp; omega) fun x hx => ?_, h3, F3⟩
            rcases List.mem_append.mp hx with h | h
            · exact up x (m1 _ x h)
            · exact up x (m2 _ x h)
          rw [t_ifs]; simp
          refine ⟨fun e => ?_, fun e => ?_⟩
          · simp [t_ret, c3, c4]
            refine ⟨by omega, pl_tup (by simp; omega) fun x hx => ?_, h3, F3⟩
            rcases List.mem_append.mp hx with h | h
            · exact up x (m1 _ x h)
            · exact up x (m2 _ x h)
          rw [t_ifs]; simp
          refine ⟨fun e => ?_, fun e => ?_⟩
          · simp [t_ret, c1, c4]
            refine (odd_spec h3).mono fun o st4 hd4 => ?_
            obtain ⟨ho, h4, f4⟩ := hd4
            try simp
            refine ⟨by omega, by omega, pl_tup (by simp; omega) fun x hx => ?_, h4, F3.trans f4⟩
            rcases List.mem_append.mp hx with h | h
            · exact up x (m1 _ x h)
            · rcases List.mem_cons.mp h with rfl | h
              · exact ho.up (by omega) (by omega)
              · exact up x (m2 _ x h)
          rw [t_ifs]; simp
          refine ⟨fun e => ?_, fun e => ?_⟩
          · simp [t_ret]
            exact ⟨pl_lst (by omega) fun x hx => up x hx, h3, F3⟩
          · rw [t_ret1]
            obtain ⟨x, hx, hxm⟩ := at_mem i0 i1
            simp [c1, c2, hx]
            refine (spoilt_spec n j L x st3 m (by omega) (by omega) h6 hL h3 (hit x hxm)).mono fun o st4 hd4 => ?_
            obtain ⟨ho, h4, f4⟩ := hd4
            try simp
            refine ⟨by omega, by omega, pl_tup (by simp; omega) fun x hx => ?_, h4, F3.trans f4⟩
            rcases List.mem_append.mp hx with h | h
            · exact up x (m1 _ x h)
            · rcases List.mem_cons.mp h with rfl | h
              · exact ho
              · exact up x (m2 _ x h)
end K01

namespace K01
open PySem L2 MP
open PySem.Spec PyProof.Rows
theorem source_spec {ns : List Int} {k : Int} {st : Store} (h0 : 0 ≤ k) (h1 : k < 1000) : T (l_source [.scr ns, .int k]) st (fun d s => ∃ n, d = .ref n ∧ Src s n) := by
  rw [l_source, t_run, l_source_b, t_asg]
  simp
  have hl := lg h0 (by omega)
  have g1 : Nat.log2 7919 < 60 := lg2 (by decide) (by decide)
  have g2 : Nat.log2 104729 < 60 := lg2 (by decide) (by decide)
  have fin : ∀ cell : Int, 0 ≤ cell → T ((dSeq (dIfS (bVal (d2 opLt (dVar 2) (d2 opPow (dC (.int 10)) (dC (.int 18))))) (dRet (dOwn (dCons (dC (.int 0)) (dCons (d2 opAdd (dC (.int 1)) (d2 opMod (dCall (on1 biInt) (dCons (d2 opAdd (d2 opMul (dVar 2) (dC (.int 7919))) (d2 opMul (dC (.int 104729)) (dVar 1))) (dNil))) (dC (.int 2147483646)))) (dNil))))) (dSkip)) <|
  dRet (dOwn (dCons (dVar 2) (dCons (d2 opAdd (dC (.int 1)) (d2 opMod (dCall (on1 biInt) (dCons (d2 opAdd (dVar 2) (dVar 1)) (dNil))) (dC (.int 2147483646)))) (dNil))))) [some (.scr ns), some (.int k), some (.int cell)]) st (RetQ fun d s => ∃ n, d = .ref n ∧ Src s n) := fun cell hc => by
    rw [t_ifs]; simp
    refine ⟨fun e => ?_, fun e => ?_⟩
    · simp [t_ret]
      have := lg hc (by omega)
      refine ⟨by omega, by omega, 0, 1 + (cell * 7919 + 104729 * k) % 2147483646, by simp, by omega, ?_, ?_⟩
      · have := Int.emod_nonneg (cell * 7919 + 104729 * k) (show (2147483646 : Int) ≠ 0 by decide); omega
      · have := Int.emod_lt_of_pos (cell * 7919 + 104729 * k) (show (0 : Int) < 2147483646 by decide); omega
    · rw [t_ret1]; simp
      refine ⟨cell, 1 + (cell + k) % 2147483646, by simp, hc, ?_, ?_⟩
      · have := Int.emod_nonneg (cell + k) (show (2147483646 : Int) ≠ 0 by decide); omega
      · have := Int.emod_lt_of_pos (cell + k) (show (0 : Int) < 2147483646 by decide); omega
  rw [t_ifs]; simp
  refine ⟨fun e => ?_, fun e => ?_⟩
  · obtain ⟨c, hc, _⟩ := at_memI h0 e
    rw [t_asg]
    simp [hc]
    refine fin _ ?_
    split <;> omega
  · exact fin 0 (by omega)
theorem forL_ix {b : D → DenS} {I : Nat → MP.Env → Store → Prop} {N : Nat} : ∀ {ds : List D} {i : Nat} {ρ : MP.Env} {st : Store}, I i ρ st → (∀ i d ρ st, i < N → I i ρ st → T (b d ρ) st (fun r s => ∃ ρ', r = .nx ρ' ∧ I (i + 1) ρ' s)) → i + ds.length ≤ N → T (forL b ds ρ) st (fun r s => ∃ ρ', r = .nx ρ' ∧ I (i + ds.length) ρ' s)
  | [], i, ρ, st, h, _, _ => ⟨ρ, rfl, h⟩
  | d :: ds, i, ρ, st, h, k, hn => by
    unfold forL
    rw [t_bind]
    refine (k i d ρ st (by simp at hn; omega) h).mono fun r s hr => ?_
    obtain ⟨ρ', rfl, h'⟩ := hr
    have := forL_ix (ds := ds) h' k (by simp at hn; omega)
    rw [show i + 1 + ds.length = i + (d :: ds).length by simp; omega] at this
    exact this
theorem isPt_pl {p : D} (h : IsPt p) : Pl 6 1 p := by
  rcases h with rfl | ⟨s, v, hs, h0, h1, rfl⟩
  · simp [Pl, leaf]
  · rcases hs with rfl | rfl | rfl <;> simp [Pl, leaf]
theorem isCmp_pl {p : D} (h : IsCmp p) : Pl 6 2 p := by
  obtain ⟨s, a, b, hs, ha, hb, rfl⟩ := h
  refine pl_tup (by simp) ?_
  simp [isPt_pl ha, isPt_pl hb]
  exact Pl.leaf (isWd_ok hs)
theorem isCond_pl {p : D} (h : IsCond p) : Pl 6 3 p := by
  rcases h with h | ⟨s, cs, hs, h0, h1, hc, rfl⟩
  · exact (isCmp_pl h).up (by decide) (by decide)
  · refine pl_tup (by simp; omega) ?_
    simp
    refine ⟨Pl.leaf (by rcases hs with rfl | rfl <;> simp [leaf]), fun a ha => isCmp_pl (hc a ha)⟩
theorem isRule_pl {p : D} (h : IsRule p) : Pl 6 4 p := by
  obtain ⟨a, b, ha, hb, rfl⟩ := h
  refine pl_tup (by simp) ?_
  simp [isCond_pl ha, isCond_pl hb]
theorem isDrg_pl {p : D} (h : IsDrg p) : Pl 6 4 p := by
  obtain ⟨hs, held, grab, k1, k2, k3, k4, k5, k6, k7, rfl⟩ := h
  refine pl_tup (by simp) ?_
  simp
  refine ⟨pl_tup (by simpa using k2) ?_, Pl.leaf trivial, Pl.leaf trivial⟩
  simp
  exact fun a _ => Pl.leaf trivial
theorem q_refl {x : D} (h : Dep 64 x) : opEq true x x = pure (.bl false) := by
  rw [eq_of h h, deq_refl h.ok]
  rfl
abbrev turnStep : DenS := dSeq (dIfS (dBOr (bVal (d2 (opEq true) (dCall (arity 1 p_is_rule) (dCons (dVar 5) (dNil))) (dCall (arity 1 l_is_rule) (dCons (dVar 5) (dNil))))) (bVal (d2 (opEq true) (dCall (arity 1 p_is_condition) (dCons (dVar 5) (dNil))) (dCall (arity 1 l_is_condition) (dCons (dVar 5) (dNil)))))) (dRet (dC (.bl false))) (dSkip)) <|
  dSeq (dIfS (dBOr (bVal (d2 (opEq true) (dCall (arity 1 p_is_drag) (dCons (dVar 5) (dNil))) (dCall (arity 1 l_is_drag) (dCons (dVar 5) (dNil))))) (bVal (d2 (opEq true) (dCall (arity 1 p_is_pointer) (dCons (dVar 5) (dNil))) (dCall (arity 1 l_is_int) (dCons (dVar 5) (dNil)))))) (dRet (dC (.bl false))) (dSkip)) <|
  dSeq (dIfS (dBOr (dBNot (bVal (d1 (opIsi "bool") (dCall (arity 1 p_is_rule) (dCons (dVar 5) (dNil)))))) (dBNot (bVal (d1 (opIsi "bool") (dCall (arity 1 p_is_drag) (dCons (dVar 5) (dNil))))))) (dRet (dC (.bl false))) (dSkip)) <|
  dAsg (dCall (arity 2 (l_spoilt fuelR)) (dCons (dVar 2) (dCons (dVar 5) (dNil)))) (gSet 5)
def Jt (a b : D) (n : Nat) (x3 x4 o7 : Option D) (i : Nat) (ρ : MP.Env) (st : Store) : Prop := ∃ v o6, ρ = [some a, some b, some (.ref n), x3, x4, some v, o6, o7] ∧ Src st n ∧ Pl (6 + i) (4 + 3 * i) v
theorem turn_step {a b : D} {n : Nat} {x3 x4 o7 : Option D} (i : Nat) (d : D) (ρ : MP.Env) (st : Store) (hi : i < 5) (h : Jt a b n x3 x4 o7 i ρ st) : T (turnStep (ρ.set 6 (some d))) st (fun r s => ∃ ρ', r = .nx ρ' ∧ Jt a b n x3 x4 o7 (i + 1) ρ' s) := by
  obtain ⟨v, o6, rfl, hs, hv⟩ := h
  have hd : Dep 60 v := hv.dep.mono (by omega)
  have e1 : p_is_rule [v] = pure (.bl (isRuleB v)) := eq_of_T fun st => by
    rw [p_is_rule, t_run, p_is_rule_b, t_ret1]; simp [is_good_rule_eq hd]
  have e2 : p_is_condition [v] = pure (.bl (isCondB v)) := eq_of_T fun st => by
    rw [p_is_condition, t_run, p_is_condition_b, t_ret1]; simp [is_good_condition_eq hd]
  have e3 : p_is_drag [v] = pure (.bl (isDragB v)) := eq_of_T fun st => by
    rw [p_is_drag, t_run, p_is_drag_b, t_ret1]; simp [is_good_drag_eq hd]
  have e4 : p_is_pointer [v] = pure (.bl (isI v)) := eq_of_T fun st => by
    rw [p_is_pointer, t_run, p_is_pointer_b, t_ret1]; simp [is_number_eq hd.ok]
  simp only [List.set]
  rw [t_ifs]
  simp only [dBOr, dBNot, bVal, d1, d2]
  simp [e1, e2, l_is_rule_eq hd, l_is_condition_eq hd]
  rw [t_ifs]
  simp only [dBOr, dBNot, bVal, d1, d2]
  simp [e3, e4, l_is_drag_eq hd, l_is_int_eq hd.ok]
  rw [t_ifs]
  simp only [dBOr, dBNot, bVal, d1, d2]
  simp [e1, e3, isi_bool (show (D.bl (isRuleB v)).okD = true from rfl), isi_bool (show (D.bl (isDragB v)).okD = true from rfl), isB]
  rw [t_asg1]
  simp
  refine (spoilt_spec 70 (4 + 3 * i) (6 + i) v st n (by omega) (by omega) (by omega) (by omega) hs hv).mono fun o st4 hd4 => ?_
  obtain ⟨ho, h4, f4⟩ := hd4
  exact ⟨o, _, rfl, h4, ho.up (by omega) (by omega)⟩
theorem upside_rule {a b : D} (ha : IsCond a) (hb : IsCond b) : IsRule (.tup [tC b, tC a]) := ⟨_, _, (tC_cond hb).1, (tC_cond ha).1, rfl⟩
theorem iter_spec {ns : List Int} {k : Int} (h0 : 0 ≤ k) (h1 : k < 1000) (o2 o3 o4 o5 o6 o7 : Option D) (st : Store) : T ((dSeq (dAsg (dCall (arity 2 l_source) (dCons (dVar 0) (dCons (dVar 1) (dNil)))) (gSet 2)) <|
  dSeq (dPar [3, 4] (dCons (dCall (arity 1 l_rule) (dCons (dVar 2) (dNil))) (dCons (dCall (arity 2 l_drag) (dCons (dVar 2) (dCons (dC (.int 6)) (dNil)))) (dNil)))) <|
  dSeq (dIfS (bVal (d2 (opEq true) (dCall (arity 1 p_comparisons) (dCons (dVar 3) (dNil))) (d2 opAdd (dCall (arity 1 l_parts) (dCons (d2 opIx (dVar 3) (dC (.int 0))) (dNil))) (dCall (arity 1 l_parts) (dCons (d2 opIx (dVar 3) (dC (.int 1))) (dNil)))))) (dRet (dC (.bl false))) (dSkip)) <|
  dSeq (dIfS (dBOr (bVal (d2 (opEq true) (dCall (arity 1 p_upside_down) (dCons (dVar 3) (dNil))) (dTup (dCons (dCall (arity 1 l_turned) (dCons (d2 opIx (dVar 3) (dC (.int 1))) (dNil))) (dCons (dCall (arity 1 l_turned) (dCons (d2 opIx (dVar 3) (dC (.int 0))) (dNil))) (dNil)))))) (bVal (d2 (opEq true) (dCall (arity 1 p_upside_down) (dCons (dCall (arity 1 p_upside_down) (dCons (dVar 3) (dNil))) (dNil))) (dVar 3)))) (dRet (dC (.bl false))) (dSkip)) <|
  dFor (iVal (dLst (dCons (dVar 3) (dCons (d2 opIx (dVar 3) (dC (.int 0))) (dCons (dVar 4) (dCons (dCall (arity 2 l_pointer) (dCons (dVar 2) (dCons (dVar 4) (dNil)))) (dNil))))))) (gOf (.nm 5)) (dFor (iRange1 (dCons (dC (.int 5)) (dNil))) (gOf (.nm 6)) turnStep))
    [some (.scr ns), some (.int k), o2, o3, o4, o5, o6, o7]) st (fun r s => ∃ o1 o2 o3 o4 o5 o6 o7, r = .nx [some (.scr ns), o1, o2, o3, o4, o5, o6, o7]) := by
  rw [t_asg]
  simp
  refine (source_spec h0 h1).mono fun d st1 hd => ?_
  obtain ⟨n, rfl, s1⟩ := hd
  rw [t_par]
  simp
  refine (rule_spec s1).mono fun r st2 hd => ?_
  obtain ⟨hr, s2, f2⟩ := hd
  refine (drag_spec (by decide) (by decide) s2).mono fun g st3 hd => ?_
  obtain ⟨hg, s3, f3⟩ := hd
  have hr' := hr
  obtain ⟨a, b, ha, hb, rfl⟩ := hr
  have la := parts_len ha
  have lb := parts_len hb
  rw [t_ifs]
  have hcd : Dep 64 (.lst (partsD a ++ partsD b)) := by
    refine dep_lst.mpr fun x hx => ?_
    rcases List.mem_append.mp hx with h | h
    · exact (isCmp_dep (parts_cmp ha x h)).mono (by decide)
    · exact (isCmp_dep (parts_cmp hb x h)).mono (by decide)
  simp [comparisons_eq ha hb, l_parts_eq ha, l_parts_eq hb, q_refl hcd]
  refine ⟨by omega, ?_⟩
  rw [t_ifs]
  simp only [dBOr, bVal, d1, d2]
  have hrule2 := upside_rule ha hb
  simp [upside_eq ha hb]
  refine (turned_eq hb st3).mono fun d st4 hd => ?_
  obtain ⟨rfl, x4⟩ := hd
  refine (turned_eq ha st4).mono fun d st5 hd => ?_
  obtain ⟨rfl, x5⟩ := hd
  have s5 := (s3.ext x4).ext x5
  simp [q_refl ((isRule_dep hrule2).mono (by decide) : Dep 64 (.tup [tC b, tC a])), upside_eq (tC_cond hb).1 (tC_cond ha).1, (tC_cond hb).2, (tC_cond ha).2, q_refl ((isRule_dep hr').mono (by decide) : Dep 64 (.tup [a, b]))]
  rw [t_for1]
  simp
  refine (pointer_spec hg s5).mono fun q st6 hd => ?_
  obtain ⟨⟨v, rfl⟩, s6, f6⟩ := hd
  refine (forL_inv (I := fun ρ s => ∃ o5 o6, ρ = [some (.scr ns), some (.int k), some (.ref n), some (.tup [a, b]), some g, o5, o6, o7] ∧ Src s n) ⟨_, _, rfl, s6⟩ fun d hd ρ s hI => ?_).mono fun r s hr => ?_
  · obtain ⟨o5, o6, rfl, hs⟩ := hI
    have hp : Pl 6 4 d := by
      simp at hd
      rcases hd with rfl | rfl | rfl | rfl
      · exact isRule_pl hr'
      · exact (isCond_pl ha).up (by decide) (by decide)
      · exact isDrg_pl hg
      · exact Pl.leaf trivial
    simp only [List.set]
    rw [t_for1]
    simp
    refine (forL_ix (I := Jt (.scr ns) (.int k) n (some (.tup [a, b])) (some g) o7) (N := 5) (i := 0) ⟨d, o6, rfl, hs, hp⟩ (fun i d ρ st hi h => turn_step i d ρ st hi h) (by simp [rangeL])).mono fun r s' hr => ?_
    obtain ⟨ρ', rfl, v, o6, rfl, hs, _⟩ := hr
    first | exact ⟨_, rfl, ⟨_, _, rfl⟩, hs⟩ | exact ⟨_, ⟨_, _, rfl⟩, rfl, hs⟩ | exact ⟨_, ⟨_, _, rfl⟩, hs⟩
  · obtain ⟨ρ', rfl, o5, o6, rfl, _⟩ := hr
    exact ⟨_, _, _, _, _, _, _, rfl⟩
theorem holds (ns : List Int) (hn : ns.length ≤ 63) : ∃ st, p_law [.scr ns] [] = .ok (.bl true) st := by
  have key : T (p_law [.scr ns]) [] (fun d _ => d = .bl true) := by
    rw [p_law, t_run, p_law_b, t_for]
    simp
    have hm : ∀ x : Int, x = 1 + (if (10 : Int) < ns.length then 10 else (ns.length : Int)) → 0 ≤ x ∧ x ≤ 64 := fun x hx => by split at hx <;> omega
    generalize hx : (1 + if (10 : Int) < ns.length then 10 else (ns.length : Int)) = x
    obtain ⟨x0, x1⟩ := hm x hx.symm
    refine ⟨fun _ _ => ?_, by omega, by omega⟩
    refine (forL_inv (I := fun ρ s => ∃ o1 o2 o3 o4 o5 o6 o7, ρ = [some (.scr ns), o1, o2, o3, o4, o5, o6, o7]) ⟨_, _, _, _, _, _, _, rfl⟩ fun d hd ρ s hI => ?_).mono fun r s hr => ?_
    · obtain ⟨o1, o2, o3, o4, o5, o6, o7, rfl⟩ := hI
      obtain ⟨k, hk, rfl⟩ : ∃ k : Int, (0 ≤ k ∧ k < 1000) ∧ d = .int k := by
        unfold rangeL at hd
        obtain ⟨j, hj, rfl⟩ := List.mem_map.mp hd
        have := List.mem_range.mp hj
        exact ⟨_, by omega, rfl⟩
      refine (iter_spec (ns := ns) hk.1 hk.2 o2 o3 o4 o5 o6 o7 s).mono fun r s' hr => ?_
      obtain ⟨o1, o2, o3, o4, o5, o6, o7, rfl⟩ := hr
      exact ⟨_, rfl, _, _, _, _, _, _, _, rfl⟩
    · obtain ⟨ρ', rfl, o1, o2, o3, o4, o5, o6, o7, rfl⟩ := hr
      simp
      rw [t_asg]; simp
      rw [t_asg]; simp
      rw [t_ifs]
      generalize ho : D.tup [D.str (Str.ofString "below"), D.tup [D.str (Str.ofString "pointer")], D.tup [D.str (Str.ofString "next"), D.int 4]] = one
      have hone : Dep 10 one ∧ isCmpB one = true := by
        subst ho
        exact ⟨by simp, by simp (decide := true) [isCmpB, wd, isPtB, isS, th, isI, rng]⟩
      obtain ⟨hdep, hcmp⟩ := hone
      have hcond : isCondB one = true := by
        subst ho
        simp (decide := true) [isCondB, isCmpB, jn, wd, isPtB, isS, th, isI, rng]
      simp
      have hs : PyData.strOk "and" = true := so9
      have hs2 : PyData.strOk "or" = true := so10
      rw [lc_bools (g := isCondB) fun d hd => ⟨_, rfl, by
        have hdd : Dep 60 d := by
          simp at hd
          rcases hd with rfl | rfl | rfl | rfl | rfl | rfl
          all_goals first | exact hdep.mono (by decide) | (refine dep_tup.mpr ?_; simp [hdep.mono (show 10 ≤ 59 by decide), hdep.mono (show 10 ≤ 58 by decide)])
        have e2 : p_is_condition [d] = pure (.bl (isCondB d)) := eq_of_T fun st => by
          rw [p_is_condition, t_run, p_is_condition_b, t_ret1]; simp [is_good_condition_eq hdd]
        simp [wipeE, e2]⟩]
      have ja : jn (.str "and") = true := jn_s (.inl rfl)
      have c2 : isCondB (.tup [.str "and", one, one]) = true := by simp [isCondB, ja, hcmp]
      have c3 : isCondB (.tup [.str "and", one, one, one]) = true := by simp [isCondB, ja, hcmp]
      have c4 : isCondB (.tup [.str "and", one, one, one, one]) = false := rfl
      have c5 : isCondB (.tup [.str "or", one]) = false := rfl
      have wo : wd (.str "or") = false := by decide +kernel
      have c6 : isCondB (.tup [.str "and", .tup [.str "or", one, one], one]) = false := by simp [isCondB, isCmpB, ja, wo]
      simp [hcond, c2, c3, c4, c5, c6]
      rw [q_refl (by simp)]
      simp
      rw [t_ret1]
      have e3 : ∀ v : D, Dep 60 v → p_is_drag [v] = pure (.bl (isDragB v)) := fun v hd => eq_of_T fun st => by
        rw [p_is_drag, t_run, p_is_drag_b, t_ret1]; simp [is_good_drag_eq hd]
      have d1' : isDragB (.tup [.tup [.int 1000000, .int 1000000, .int 1000000, .int 1000000, .int 1000000, .int 1000000], .int 5, .int 1000000]) = true := by decide +kernel
      have d2' : isDragB (.tup [.tup [.int 1, .int 1, .int 1, .int 1, .int 1, .int 1, .int 1], .int 0, .int 0]) = false := by decide +kernel
      have d3' : isDragB (.tup [.tup [.int 1, .int 0], .int 0, .int 0]) = false := by decide +kernel
      simp only [dAnd, dNot, d1, d2]
      simp [List.replicate]
      rw [e3 _ (by simp)]
      simp [d1']
      rw [e3 _ (by simp)]
      simp [d2']
      rw [e3 _ (by simp)]
      simp [d3']
  obtain ⟨a, st, e, rfl⟩ := key.get
  exact ⟨st, e⟩
end K01

set_option maxHeartbeats 2000000
namespace K01
open PySem L2 MP
open PySem.Spec PyProof.Rows
abbrev pw : Program := PySem.Challenge.pw_dragswaps_k01_values_recognized
def top (i : Nat) : Stmt := pw.main.body.getD i (.Pass ⟨0, 0, 0, 0⟩)
section
variable {P : Program} {w : World} {K : Frag} {mg : Str → Option Value} {base : Heap} {k : Nat}
abbrev N_l_source : List Str := ["_law_script", "_law_k", "_law_cell"]
theorem nd_l_source : N_l_source.Nodup := by decide +kernel
theorem sc_l_source : FnScope N_l_source ["_law_script", "_law_k"] (defScope (top 29)) := ⟨rfl, rfl, rfl, nd_l_source, rfl, by decide +kernel, by decide +kernel⟩
theorem b_l_source {f : Addr} {cdv : Value} {A : Around} {outer : List PySem.Env} {s : Shared} {H : Hp} {E : XK} (hm_int : mg "int" = none) (hm_len : mg "len" = none) (hm_abs : mg "abs" = none)
    (c : Cok (CF P w K mg base N_l_source "_law_source" (defScope (top 29)) f cdv A outer s H E) E k) : PDSs (CF P w K mg base N_l_source "_law_source" (defScope (top 29)) f cdv A outer s H E) E (defBody (top 29)) l_source_b :=
  ds_cons (dp_set nd_l_source (by kernel_rfl) (.inl (by kernel_rfl)) (pd_int) rfl (.inl rfl)) <|
  ds_cons (dp_if (pb_cmp od_lt (pv_ (by kernel_rfl)) (pd_callB cd_len (gl_ (by kernel_rfl)) hm_len bb_len (pl_cons (pv_ (by kernel_rfl)) (pl_nil) rfl) (by decide) rfl rfl rfl) rfl) (ds_one (dp_set nd_l_source (by kernel_rfl) (.inl (by kernel_rfl)) (pd_callB cd_abs (gl_ (by kernel_rfl)) hm_abs bb_abs (pl_cons (pd_callTy cd_int (gl_ (by kernel_rfl)) hm_int bb_int (pl_cons (pd_ix (id_ix c.units1) (pv_ (by kernel_rfl)) (pv_ (by kernel_rfl)) (fun _ _ => rfl)) (pl_nil) rfl) (by decide) rfl rfl rfl) (pl_nil) rfl) (by decide) rfl rfl rfl) rfl (.inl rfl))) (ds_nil)) <|
  ds_cons (dp_if (pb_cmp od_lt (pv_ (by kernel_rfl)) (pd_bin od_pow (pd_int) (pd_int)) rfl) (ds_one (dp_ret (pd_own (pl_cons (pd_int) (pl_cons (pd_bin od_add (pd_int) (pd_bin od_mod (pd_callTy cd_int (gl_ (by kernel_rfl)) hm_int bb_int (pl_cons (pd_bin od_add (pd_bin od_mul (pv_ (by kernel_rfl)) (pd_int)) (pd_bin od_mul (pd_int) (pv_ (by kernel_rfl)))) (pl_nil) rfl) (by decide) rfl rfl rfl) (pd_int))) (pl_nil) rfl) rfl)))) (ds_nil)) <|
  ds_one (dp_ret (pd_own (pl_cons (pv_ (by kernel_rfl)) (pl_cons (pd_bin od_add (pd_int) (pd_bin od_mod (pd_callTy cd_int (gl_ (by kernel_rfl)) hm_int bb_int (pl_cons (pd_bin od_add (pv_ (by kernel_rfl)) (pv_ (by kernel_rfl))) (pl_nil) rfl) (by decide) rfl rfl rfl) (pd_int))) (pl_nil) rfl) rfl)))
theorem c_l_source (hm_int : mg "int" = none) (hm_len : mg "len" = none) (hm_abs : mg "abs" = none) (dn : Dn K mg "_law_source" "_law_source" (defArgs (top 29)) (defBody (top 29)) (defScope (top 29)) ["_law_script", "_law_k"]) : Cal P w K mg base (k + 1) "_law_source" 2 (runDef 3 l_source_b) :=
  dn.cal sc_l_source rfl fun f cdv A outer s H E c => b_l_source hm_int hm_len hm_abs c
abbrev N_l_draw : List Str := ["_law_source_here", "_law_many", "_law_found"]
theorem nd_l_draw : N_l_draw.Nodup := by decide +kernel
theorem sc_l_draw : FnScope N_l_draw ["_law_source_here", "_law_many"] (defScope (top 30)) := ⟨rfl, rfl, rfl, nd_l_draw, rfl, by decide +kernel, by decide +kernel⟩
theorem b_l_draw {f : Addr} {cdv : Value} {A : Around} {outer : List PySem.Env} {s : Shared} {H : Hp} {E : XK} (hm_int : mg "int" = none)
    (c : Cok (CF P w K mg base N_l_draw "_law_draw" (defScope (top 30)) f cdv A outer s H E) E k) : PDSs (CF P w K mg base N_l_draw "_law_draw" (defScope (top 30)) f cdv A outer s H E) E (defBody (top 30)) l_draw_b :=
  ds_cons (dp_if (pb_cmp od_gt (pd_ix (id_ix c.units1) (pv_ (by kernel_rfl)) (pd_int) (fun _ _ => rfl)) (pd_int) rfl) (ds_cons (dp_set nd_l_draw (by kernel_rfl) (.inl (by kernel_rfl)) (pd_bin od_mod (pd_callTy cd_int (gl_ (by kernel_rfl)) hm_int bb_int (pl_cons (pd_ix (id_ix c.units1) (pv_ (by kernel_rfl)) (pd_int) (fun _ _ => rfl)) (pl_nil) rfl) (by decide) rfl rfl rfl) (pv_ (by kernel_rfl))) rfl (.inl rfl)) <|
  ds_cons (dp_asg (pd_bin od_div (pd_ix (id_ix c.units1) (pv_ (by kernel_rfl)) (pd_int) (fun _ _ => rfl)) (pv_ (by kernel_rfl))) (dg_sub c.units1 (pv_ (by kernel_rfl)) (pd_int) (fun _ => rfl)) rfl rfl rfl) <|
  ds_one (dp_ret (pv_ (by kernel_rfl)))) (ds_nil)) <|
  ds_cons (dp_asg (pd_bin od_mod (pd_callTy cd_int (gl_ (by kernel_rfl)) hm_int bb_int (pl_cons (pd_bin od_mul (pd_ix (id_ix c.units1) (pv_ (by kernel_rfl)) (pd_int) (fun _ _ => rfl)) (pd_int)) (pl_nil) rfl) (by decide) rfl rfl rfl) (pd_int)) (dg_sub c.units1 (pv_ (by kernel_rfl)) (pd_int) (fun _ => rfl)) rfl rfl rfl) <|
  ds_one (dp_ret (pd_bin od_mod (pd_callTy cd_int (gl_ (by kernel_rfl)) hm_int bb_int (pl_cons (pd_bin od_div (pd_bin od_mod (pd_callTy cd_int (gl_ (by kernel_rfl)) hm_int bb_int (pl_cons (pd_bin od_mul (pd_ix (id_ix c.units1) (pv_ (by kernel_rfl)) (pd_int) (fun _ _ => rfl)) (pd_ix (id_ix c.units1) (pv_ (by kernel_rfl)) (pd_int) (fun _ _ => rfl))) (pl_nil) rfl) (by decide) rfl rfl rfl) (pd_int)) (pd_int)) (pl_nil) rfl) (by decide) rfl rfl rfl) (pv_ (by kernel_rfl))))
theorem c_l_draw (hm_int : mg "int" = none) (dn : Dn K mg "_law_draw" "_law_draw" (defArgs (top 30)) (defBody (top 30)) (defScope (top 30)) ["_law_source_here", "_law_many"]) : Cal P w K mg base (k + 1) "_law_draw" 2 (runDef 3 l_draw_b) :=
  dn.cal sc_l_draw rfl fun f cdv A outer s H E c => b_l_draw hm_int c
abbrev N_l_of : List Str := ["_law_source_here", "_law_items"]
theorem nd_l_of : N_l_of.Nodup := by decide +kernel
theorem sc_l_of : FnScope N_l_of ["_law_source_here", "_law_items"] (defScope (top 31)) := ⟨rfl, rfl, rfl, nd_l_of, rfl, by decide +kernel, by decide +kernel⟩
theorem b_l_of {f : Addr} {cdv : Value} {A : Around} {outer : List PySem.Env} {s : Shared} {H : Hp} {E : XK} (hm_len : mg "len" = none) (h_l_draw : Cal P w K mg base k "_law_draw" 2 l_draw)
    (c : Cok (CF P w K mg base N_l_of "_law_of" (defScope (top 31)) f cdv A outer s H E) E k) : PDSs (CF P w K mg base N_l_of "_law_of" (defScope (top 31)) f cdv A outer s H E) E (defBody (top 31)) l_of_b :=
  ds_one (dp_ret (pd_ix (id_ix c.units1) (pv_ (by kernel_rfl)) (pd_callU c h_l_draw (Nat.le_refl _) (gl_ (by kernel_rfl)) (pl_cons (pv_ (by kernel_rfl)) (pl_cons (pd_callB cd_len (gl_ (by kernel_rfl)) hm_len bb_len (pl_cons (pv_ (by kernel_rfl)) (pl_nil) rfl) (by decide) rfl rfl rfl) (pl_nil) rfl) rfl) rfl rfl rfl) (fun _ _ => rfl)))
theorem c_l_of (hm_len : mg "len" = none) (h_l_draw : Cal P w K mg base k "_law_draw" 2 l_draw) (dn : Dn K mg "_law_of" "_law_of" (defArgs (top 31)) (defBody (top 31)) (defScope (top 31)) ["_law_source_here", "_law_items"]) : Cal P w K mg base (k + 1) "_law_of" 2 (runDef 2 l_of_b) :=
  dn.cal sc_l_of rfl fun f cdv A outer s H E c => b_l_of hm_len h_l_draw c
abbrev N_l_known : List Str := ["_law_source_here", "_law_share", "_law_other", "_law_thing", "_law_back", "_law_goal", "_law_down", "_law_flat", "_law_up", "_law_mode", "_law_more"]
theorem nd_l_known : N_l_known.Nodup := by decide +kernel
theorem sc_l_known : FnScope N_l_known ["_law_source_here"] (defScope (top 35)) := ⟨rfl, rfl, rfl, nd_l_known, rfl, by decide +kernel, by decide +kernel⟩
theorem b_l_known {f : Addr} {cdv : Value} {A : Around} {outer : List PySem.Env} {s : Shared} {H : Hp} {E : XK} (h_l_draw : Cal P w K mg base k "_law_draw" 2 l_draw) (h_l_of : Cal P w K mg base k "_law_of" 2 l_of)
    (c : Cok (CF P w K mg base N_l_known "_law_known" (defScope (top 35)) f cdv A outer s H E) E k) : PDSs (CF P w K mg base N_l_known "_law_known" (defScope (top 35)) f cdv A outer s H E) E (defBody (top 35)) l_known_b :=
  ds_cons (dp_set nd_l_known (by kernel_rfl) (.inl (by kernel_rfl)) (pd_callU c h_l_of (Nat.le_refl _) (gl_ (by kernel_rfl)) (pl_cons (pv_ (by kernel_rfl)) (pl_cons (pd_lst (pl_cons (pd_int) (pl_cons (pd_int) (pl_cons (pd_int) (pl_cons (pd_int) (pl_cons (pd_int) (pl_cons (pd_int) (pl_nil) rfl) rfl) rfl) rfl) rfl) rfl)) (pl_nil) rfl) rfl) rfl rfl rfl) rfl (.inl rfl)) <|
  ds_cons (dp_set nd_l_known (by kernel_rfl) (.inl (by kernel_rfl)) (pd_callU c h_l_of (Nat.le_refl _) (gl_ (by kernel_rfl)) (pl_cons (pv_ (by kernel_rfl)) (pl_cons (pd_lst (pl_cons (pd_str) (pl_cons (pd_str) (pl_nil) rfl) rfl)) (pl_nil) rfl) rfl) rfl rfl rfl) rfl (.inl rfl)) <|
  ds_cons (dp_set nd_l_known (by kernel_rfl) (.inl (by kernel_rfl)) (pd_callU c h_l_of (Nat.le_refl _) (gl_ (by kernel_rfl)) (pl_cons (pv_ (by kernel_rfl)) (pl_cons (pd_lst (pl_cons (pd_tup (pl_cons (pd_str) (pl_nil) rfl)) (pl_cons (pd_tup (pl_cons (pd_str) (pl_cons (pd_callU c h_l_of (Nat.le_refl _) (gl_ (by kernel_rfl)) (pl_cons (pv_ (by kernel_rfl)) (pl_cons (pd_lst (pl_cons (pd_int) (pl_cons (pd_int) (pl_cons (pd_int) (pl_cons (pd_int) (pl_nil) rfl) rfl) rfl) rfl)) (pl_nil) rfl) rfl) rfl rfl rfl) (pl_nil) rfl) rfl)) (pl_nil) rfl) rfl)) (pl_nil) rfl) rfl) rfl rfl rfl) rfl (.inl rfl)) <|
  ds_cons (dp_set nd_l_known (by kernel_rfl) (.inl (by kernel_rfl)) (pd_if (pb_cmp (od_eq c.units) (pv_ (by kernel_rfl)) (pd_tup (pl_cons (pd_str) (pl_nil) rfl)) rfl) (pd_tup (pl_cons (pd_str) (pl_nil) rfl)) (pd_tup (pl_cons (pd_str) (pl_cons (pd_bin od_sub (pd_int) (pd_ix (id_ix c.units1) (pv_ (by kernel_rfl)) (pd_int) (fun _ _ => rfl))) (pl_nil) rfl) rfl))) rfl (.inl rfl)) <|
  ds_cons (dp_set nd_l_known (by kernel_rfl) (.inl (by kernel_rfl)) (pd_callU c h_l_of (Nat.le_refl _) (gl_ (by kernel_rfl)) (pl_cons (pv_ (by kernel_rfl)) (pl_cons (pd_lst (pl_cons (pd_tup (pl_cons (pd_str) (pl_cons (pv_ (by kernel_rfl)) (pl_nil) rfl) rfl)) (pl_cons (pd_tup (pl_cons (pd_str) (pl_cons (pv_ (by kernel_rfl)) (pl_nil) rfl) rfl)) (pl_cons (pd_tup (pl_cons (pd_str) (pl_cons (pd_int) (pl_nil) rfl) rfl)) (pl_nil) rfl) rfl) rfl)) (pl_nil) rfl) rfl) rfl rfl rfl) rfl (.inl rfl)) <|
  ds_cons (dp_set nd_l_known (by kernel_rfl) (.inl (by kernel_rfl)) (pd_tup (pl_cons (pv_ (by kernel_rfl)) (pl_cons (pv_ (by kernel_rfl)) (pl_cons (pv_ (by kernel_rfl)) (pl_nil) rfl) rfl) rfl)) rfl (.inl rfl)) <|
  ds_cons (dp_set nd_l_known (by kernel_rfl) (.inl (by kernel_rfl)) (pd_tup (pl_cons (pd_ix (id_ix c.units1) (pd_ix (id_ix c.units1) (pv_ (by kernel_rfl)) (pd_int) (fun _ _ => rfl)) (pd_int) (fun _ _ => rfl)) (pl_cons (pd_bin od_sub (pd_int) (pd_ix (id_ix c.units1) (pd_ix (id_ix c.units1) (pv_ (by kernel_rfl)) (pd_int) (fun _ _ => rfl)) (pd_int) (fun _ _ => rfl))) (pl_nil) rfl) rfl)) rfl (.inl rfl)) <|
  ds_cons (dp_set nd_l_known (by kernel_rfl) (.inl (by kernel_rfl)) (pd_tup (pl_cons (pd_callU c h_l_of (Nat.le_refl _) (gl_ (by kernel_rfl)) (pl_cons (pv_ (by kernel_rfl)) (pl_cons (pd_lst (pl_cons (pd_str) (pl_cons (pd_str) (pl_nil) rfl) rfl)) (pl_nil) rfl) rfl) rfl rfl rfl) (pl_cons (pv_ (by kernel_rfl)) (pl_cons (pv_ (by kernel_rfl)) (pl_nil) rfl) rfl) rfl)) rfl (.inl rfl)) <|
  ds_cons (dp_set nd_l_known (by kernel_rfl) (.inl (by kernel_rfl)) (pd_callU c h_l_draw (Nat.le_refl _) (gl_ (by kernel_rfl)) (pl_cons (pv_ (by kernel_rfl)) (pl_cons (pd_int) (pl_nil) rfl) rfl) rfl rfl rfl) rfl (.inl rfl)) <|
  ds_cons (dp_if (pb_cmp (od_eq c.units) (pv_ (by kernel_rfl)) (pd_int) rfl) (ds_cons (dp_set nd_l_known (by kernel_rfl) (.inl (by kernel_rfl)) (pd_tup (pl_cons (pd_callU c h_l_of (Nat.le_refl _) (gl_ (by kernel_rfl)) (pl_cons (pv_ (by kernel_rfl)) (pl_cons (pd_lst (pl_cons (pd_str) (pl_cons (pd_str) (pl_nil) rfl) rfl)) (pl_nil) rfl) rfl) rfl rfl rfl) (pl_cons (pd_tup (pl_cons (pd_str) (pl_nil) rfl)) (pl_cons (pd_tup (pl_cons (pd_str) (pl_cons (pd_bin od_mul (pd_int) (pd_callU c h_l_draw (Nat.le_refl _) (gl_ (by kernel_rfl)) (pl_cons (pv_ (by kernel_rfl)) (pl_cons (pd_int) (pl_nil) rfl) rfl) rfl rfl rfl)) (pl_nil) rfl) rfl)) (pl_nil) rfl) rfl) rfl)) rfl (.inl rfl)) <|
  ds_one (dp_set nd_l_known (by kernel_rfl) (.inl (by kernel_rfl)) (pd_tup (pl_cons (pd_str) (pl_cons (pv_ (by kernel_rfl)) (pl_cons (pv_ (by kernel_rfl)) (pl_nil) rfl) rfl) rfl)) rfl (.inl rfl))) (ds_nil)) <|
  ds_cons (dp_if (pb_cmp (od_eq c.units) (pv_ (by kernel_rfl)) (pd_int) rfl) (ds_one (dp_set nd_l_known (by kernel_rfl) (.inl (by kernel_rfl)) (pd_tup (pl_cons (pd_str) (pl_cons (pv_ (by kernel_rfl)) (pl_cons (pd_tup (pl_cons (pd_str) (pl_cons (pd_tup (pl_cons (pd_str) (pl_nil) rfl)) (pl_cons (pd_tup (pl_cons (pd_str) (pl_cons (pd_int) (pl_nil) rfl) rfl)) (pl_nil) rfl) rfl) rfl)) (pl_nil) rfl) rfl) rfl)) rfl (.inl rfl))) (ds_nil)) <|
  ds_one (dp_ret (pd_tup (pl_cons (pv_ (by kernel_rfl)) (pl_cons (pv_ (by kernel_rfl)) (pl_nil) rfl) rfl)))
theorem c_l_known (h_l_draw : Cal P w K mg base k "_law_draw" 2 l_draw) (h_l_of : Cal P w K mg base k "_law_of" 2 l_of) (dn : Dn K mg "_law_known" "_law_known" (defArgs (top 35)) (defBody (top 35)) (defScope (top 35)) ["_law_source_here"]) : Cal P w K mg base (k + 1) "_law_known" 1 (runDef 11 l_known_b) :=
  dn.cal sc_l_known rfl fun f cdv A outer s H E c => b_l_known h_l_draw h_l_of c
abbrev N_l_point : List Str := ["_law_source_here", "_law_thing"]
theorem nd_l_point : N_l_point.Nodup := by decide +kernel
theorem sc_l_point : FnScope N_l_point ["_law_source_here"] (defScope (top 32)) := ⟨rfl, rfl, rfl, nd_l_point, rfl, by decide +kernel, by decide +kernel⟩
theorem b_l_point {f : Addr} {cdv : Value} {A : Around} {outer : List PySem.Env} {s : Shared} {H : Hp} {E : XK} (h_l_of : Cal P w K mg base k "_law_of" 2 l_of) (h_l_draw : Cal P w K mg base k "_law_draw" 2 l_draw)
    (c : Cok (CF P w K mg base N_l_point "_law_point" (defScope (top 32)) f cdv A outer s H E) E k) : PDSs (CF P w K mg base N_l_point "_law_point" (defScope (top 32)) f cdv A outer s H E) E (defBody (top 32)) l_point_b :=
  ds_cons (dp_set nd_l_point (by kernel_rfl) (.inl (by kernel_rfl)) (pd_callU c h_l_of (Nat.le_refl _) (gl_ (by kernel_rfl)) (pl_cons (pv_ (by kernel_rfl)) (pl_cons (pd_lst (pl_cons (pd_str) (pl_cons (pd_str) (pl_cons (pd_str) (pl_cons (pd_str) (pl_cons (pd_str) (pl_cons (pd_str) (pl_nil) rfl) rfl) rfl) rfl) rfl) rfl)) (pl_nil) rfl) rfl) rfl rfl rfl) rfl (.inl rfl)) <|
  ds_cons (dp_if (pb_cmp (od_eq c.units) (pv_ (by kernel_rfl)) (pd_str) rfl) (ds_one (dp_ret (pd_tup (pl_cons (pd_str) (pl_nil) rfl)))) (ds_nil)) <|
  ds_one (dp_ret (pd_tup (pl_cons (pv_ (by kernel_rfl)) (pl_cons (pd_callU c h_l_of (Nat.le_refl _) (gl_ (by kernel_rfl)) (pl_cons (pv_ (by kernel_rfl)) (pl_cons (pd_lst (pl_cons (pd_int) (pl_cons (pd_int) (pl_cons (pd_int) (pl_cons (pd_callU c h_l_draw (Nat.le_refl _) (gl_ (by kernel_rfl)) (pl_cons (pv_ (by kernel_rfl)) (pl_cons (pd_int) (pl_nil) rfl) rfl) rfl rfl rfl) (pl_nil) rfl) rfl) rfl) rfl)) (pl_nil) rfl) rfl) rfl rfl rfl) (pl_nil) rfl) rfl)))
theorem c_l_point (h_l_of : Cal P w K mg base k "_law_of" 2 l_of) (h_l_draw : Cal P w K mg base k "_law_draw" 2 l_draw) (dn : Dn K mg "_law_point" "_law_point" (defArgs (top 32)) (defBody (top 32)) (defScope (top 32)) ["_law_source_here"]) : Cal P w K mg base (k + 1) "_law_point" 1 (runDef 2 l_point_b) :=
  dn.cal sc_l_point rfl fun f cdv A outer s H E c => b_l_point h_l_of h_l_draw c
abbrev N_l_comparison : List Str := ["_law_source_here", "_law_word"]
theorem nd_l_comparison : N_l_comparison.Nodup := by decide +kernel
theorem sc_l_comparison : FnScope N_l_comparison ["_law_source_here"] (defScope (top 33)) := ⟨rfl, rfl, rfl, nd_l_comparison, rfl, by decide +kernel, by decide +kernel⟩
theorem b_l_comparison {f : Addr} {cdv : Value} {A : Around} {outer : List PySem.Env} {s : Shared} {H : Hp} {E : XK} (h_l_point : Cal P w K mg base k "_law_point" 1 l_point) (h_l_of : Cal P w K mg base k "_law_of" 2 l_of)
    (c : Cok (CF P w K mg base N_l_comparison "_law_comparison" (defScope (top 33)) f cdv A outer s H E) E k) : PDSs (CF P w K mg base N_l_comparison "_law_comparison" (defScope (top 33)) f cdv A outer s H E) E (defBody (top 33)) l_comparison_b :=
  ds_cons (dp_set nd_l_comparison (by kernel_rfl) (.inl (by kernel_rfl)) (pd_callU c h_l_of (Nat.le_refl _) (gl_ (by kernel_rfl)) (pl_cons (pv_ (by kernel_rfl)) (pl_cons (pd_lst (pl_cons (pd_str) (pl_cons (pd_str) (pl_cons (pd_str) (pl_cons (pd_str) (pl_nil) rfl) rfl) rfl) rfl)) (pl_nil) rfl) rfl) rfl rfl rfl) rfl (.inl rfl)) <|
  ds_one (dp_ret (pd_tup (pl_cons (pv_ (by kernel_rfl)) (pl_cons (pd_callU c h_l_point (Nat.le_refl _) (gl_ (by kernel_rfl)) (pl_cons (pv_ (by kernel_rfl)) (pl_nil) rfl) rfl rfl rfl) (pl_cons (pd_callU c h_l_point (Nat.le_refl _) (gl_ (by kernel_rfl)) (pl_cons (pv_ (by kernel_rfl)) (pl_nil) rfl) rfl rfl rfl) (pl_nil) rfl) rfl) rfl)))
theorem c_l_comparison (h_l_point : Cal P w K mg base k "_law_point" 1 l_point) (h_l_of : Cal P w K mg base k "_law_of" 2 l_of) (dn : Dn K mg "_law_comparison" "_law_comparison" (defArgs (top 33)) (defBody (top 33)) (defScope (top 33)) ["_law_source_here"]) : Cal P w K mg base (k + 1) "_law_comparison" 1 (runDef 2 l_comparison_b) :=
  dn.cal sc_l_comparison rfl fun f cdv A outer s H E c => b_l_comparison h_l_point h_l_of c
abbrev N_l_condition : List Str := ["_law_source_here", "_law_many", "_law_parts_here", "_law_turn"]
theorem nd_l_condition : N_l_condition.Nodup := by decide +kernel
theorem sc_l_condition : FnScope N_l_condition ["_law_source_here"] (defScope (top 34)) := ⟨rfl, rfl, rfl, nd_l_condition, rfl, by decide +kernel, by decide +kernel⟩
theorem b_l_condition {f : Addr} {cdv : Value} {A : Around} {outer : List PySem.Env} {s : Shared} {H : Hp} {E : XK} (hm_tuple : mg "tuple" = none) (hm_range : mg "range" = none) (h_l_of : Cal P w K mg base k "_law_of" 2 l_of) (h_l_comparison : Cal P w K mg base k "_law_comparison" 1 l_comparison)
    (c : Cok (CF P w K mg base N_l_condition "_law_condition" (defScope (top 34)) f cdv A outer s H E) E k) : PDSs (CF P w K mg base N_l_condition "_law_condition" (defScope (top 34)) f cdv A outer s H E) E (defBody (top 34)) l_condition_b :=
  ds_cons (dp_set nd_l_condition (by kernel_rfl) (.inl (by kernel_rfl)) (pd_callU c h_l_of (Nat.le_refl _) (gl_ (by kernel_rfl)) (pl_cons (pv_ (by kernel_rfl)) (pl_cons (pd_lst (pl_cons (pd_int) (pl_cons (pd_int) (pl_cons (pd_int) (pl_cons (pd_int) (pl_cons (pd_int) (pl_nil) rfl) rfl) rfl) rfl) rfl)) (pl_nil) rfl) rfl) rfl rfl rfl) rfl (.inl rfl)) <|
  ds_cons (dp_set nd_l_condition (by kernel_rfl) (.inl (by kernel_rfl)) (pd_callTy cd_tuple (gl_ (by kernel_rfl)) hm_tuple bb_tuple (pl_cons (pd_lc (own := [(("_law_turn" : Str), 3)]) (t := .nm 3) rfl nd_l_condition (di_range1 (gl_ (by kernel_rfl)) hm_range (pl_cons (pv_ (by kernel_rfl)) (pl_nil) rfl) rfl) (blkOk_by (by kernel_rfl)) (fun _ _ _ _ _ => tg_name nd_l_condition (by kernel_rfl) (.inl (by kernel_rfl)) (.inr (by kernel_rfl))) (fun _ _ _ _ _ => pts_nilD) (fun _ _ _ _ _ => pd_callU c.blk h_l_comparison (Nat.le_refl _) (gl_ (by kernel_rfl)) (pl_cons (pv_ (by kernel_rfl)) (pl_nil) rfl) rfl rfl rfl) (fun _ => rfl) (by decide)) (pl_nil) rfl) (by decide) rfl rfl rfl) rfl (.inl rfl)) <|
  ds_one (dp_ret (pd_if (pb_cmp (od_eq c.units) (pv_ (by kernel_rfl)) (pd_int) rfl) (pd_ix (id_ix c.units1) (pv_ (by kernel_rfl)) (pd_int) (fun _ _ => rfl)) (pd_bin od_add (pd_tup (pl_cons (pd_callU c h_l_of (Nat.le_refl _) (gl_ (by kernel_rfl)) (pl_cons (pv_ (by kernel_rfl)) (pl_cons (pd_lst (pl_cons (pd_str) (pl_cons (pd_str) (pl_nil) rfl) rfl)) (pl_nil) rfl) rfl) rfl rfl rfl) (pl_nil) rfl)) (pv_ (by kernel_rfl)))))
theorem c_l_condition (hm_tuple : mg "tuple" = none) (hm_range : mg "range" = none) (h_l_of : Cal P w K mg base k "_law_of" 2 l_of) (h_l_comparison : Cal P w K mg base k "_law_comparison" 1 l_comparison) (dn : Dn K mg "_law_condition" "_law_condition" (defArgs (top 34)) (defBody (top 34)) (defScope (top 34)) ["_law_source_here"]) : Cal P w K mg base (k + 1) "_law_condition" 1 (runDef 4 l_condition_b) :=
  dn.cal sc_l_condition rfl fun f cdv A outer s H E c => b_l_condition hm_tuple hm_range h_l_of h_l_comparison c
abbrev N_l_rule : List Str := ["_law_source_here", "_law_mode", "_law_found"]
theorem nd_l_rule : N_l_rule.Nodup := by decide +kernel
theorem sc_l_rule : FnScope N_l_rule ["_law_source_here"] (defScope (top 36)) := ⟨rfl, rfl, rfl, nd_l_rule, rfl, by decide +kernel, by decide +kernel⟩
theorem b_l_rule {f : Addr} {cdv : Value} {A : Around} {outer : List PySem.Env} {s : Shared} {H : Hp} {E : XK} (h_l_condition : Cal P w K mg base k "_law_condition" 1 l_condition) (h_l_known : Cal P w K mg base k "_law_known" 1 l_known) (h_l_draw : Cal P w K mg base k "_law_draw" 2 l_draw)
    (c : Cok (CF P w K mg base N_l_rule "_law_rule" (defScope (top 36)) f cdv A outer s H E) E k) : PDSs (CF P w K mg base N_l_rule "_law_rule" (defScope (top 36)) f cdv A outer s H E) E (defBody (top 36)) l_rule_b :=
  ds_cons (dp_par2 rfl nd_l_rule (by kernel_rfl) (by kernel_rfl) (by decide) (by kernel_rfl) (by kernel_rfl) (pl_cons (pd_callU c h_l_draw (Nat.le_refl _) (gl_ (by kernel_rfl)) (pl_cons (pv_ (by kernel_rfl)) (pl_cons (pd_int) (pl_nil) rfl) rfl) rfl rfl rfl) (pl_cons (pd_callU c h_l_known (Nat.le_refl _) (gl_ (by kernel_rfl)) (pl_cons (pv_ (by kernel_rfl)) (pl_nil) rfl) rfl rfl rfl) (pl_nil) rfl) rfl) rfl rfl) <|
  ds_cons (dp_if (pb_cmp (od_eq c.units) (pv_ (by kernel_rfl)) (pd_int) rfl) (ds_one (dp_ret (pd_tup (pl_cons (pd_callU c h_l_condition (Nat.le_refl _) (gl_ (by kernel_rfl)) (pl_cons (pv_ (by kernel_rfl)) (pl_nil) rfl) rfl rfl rfl) (pl_cons (pd_callU c h_l_condition (Nat.le_refl _) (gl_ (by kernel_rfl)) (pl_cons (pv_ (by kernel_rfl)) (pl_nil) rfl) rfl rfl rfl) (pl_nil) rfl) rfl)))) (ds_nil)) <|
  ds_cons (dp_if (pb_cmp (od_eq c.units) (pv_ (by kernel_rfl)) (pd_int) rfl) (ds_one (dp_ret (pd_tup (pl_cons (pd_ix (id_ix c.units1) (pv_ (by kernel_rfl)) (pd_int) (fun _ _ => rfl)) (pl_cons (pd_callU c h_l_condition (Nat.le_refl _) (gl_ (by kernel_rfl)) (pl_cons (pv_ (by kernel_rfl)) (pl_nil) rfl) rfl rfl rfl) (pl_nil) rfl) rfl)))) (ds_nil)) <|
  ds_one (dp_ret (pd_if (pb_cmp (od_eq c.units) (pv_ (by kernel_rfl)) (pd_int) rfl) (pd_tup (pl_cons (pd_callU c h_l_condition (Nat.le_refl _) (gl_ (by kernel_rfl)) (pl_cons (pv_ (by kernel_rfl)) (pl_nil) rfl) rfl rfl rfl) (pl_cons (pd_ix (id_ix c.units1) (pv_ (by kernel_rfl)) (pd_int) (fun _ _ => rfl)) (pl_nil) rfl) rfl)) (pv_ (by kernel_rfl))))
theorem c_l_rule (h_l_condition : Cal P w K mg base k "_law_condition" 1 l_condition) (h_l_known : Cal P w K mg base k "_law_known" 1 l_known) (h_l_draw : Cal P w K mg base k "_law_draw" 2 l_draw) (dn : Dn K mg "_law_rule" "_law_rule" (defArgs (top 36)) (defBody (top 36)) (defScope (top 36)) ["_law_source_here"]) : Cal P w K mg base (k + 1) "_law_rule" 1 (runDef 3 l_rule_b) :=
  dn.cal sc_l_rule rfl fun f cdv A outer s H E c => b_l_rule h_l_condition h_l_known h_l_draw c
abbrev N_l_drag : List Str := ["_law_source_here", "_law_most", "_law_some", "_law_heights", "_law_held", "_law_grab", "_law_turn"]
theorem nd_l_drag : N_l_drag.Nodup := by decide +kernel
theorem sc_l_drag : FnScope N_l_drag ["_law_source_here", "_law_most"] (defScope (top 37)) := ⟨rfl, rfl, rfl, nd_l_drag, rfl, by decide +kernel, by decide +kernel⟩
theorem b_l_drag {f : Addr} {cdv : Value} {A : Around} {outer : List PySem.Env} {s : Shared} {H : Hp} {E : XK} (hm_len : mg "len" = none) (hm_tuple : mg "tuple" = none) (hm_range : mg "range" = none) (h_l_of : Cal P w K mg base k "_law_of" 2 l_of) (h_l_draw : Cal P w K mg base k "_law_draw" 2 l_draw)
    (c : Cok (CF P w K mg base N_l_drag "_law_drag" (defScope (top 37)) f cdv A outer s H E) E k) : PDSs (CF P w K mg base N_l_drag "_law_drag" (defScope (top 37)) f cdv A outer s H E) E (defBody (top 37)) l_drag_b :=
  ds_cons (dp_set nd_l_drag (by kernel_rfl) (.inr (by kernel_rfl)) (pd_lst (pl_cons (pd_int) (pl_cons (pd_int) (pl_cons (pd_int) (pl_cons (pd_int) (pl_cons (pd_int) (pl_cons (pd_bin od_add (pd_int) (pd_callU c h_l_draw (Nat.le_refl _) (gl_ (by kernel_rfl)) (pl_cons (pv_ (by kernel_rfl)) (pl_cons (pd_int) (pl_nil) rfl) rfl) rfl rfl rfl)) (pl_nil) rfl) rfl) rfl) rfl) rfl) rfl)) rfl (.inl rfl)) <|
  ds_cons (dp_set nd_l_drag (by kernel_rfl) (.inl (by kernel_rfl)) (pd_callTy cd_tuple (gl_ (by kernel_rfl)) hm_tuple bb_tuple (pl_cons (pd_lc (own := [(("_law_turn" : Str), 6)]) (t := .nm 6) rfl nd_l_drag (di_range1 (gl_ (by kernel_rfl)) hm_range (pl_cons (pd_bin od_add (pd_int) (pd_callU c h_l_draw (Nat.le_refl _) (gl_ (by kernel_rfl)) (pl_cons (pv_ (by kernel_rfl)) (pl_cons (pd_bin od_sub (pv_ (by kernel_rfl)) (pd_int)) (pl_nil) rfl) rfl) rfl rfl rfl)) (pl_nil) rfl) rfl) (blkOk_by (by kernel_rfl)) (fun _ _ _ _ _ => tg_name nd_l_drag (by kernel_rfl) (.inl (by kernel_rfl)) (.inr (by kernel_rfl))) (fun _ _ _ _ _ => pts_nilD) (fun _ _ _ _ _ => pd_callU c.blk h_l_of (Nat.le_refl _) (gl_ (by kernel_rfl)) (pl_cons (pv_ (by kernel_rfl)) (pl_cons (pv_ (by kernel_rfl)) (pl_nil) rfl) rfl) rfl rfl rfl) (fun _ => rfl) (by decide)) (pl_nil) rfl) (by decide) rfl rfl rfl) rfl (.inl rfl)) <|
  ds_cons (dp_set nd_l_drag (by kernel_rfl) (.inl (by kernel_rfl)) (pd_callU c h_l_draw (Nat.le_refl _) (gl_ (by kernel_rfl)) (pl_cons (pv_ (by kernel_rfl)) (pl_cons (pd_callB cd_len (gl_ (by kernel_rfl)) hm_len bb_len (pl_cons (pv_ (by kernel_rfl)) (pl_nil) rfl) (by decide) rfl rfl rfl) (pl_nil) rfl) rfl) rfl rfl rfl) rfl (.inl rfl)) <|
  ds_cons (dp_set nd_l_drag (by kernel_rfl) (.inl (by kernel_rfl)) (pd_callU c h_l_of (Nat.le_refl _) (gl_ (by kernel_rfl)) (pl_cons (pv_ (by kernel_rfl)) (pl_cons (pd_lst (pl_cons (pd_int) (pl_cons (pd_ix (id_ix c.units1) (pv_ (by kernel_rfl)) (pv_ (by kernel_rfl)) (fun _ _ => rfl)) (pl_cons (pd_callU c h_l_draw (Nat.le_refl _) (gl_ (by kernel_rfl)) (pl_cons (pv_ (by kernel_rfl)) (pl_cons (pd_bin od_add (pd_ix (id_ix c.units1) (pv_ (by kernel_rfl)) (pv_ (by kernel_rfl)) (fun _ _ => rfl)) (pd_int)) (pl_nil) rfl) rfl) rfl rfl rfl) (pl_nil) rfl) rfl) rfl)) (pl_nil) rfl) rfl) rfl rfl rfl) rfl (.inl rfl)) <|
  ds_one (dp_ret (pd_tup (pl_cons (pv_ (by kernel_rfl)) (pl_cons (pv_ (by kernel_rfl)) (pl_cons (pv_ (by kernel_rfl)) (pl_nil) rfl) rfl) rfl)))
theorem c_l_drag (hm_len : mg "len" = none) (hm_tuple : mg "tuple" = none) (hm_range : mg "range" = none) (h_l_of : Cal P w K mg base k "_law_of" 2 l_of) (h_l_draw : Cal P w K mg base k "_law_draw" 2 l_draw) (dn : Dn K mg "_law_drag" "_law_drag" (defArgs (top 37)) (defBody (top 37)) (defScope (top 37)) ["_law_source_here", "_law_most"]) : Cal P w K mg base (k + 1) "_law_drag" 2 (runDef 7 l_drag_b) :=
  dn.cal sc_l_drag rfl fun f cdv A outer s H E c => b_l_drag hm_len hm_tuple hm_range h_l_of h_l_draw c
abbrev N_p_is_among : List Str := ["words", "value"]
theorem nd_p_is_among : N_p_is_among.Nodup := by decide +kernel
theorem sc_p_is_among : FnScope N_p_is_among ["words", "value"] (defScope (top 8)) := ⟨rfl, rfl, rfl, nd_p_is_among, rfl, by decide +kernel, by decide +kernel⟩
theorem b_p_is_among {f : Addr} {cdv : Value} {A : Around} {outer : List PySem.Env} {s : Shared} {H : Hp} {E : XK} (hm_isinstance : mg "isinstance" = none) (hm_str : mg "str" = none)
    (c : Cok (CF P w K mg base N_p_is_among "is_among" (defScope (top 8)) f cdv A outer s H E) E k) : PDSs (CF P w K mg base N_p_is_among "is_among" (defScope (top 8)) f cdv A outer s H E) E (defBody (top 8)) p_is_among_b :=
  ds_one (dp_ret (pd_and (pd_isi (gl_ (by kernel_rfl)) hm_isinstance bb_isinstance (gl_ (by kernel_rfl)) hm_str bb_str (pv_ (by kernel_rfl)) (by decide) rfl (by decide) rfl (fun _ => rfl)) (pe_one (pd_cmp (od_in c.units5) (pv_ (by kernel_rfl)) (pv_ (by kernel_rfl)) rfl))))
theorem c_p_is_among (hm_isinstance : mg "isinstance" = none) (hm_str : mg "str" = none) (dn : Dn K mg "is_among" "is_among" (defArgs (top 8)) (defBody (top 8)) (defScope (top 8)) ["words", "value"]) : Cal P w K mg base (k + 1) "is_among" 2 (runDef 2 p_is_among_b) :=
  dn.cal sc_p_is_among rfl fun f cdv A outer s H E c => b_p_is_among hm_isinstance hm_str c
abbrev N_p_is_number : List Str := ["value"]
theorem nd_p_is_number : N_p_is_number.Nodup := by decide +kernel
theorem sc_p_is_number : FnScope N_p_is_number ["value"] (defScope (top 7)) := ⟨rfl, rfl, rfl, nd_p_is_number, rfl, by decide +kernel, by decide +kernel⟩
theorem b_p_is_number {f : Addr} {cdv : Value} {A : Around} {outer : List PySem.Env} {s : Shared} {H : Hp} {E : XK} (hm_isinstance : mg "isinstance" = none) (hm_bool : mg "bool" = none) (hm_int : mg "int" = none)
    (c : Cok (CF P w K mg base N_p_is_number "is_number" (defScope (top 7)) f cdv A outer s H E) E k) : PDSs (CF P w K mg base N_p_is_number "is_number" (defScope (top 7)) f cdv A outer s H E) E (defBody (top 7)) p_is_number_b :=
  ds_one (dp_ret (pd_and (pd_isi (gl_ (by kernel_rfl)) hm_isinstance bb_isinstance (gl_ (by kernel_rfl)) hm_int bb_int (pv_ (by kernel_rfl)) (by decide) rfl (by decide) rfl (fun _ => rfl)) (pe_one (pd_not (pd_isi (gl_ (by kernel_rfl)) hm_isinstance bb_isinstance (gl_ (by kernel_rfl)) hm_bool bb_bool (pv_ (by kernel_rfl)) (by decide) rfl (by decide) rfl (fun _ => rfl))))))
theorem c_p_is_number (hm_isinstance : mg "isinstance" = none) (hm_bool : mg "bool" = none) (hm_int : mg "int" = none) (dn : Dn K mg "is_number" "is_number" (defArgs (top 7)) (defBody (top 7)) (defScope (top 7)) ["value"]) : Cal P w K mg base (k + 1) "is_number" 1 (runDef 1 p_is_number_b) :=
  dn.cal sc_p_is_number rfl fun f cdv A outer s H E c => b_p_is_number hm_isinstance hm_bool hm_int c
abbrev N_p_is_point : List Str := ["value"]
theorem nd_p_is_point : N_p_is_point.Nodup := by decide +kernel
theorem sc_p_is_point : FnScope N_p_is_point ["value"] (defScope (top 9)) := ⟨rfl, rfl, rfl, nd_p_is_point, rfl, by decide +kernel, by decide +kernel⟩
theorem b_p_is_point {f : Addr} {cdv : Value} {A : Around} {outer : List PySem.Env} {s : Shared} {H : Hp} {E : XK} (hm_len : mg "len" = none) (hm_isinstance : mg "isinstance" = none) (hm_tuple : mg "tuple" = none) (gc_THINGS : GCon K mg "THINGS" g_THINGS) (h_p_is_number : Cal P w K mg base k "is_number" 1 p_is_number) (h_p_is_among : Cal P w K mg base k "is_among" 2 p_is_among)
    (c : Cok (CF P w K mg base N_p_is_point "is_point" (defScope (top 9)) f cdv A outer s H E) E k) : PDSs (CF P w K mg base N_p_is_point "is_point" (defScope (top 9)) f cdv A outer s H E) E (defBody (top 9)) p_is_point_b :=
  ds_cons (dp_if (PW.pt (pwb_or (pb_not (pb_val (pd_isi (gl_ (by kernel_rfl)) hm_isinstance bb_isinstance (gl_ (by kernel_rfl)) hm_tuple bb_tuple (pv_ (by kernel_rfl)) (by decide) rfl (by decide) rfl (fun _ => rfl)) (fun _ => rfl))) (pw_or1 (pb_cmp (od_eq c.units) (pv_ (by kernel_rfl)) (pd_tup (pl_nil)) rfl)))) (ds_one (dp_ret (pd_bl))) (ds_nil)) <|
  ds_cons (dp_if (pb_cmp (od_eq c.units) (pd_ix (id_ix c.units1) (pv_ (by kernel_rfl)) (pd_int) (fun _ _ => rfl)) (pd_str) rfl) (ds_one (dp_ret (pd_cmp (od_eq c.units) (pd_callB cd_len (gl_ (by kernel_rfl)) hm_len bb_len (pl_cons (pv_ (by kernel_rfl)) (pl_nil) rfl) (by decide) rfl rfl rfl) (pd_int) rfl))) (ds_nil)) <|
  ds_one (dp_ret (pd_and (pd_cmp (od_eq c.units) (pd_callB cd_len (gl_ (by kernel_rfl)) hm_len bb_len (pl_cons (pv_ (by kernel_rfl)) (pl_nil) rfl) (by decide) rfl rfl rfl) (pd_int) rfl) (pd_and (pd_callU c h_p_is_among (Nat.le_refl _) (gl_ (by kernel_rfl)) (pl_cons (pd_glob (gl_ (by kernel_rfl)) (gc_THINGS)) (pl_cons (pd_ix (id_ix c.units1) (pv_ (by kernel_rfl)) (pd_int) (fun _ _ => rfl)) (pl_nil) rfl) rfl) rfl rfl rfl) (pd_and (pd_callU c h_p_is_number (Nat.le_refl _) (gl_ (by kernel_rfl)) (pl_cons (pd_ix (id_ix c.units1) (pv_ (by kernel_rfl)) (pd_int) (fun _ _ => rfl)) (pl_nil) rfl) rfl rfl rfl) (pe_one (pd_chain od_le od_le (pd_int) (pd_ix (id_ix c.units1) (pv_ (by kernel_rfl)) (pd_int) (fun _ _ => rfl)) (pd_int) rfl))))))
theorem c_p_is_point (hm_len : mg "len" = none) (hm_isinstance : mg "isinstance" = none) (hm_tuple : mg "tuple" = none) (gc_THINGS : GCon K mg "THINGS" g_THINGS) (h_p_is_number : Cal P w K mg base k "is_number" 1 p_is_number) (h_p_is_among : Cal P w K mg base k "is_among" 2 p_is_among) (dn : Dn K mg "is_point" "is_point" (defArgs (top 9)) (defBody (top 9)) (defScope (top 9)) ["value"]) : Cal P w K mg base (k + 1) "is_point" 1 (runDef 1 p_is_point_b) :=
  dn.cal sc_p_is_point rfl fun f cdv A outer s H E c => b_p_is_point hm_len hm_isinstance hm_tuple gc_THINGS h_p_is_number h_p_is_among c
abbrev N_p_is_comparison : List Str := ["value"]
theorem nd_p_is_comparison : N_p_is_comparison.Nodup := by decide +kernel
theorem sc_p_is_comparison : FnScope N_p_is_comparison ["value"] (defScope (top 10)) := ⟨rfl, rfl, rfl, nd_p_is_comparison, rfl, by decide +kernel, by decide +kernel⟩
theorem b_p_is_comparison {f : Addr} {cdv : Value} {A : Around} {outer : List PySem.Env} {s : Shared} {H : Hp} {E : XK} (hm_list : mg "list" = none) (hm_len : mg "len" = none) (hm_isinstance : mg "isinstance" = none) (hm_tuple : mg "tuple" = none) (gc_TURNED : KDs P w K mg "TURNED" g_TURNED) (h_p_is_point : Cal P w K mg base k "is_point" 1 p_is_point) (h_p_is_among : Cal P w K mg base k "is_among" 2 p_is_among)
    (c : Cok (CF P w K mg base N_p_is_comparison "is_comparison" (defScope (top 10)) f cdv A outer s H E) E k) : PDSs (CF P w K mg base N_p_is_comparison "is_comparison" (defScope (top 10)) f cdv A outer s H E) E (defBody (top 10)) p_is_comparison_b :=
  ds_cons (dp_if (PW.pt (pwb_or (pb_not (pb_val (pd_isi (gl_ (by kernel_rfl)) hm_isinstance bb_isinstance (gl_ (by kernel_rfl)) hm_tuple bb_tuple (pv_ (by kernel_rfl)) (by decide) rfl (by decide) rfl (fun _ => rfl)) (fun _ => rfl))) (pwb_or (pb_cmp (od_ne c.units) (pd_callB cd_len (gl_ (by kernel_rfl)) hm_len bb_len (pl_cons (pv_ (by kernel_rfl)) (pl_nil) rfl) (by decide) rfl rfl rfl) (pd_int) rfl) (pw_or1 (pb_not (pb_val (pd_callU c h_p_is_among (Nat.le_refl _) (gl_ (by kernel_rfl)) (pl_cons (pd_Klist (gl_ (by kernel_rfl)) hm_list bb_list rfl (gl_ (by kernel_rfl)) gc_TURNED (by decide) rfl rfl) (pl_cons (pd_ix (id_ix c.units1) (pv_ (by kernel_rfl)) (pd_int) (fun _ _ => rfl)) (pl_nil) rfl) rfl) rfl rfl rfl) (fun _ => rfl))))))) (ds_one (dp_ret (pd_bl))) (ds_nil)) <|
  ds_one (dp_ret (pd_and (pd_callU c h_p_is_point (Nat.le_refl _) (gl_ (by kernel_rfl)) (pl_cons (pd_ix (id_ix c.units1) (pv_ (by kernel_rfl)) (pd_int) (fun _ _ => rfl)) (pl_nil) rfl) rfl rfl rfl) (pe_one (pd_callU c h_p_is_point (Nat.le_refl _) (gl_ (by kernel_rfl)) (pl_cons (pd_ix (id_ix c.units1) (pv_ (by kernel_rfl)) (pd_int) (fun _ _ => rfl)) (pl_nil) rfl) rfl rfl rfl))))
theorem c_p_is_comparison (hm_list : mg "list" = none) (hm_len : mg "len" = none) (hm_isinstance : mg "isinstance" = none) (hm_tuple : mg "tuple" = none) (gc_TURNED : KDs P w K mg "TURNED" g_TURNED) (h_p_is_point : Cal P w K mg base k "is_point" 1 p_is_point) (h_p_is_among : Cal P w K mg base k "is_among" 2 p_is_among) (dn : Dn K mg "is_comparison" "is_comparison" (defArgs (top 10)) (defBody (top 10)) (defScope (top 10)) ["value"]) : Cal P w K mg base (k + 1) "is_comparison" 1 (runDef 1 p_is_comparison_b) :=
  dn.cal sc_p_is_comparison rfl fun f cdv A outer s H E c => b_p_is_comparison hm_list hm_len hm_isinstance hm_tuple gc_TURNED h_p_is_point h_p_is_among c
abbrev N_p_is_good_condition : List Str := ["value", "part"]
theorem nd_p_is_good_condition : N_p_is_good_condition.Nodup := by decide +kernel
theorem sc_p_is_good_condition : FnScope N_p_is_good_condition ["value"] (defScope (top 11)) := ⟨rfl, rfl, rfl, nd_p_is_good_condition, rfl, by decide +kernel, by decide +kernel⟩
theorem b_p_is_good_condition {f : Addr} {cdv : Value} {A : Around} {outer : List PySem.Env} {s : Shared} {H : Hp} {E : XK} (hm_all : mg "all" = none) (hm_len : mg "len" = none) (hm_isinstance : mg "isinstance" = none) (hm_tuple : mg "tuple" = none) (gc_JOINTS : GCon K mg "JOINTS" g_JOINTS) (h_p_is_comparison : Cal P w K mg base k "is_comparison" 1 p_is_comparison) (h_p_is_among : Cal P w K mg base k "is_among" 2 p_is_among)
    (c : Cok (CF P w K mg base N_p_is_good_condition "is_good_condition" (defScope (top 11)) f cdv A outer s H E) E k) : PDSs (CF P w K mg base N_p_is_good_condition "is_good_condition" (defScope (top 11)) f cdv A outer s H E) E (defBody (top 11)) p_is_good_condition_b :=
  ds_cons (dp_if (PW.pt (pwb_or (pb_not (pb_val (pd_isi (gl_ (by kernel_rfl)) hm_isinstance bb_isinstance (gl_ (by kernel_rfl)) hm_tuple bb_tuple (pv_ (by kernel_rfl)) (by decide) rfl (by decide) rfl (fun _ => rfl)) (fun _ => rfl))) (pw_or1 (pb_cmp (od_notIn c.units5) (pd_callB cd_len (gl_ (by kernel_rfl)) hm_len bb_len (pl_cons (pv_ (by kernel_rfl)) (pl_nil) rfl) (by decide) rfl rfl rfl) (pd_tup (pl_cons (pd_int) (pl_cons (pd_int) (pl_nil) rfl) rfl)) rfl)))) (ds_one (dp_ret (pd_bl))) (ds_nil)) <|
  ds_cons (dp_if (pb_val (pd_callU c h_p_is_among (Nat.le_refl _) (gl_ (by kernel_rfl)) (pl_cons (pd_glob (gl_ (by kernel_rfl)) (gc_JOINTS)) (pl_cons (pd_ix (id_ix c.units1) (pv_ (by kernel_rfl)) (pd_int) (fun _ _ => rfl)) (pl_nil) rfl) rfl) rfl rfl rfl) (fun _ => rfl)) (ds_one (dp_ret (pd_callB (cd_all rfl) (gl_ (by kernel_rfl)) hm_all bb_all (pl_cons (pd_lc (own := [(("part" : Str), 1)]) (t := .nm 1) rfl nd_p_is_good_condition (di_val (pd_slice (pv_ (by kernel_rfl)) (pdo_some (pd_int)) (pdo_none))) (blkOk_by (by kernel_rfl)) (fun _ _ _ _ _ => tg_name nd_p_is_good_condition (by kernel_rfl) (.inl (by kernel_rfl)) (.inr (by kernel_rfl))) (fun _ _ _ _ _ => pts_nilD) (fun _ _ _ _ _ => pd_callU c.blk h_p_is_comparison (Nat.le_refl _) (gl_ (by kernel_rfl)) (pl_cons (pv_ (by kernel_rfl)) (pl_nil) rfl) rfl rfl rfl) (fun _ => rfl) (by decide)) (pl_nil) rfl) (by decide) rfl rfl rfl))) (ds_nil)) <|
  ds_one (dp_ret (pd_callU c h_p_is_comparison (Nat.le_refl _) (gl_ (by kernel_rfl)) (pl_cons (pv_ (by kernel_rfl)) (pl_nil) rfl) rfl rfl rfl))
theorem c_p_is_good_condition (hm_all : mg "all" = none) (hm_len : mg "len" = none) (hm_isinstance : mg "isinstance" = none) (hm_tuple : mg "tuple" = none) (gc_JOINTS : GCon K mg "JOINTS" g_JOINTS) (h_p_is_comparison : Cal P w K mg base k "is_comparison" 1 p_is_comparison) (h_p_is_among : Cal P w K mg base k "is_among" 2 p_is_among) (dn : Dn K mg "is_good_condition" "is_good_condition" (defArgs (top 11)) (defBody (top 11)) (defScope (top 11)) ["value"]) : Cal P w K mg base (k + 1) "is_good_condition" 1 (runDef 2 p_is_good_condition_b) :=
  dn.cal sc_p_is_good_condition rfl fun f cdv A outer s H E c => b_p_is_good_condition hm_all hm_len hm_isinstance hm_tuple gc_JOINTS h_p_is_comparison h_p_is_among c
abbrev N_p_is_good_rule : List Str := ["value", "part"]
theorem nd_p_is_good_rule : N_p_is_good_rule.Nodup := by decide +kernel
theorem sc_p_is_good_rule : FnScope N_p_is_good_rule ["value"] (defScope (top 12)) := ⟨rfl, rfl, rfl, nd_p_is_good_rule, rfl, by decide +kernel, by decide +kernel⟩
theorem b_p_is_good_rule {f : Addr} {cdv : Value} {A : Around} {outer : List PySem.Env} {s : Shared} {H : Hp} {E : XK} (hm_all : mg "all" = none) (hm_len : mg "len" = none) (hm_isinstance : mg "isinstance" = none) (hm_tuple : mg "tuple" = none) (h_p_is_good_condition : Cal P w K mg base k "is_good_condition" 1 p_is_good_condition)
    (c : Cok (CF P w K mg base N_p_is_good_rule "is_good_rule" (defScope (top 12)) f cdv A outer s H E) E k) : PDSs (CF P w K mg base N_p_is_good_rule "is_good_rule" (defScope (top 12)) f cdv A outer s H E) E (defBody (top 12)) p_is_good_rule_b :=
  ds_one (dp_ret (pd_and (pd_isi (gl_ (by kernel_rfl)) hm_isinstance bb_isinstance (gl_ (by kernel_rfl)) hm_tuple bb_tuple (pv_ (by kernel_rfl)) (by decide) rfl (by decide) rfl (fun _ => rfl)) (pd_and (pd_cmp (od_eq c.units) (pd_callB cd_len (gl_ (by kernel_rfl)) hm_len bb_len (pl_cons (pv_ (by kernel_rfl)) (pl_nil) rfl) (by decide) rfl rfl rfl) (pd_int) rfl) (pe_one (pd_callB (cd_all rfl) (gl_ (by kernel_rfl)) hm_all bb_all (pl_cons (pd_lc (own := [(("part" : Str), 1)]) (t := .nm 1) rfl nd_p_is_good_rule (di_val (pv_ (by kernel_rfl))) (blkOk_by (by kernel_rfl)) (fun _ _ _ _ _ => tg_name nd_p_is_good_rule (by kernel_rfl) (.inl (by kernel_rfl)) (.inr (by kernel_rfl))) (fun _ _ _ _ _ => pts_nilD) (fun _ _ _ _ _ => pd_callU c.blk h_p_is_good_condition (Nat.le_refl _) (gl_ (by kernel_rfl)) (pl_cons (pv_ (by kernel_rfl)) (pl_nil) rfl) rfl rfl rfl) (fun _ => rfl) (by decide)) (pl_nil) rfl) (by decide) rfl rfl rfl)))))
theorem c_p_is_good_rule (hm_all : mg "all" = none) (hm_len : mg "len" = none) (hm_isinstance : mg "isinstance" = none) (hm_tuple : mg "tuple" = none) (h_p_is_good_condition : Cal P w K mg base k "is_good_condition" 1 p_is_good_condition) (dn : Dn K mg "is_good_rule" "is_good_rule" (defArgs (top 12)) (defBody (top 12)) (defScope (top 12)) ["value"]) : Cal P w K mg base (k + 1) "is_good_rule" 1 (runDef 2 p_is_good_rule_b) :=
  dn.cal sc_p_is_good_rule rfl fun f cdv A outer s H E c => b_p_is_good_rule hm_all hm_len hm_isinstance hm_tuple h_p_is_good_condition c
abbrev N_p_need_rule : List Str := ["value"]
theorem nd_p_need_rule : N_p_need_rule.Nodup := by decide +kernel
theorem sc_p_need_rule : FnScope N_p_need_rule ["value"] (defScope (top 14)) := ⟨rfl, rfl, rfl, nd_p_need_rule, rfl, by decide +kernel, by decide +kernel⟩
theorem b_p_need_rule {f : Addr} {cdv : Value} {A : Around} {outer : List PySem.Env} {s : Shared} {H : Hp} {E : XK} (h_p_is_good_rule : Cal P w K mg base k "is_good_rule" 1 p_is_good_rule)
    (c : Cok (CF P w K mg base N_p_need_rule "need_rule" (defScope (top 14)) f cdv A outer s H E) E k) : PDSs (CF P w K mg base N_p_need_rule "need_rule" (defScope (top 14)) f cdv A outer s H E) E (defBody (top 14)) p_need_rule_b :=
  ds_one (dp_if (pb_not (pb_val (pd_callU c h_p_is_good_rule (Nat.le_refl _) (gl_ (by kernel_rfl)) (pl_cons (pv_ (by kernel_rfl)) (pl_nil) rfl) rfl rfl rfl) (fun _ => rfl))) (ds_one (ps_never)) (ds_nil))
theorem c_p_need_rule (h_p_is_good_rule : Cal P w K mg base k "is_good_rule" 1 p_is_good_rule) (dn : Dn K mg "need_rule" "need_rule" (defArgs (top 14)) (defBody (top 14)) (defScope (top 14)) ["value"]) : Cal P w K mg base (k + 1) "need_rule" 1 (runDef 1 p_need_rule_b) :=
  dn.cal sc_p_need_rule rfl fun f cdv A outer s H E c => b_p_need_rule h_p_is_good_rule c
abbrev N_p_parts_of : List Str := ["condition"]
theorem nd_p_parts_of : N_p_parts_of.Nodup := by decide +kernel
theorem sc_p_parts_of : FnScope N_p_parts_of ["condition"] (defScope (top 15)) := ⟨rfl, rfl, rfl, nd_p_parts_of, rfl, by decide +kernel, by decide +kernel⟩
theorem b_p_parts_of {f : Addr} {cdv : Value} {A : Around} {outer : List PySem.Env} {s : Shared} {H : Hp} {E : XK} (hm_list : mg "list" = none) (gc_JOINTS : GCon K mg "JOINTS" g_JOINTS)
    (c : Cok (CF P w K mg base N_p_parts_of "parts_of" (defScope (top 15)) f cdv A outer s H E) E k) : PDSs (CF P w K mg base N_p_parts_of "parts_of" (defScope (top 15)) f cdv A outer s H E) E (defBody (top 15)) p_parts_of_b :=
  ds_one (dp_ret (pd_if (pb_cmp (od_in c.units5) (pd_ix (id_ix c.units1) (pv_ (by kernel_rfl)) (pd_int) (fun _ _ => rfl)) (pd_glob (gl_ (by kernel_rfl)) (gc_JOINTS)) rfl) (pd_callTy cd_list (gl_ (by kernel_rfl)) hm_list bb_list (pl_cons (pd_slice (pv_ (by kernel_rfl)) (pdo_some (pd_int)) (pdo_none)) (pl_nil) rfl) (by decide) rfl rfl rfl) (pd_lst (pl_cons (pv_ (by kernel_rfl)) (pl_nil) rfl))))
theorem c_p_parts_of (hm_list : mg "list" = none) (gc_JOINTS : GCon K mg "JOINTS" g_JOINTS) (dn : Dn K mg "parts_of" "parts_of" (defArgs (top 15)) (defBody (top 15)) (defScope (top 15)) ["condition"]) : Cal P w K mg base (k + 1) "parts_of" 1 (runDef 1 p_parts_of_b) :=
  dn.cal sc_p_parts_of rfl fun f cdv A outer s H E c => b_p_parts_of hm_list gc_JOINTS c
abbrev N_p_all_comparisons : List Str := ["rule"]
theorem nd_p_all_comparisons : N_p_all_comparisons.Nodup := by decide +kernel
theorem sc_p_all_comparisons : FnScope N_p_all_comparisons ["rule"] (defScope (top 16)) := ⟨rfl, rfl, rfl, nd_p_all_comparisons, rfl, by decide +kernel, by decide +kernel⟩
theorem b_p_all_comparisons {f : Addr} {cdv : Value} {A : Around} {outer : List PySem.Env} {s : Shared} {H : Hp} {E : XK} (h_p_parts_of : Cal P w K mg base k "parts_of" 1 p_parts_of)
    (c : Cok (CF P w K mg base N_p_all_comparisons "all_comparisons" (defScope (top 16)) f cdv A outer s H E) E k) : PDSs (CF P w K mg base N_p_all_comparisons "all_comparisons" (defScope (top 16)) f cdv A outer s H E) E (defBody (top 16)) p_all_comparisons_b :=
  ds_one (dp_ret (pd_bin od_add (pd_callU c h_p_parts_of (Nat.le_refl _) (gl_ (by kernel_rfl)) (pl_cons (pd_ix (id_ix c.units1) (pv_ (by kernel_rfl)) (pd_int) (fun _ _ => rfl)) (pl_nil) rfl) rfl rfl rfl) (pd_callU c h_p_parts_of (Nat.le_refl _) (gl_ (by kernel_rfl)) (pl_cons (pd_ix (id_ix c.units1) (pv_ (by kernel_rfl)) (pd_int) (fun _ _ => rfl)) (pl_nil) rfl) rfl rfl rfl)))
theorem c_p_all_comparisons (h_p_parts_of : Cal P w K mg base k "parts_of" 1 p_parts_of) (dn : Dn K mg "all_comparisons" "all_comparisons" (defArgs (top 16)) (defBody (top 16)) (defScope (top 16)) ["rule"]) : Cal P w K mg base (k + 1) "all_comparisons" 1 (runDef 1 p_all_comparisons_b) :=
  dn.cal sc_p_all_comparisons rfl fun f cdv A outer s H E c => b_p_all_comparisons h_p_parts_of c
abbrev N_p_comparisons : List Str := ["rule"]
theorem nd_p_comparisons : N_p_comparisons.Nodup := by decide +kernel
theorem sc_p_comparisons : FnScope N_p_comparisons ["rule"] (defScope (top 26)) := ⟨rfl, rfl, rfl, nd_p_comparisons, rfl, by decide +kernel, by decide +kernel⟩
theorem b_p_comparisons {f : Addr} {cdv : Value} {A : Around} {outer : List PySem.Env} {s : Shared} {H : Hp} {E : XK} (h_p_all_comparisons : Cal P w K mg base k "all_comparisons" 1 p_all_comparisons) (h_p_need_rule : Cal P w K mg base k "need_rule" 1 p_need_rule)
    (c : Cok (CF P w K mg base N_p_comparisons "comparisons" (defScope (top 26)) f cdv A outer s H E) E k) : PDSs (CF P w K mg base N_p_comparisons "comparisons" (defScope (top 26)) f cdv A outer s H E) E (defBody (top 26)) p_comparisons_b :=
  ds_cons (dp_expr (pd_callU c h_p_need_rule (Nat.le_refl _) (gl_ (by kernel_rfl)) (pl_cons (pv_ (by kernel_rfl)) (pl_nil) rfl) rfl rfl rfl) rfl) <|
  ds_one (dp_ret (pd_callU c h_p_all_comparisons (Nat.le_refl _) (gl_ (by kernel_rfl)) (pl_cons (pv_ (by kernel_rfl)) (pl_nil) rfl) rfl rfl rfl))
theorem c_p_comparisons (h_p_all_comparisons : Cal P w K mg base k "all_comparisons" 1 p_all_comparisons) (h_p_need_rule : Cal P w K mg base k "need_rule" 1 p_need_rule) (dn : Dn K mg "comparisons" "comparisons" (defArgs (top 26)) (defBody (top 26)) (defScope (top 26)) ["rule"]) : Cal P w K mg base (k + 1) "comparisons" 1 (runDef 1 p_comparisons_b) :=
  dn.cal sc_p_comparisons rfl fun f cdv A outer s H E c => b_p_comparisons h_p_all_comparisons h_p_need_rule c
abbrev N_l_parts : List Str := ["_law_condition_here"]
theorem nd_l_parts : N_l_parts.Nodup := by decide +kernel
theorem sc_l_parts : FnScope N_l_parts ["_law_condition_here"] (defScope (top 39)) := ⟨rfl, rfl, rfl, nd_l_parts, rfl, by decide +kernel, by decide +kernel⟩
theorem b_l_parts {f : Addr} {cdv : Value} {A : Around} {outer : List PySem.Env} {s : Shared} {H : Hp} {E : XK} (hm_list : mg "list" = none)
    (c : Cok (CF P w K mg base N_l_parts "_law_parts" (defScope (top 39)) f cdv A outer s H E) E k) : PDSs (CF P w K mg base N_l_parts "_law_parts" (defScope (top 39)) f cdv A outer s H E) E (defBody (top 39)) l_parts_b :=
  ds_one (dp_ret (pd_if (pb_cmp (od_in c.units5) (pd_ix (id_ix c.units1) (pv_ (by kernel_rfl)) (pd_int) (fun _ _ => rfl)) (pd_tup (pl_cons (pd_str) (pl_cons (pd_str) (pl_nil) rfl) rfl)) rfl) (pd_callTy cd_list (gl_ (by kernel_rfl)) hm_list bb_list (pl_cons (pd_slice (pv_ (by kernel_rfl)) (pdo_some (pd_int)) (pdo_none)) (pl_nil) rfl) (by decide) rfl rfl rfl) (pd_lst (pl_cons (pv_ (by kernel_rfl)) (pl_nil) rfl))))
theorem c_l_parts (hm_list : mg "list" = none) (dn : Dn K mg "_law_parts" "_law_parts" (defArgs (top 39)) (defBody (top 39)) (defScope (top 39)) ["_law_condition_here"]) : Cal P w K mg base (k + 1) "_law_parts" 1 (runDef 1 l_parts_b) :=
  dn.cal sc_l_parts rfl fun f cdv A outer s H E c => b_l_parts hm_list c
abbrev N_p_turned_point : List Str := ["point"]
theorem nd_p_turned_point : N_p_turned_point.Nodup := by decide +kernel
theorem sc_p_turned_point : FnScope N_p_turned_point ["point"] (defScope (top 19)) := ⟨rfl, rfl, rfl, nd_p_turned_point, rfl, by decide +kernel, by decide +kernel⟩
theorem b_p_turned_point {f : Addr} {cdv : Value} {A : Around} {outer : List PySem.Env} {s : Shared} {H : Hp} {E : XK} (hm_len : mg "len" = none)
    (c : Cok (CF P w K mg base N_p_turned_point "turned_point" (defScope (top 19)) f cdv A outer s H E) E k) : PDSs (CF P w K mg base N_p_turned_point "turned_point" (defScope (top 19)) f cdv A outer s H E) E (defBody (top 19)) p_turned_point_b :=
  ds_one (dp_ret (pd_if (pb_cmp (od_eq c.units) (pd_callB cd_len (gl_ (by kernel_rfl)) hm_len bb_len (pl_cons (pv_ (by kernel_rfl)) (pl_nil) rfl) (by decide) rfl rfl rfl) (pd_int) rfl) (pv_ (by kernel_rfl)) (pd_tup (pl_cons (pd_ix (id_ix c.units1) (pv_ (by kernel_rfl)) (pd_int) (fun _ _ => rfl)) (pl_cons (pd_bin od_sub (pd_int) (pd_ix (id_ix c.units1) (pv_ (by kernel_rfl)) (pd_int) (fun _ _ => rfl))) (pl_nil) rfl) rfl))))
theorem c_p_turned_point (hm_len : mg "len" = none) (dn : Dn K mg "turned_point" "turned_point" (defArgs (top 19)) (defBody (top 19)) (defScope (top 19)) ["point"]) : Cal P w K mg base (k + 1) "turned_point" 1 (runDef 1 p_turned_point_b) :=
  dn.cal sc_p_turned_point rfl fun f cdv A outer s H E c => b_p_turned_point hm_len c
abbrev N_p_joined : List Str := ["joint", "parts"]
theorem nd_p_joined : N_p_joined.Nodup := by decide +kernel
theorem sc_p_joined : FnScope N_p_joined ["joint", "parts"] (defScope (top 17)) := ⟨rfl, rfl, rfl, nd_p_joined, rfl, by decide +kernel, by decide +kernel⟩
theorem b_p_joined {f : Addr} {cdv : Value} {A : Around} {outer : List PySem.Env} {s : Shared} {H : Hp} {E : XK} (hm_len : mg "len" = none) (hm_tuple : mg "tuple" = none)
    (c : Cok (CF P w K mg base N_p_joined "joined" (defScope (top 17)) f cdv A outer s H E) E k) : PDSs (CF P w K mg base N_p_joined "joined" (defScope (top 17)) f cdv A outer s H E) E (defBody (top 17)) p_joined_b :=
  ds_one (dp_ret (pd_if (pb_cmp od_gt (pd_callB cd_len (gl_ (by kernel_rfl)) hm_len bb_len (pl_cons (pv_ (by kernel_rfl)) (pl_nil) rfl) (by decide) rfl rfl rfl) (pd_int) rfl) (pd_bin od_add (pd_tup (pl_cons (pv_ (by kernel_rfl)) (pl_nil) rfl)) (pd_callTy cd_tuple (gl_ (by kernel_rfl)) hm_tuple bb_tuple (pl_cons (pv_ (by kernel_rfl)) (pl_nil) rfl) (by decide) rfl rfl rfl)) (pd_ix (id_ix c.units1) (pv_ (by kernel_rfl)) (pd_int) (fun _ _ => rfl))))
theorem c_p_joined (hm_len : mg "len" = none) (hm_tuple : mg "tuple" = none) (dn : Dn K mg "joined" "joined" (defArgs (top 17)) (defBody (top 17)) (defScope (top 17)) ["joint", "parts"]) : Cal P w K mg base (k + 1) "joined" 2 (runDef 2 p_joined_b) :=
  dn.cal sc_p_joined rfl fun f cdv A outer s H E c => b_p_joined hm_len hm_tuple c
abbrev N_p_joint_of : List Str := ["condition"]
theorem nd_p_joint_of : N_p_joint_of.Nodup := by decide +kernel
theorem sc_p_joint_of : FnScope N_p_joint_of ["condition"] (defScope (top 18)) := ⟨rfl, rfl, rfl, nd_p_joint_of, rfl, by decide +kernel, by decide +kernel⟩
theorem b_p_joint_of {f : Addr} {cdv : Value} {A : Around} {outer : List PySem.Env} {s : Shared} {H : Hp} {E : XK} (gc_JOINTS : GCon K mg "JOINTS" g_JOINTS)
    (c : Cok (CF P w K mg base N_p_joint_of "joint_of" (defScope (top 18)) f cdv A outer s H E) E k) : PDSs (CF P w K mg base N_p_joint_of "joint_of" (defScope (top 18)) f cdv A outer s H E) E (defBody (top 18)) p_joint_of_b :=
  ds_one (dp_ret (pd_if (pb_cmp (od_in c.units5) (pd_ix (id_ix c.units1) (pv_ (by kernel_rfl)) (pd_int) (fun _ _ => rfl)) (pd_glob (gl_ (by kernel_rfl)) (gc_JOINTS)) rfl) (pd_ix (id_ix c.units1) (pv_ (by kernel_rfl)) (pd_int) (fun _ _ => rfl)) (pd_non)))
theorem c_p_joint_of (gc_JOINTS : GCon K mg "JOINTS" g_JOINTS) (dn : Dn K mg "joint_of" "joint_of" (defArgs (top 18)) (defBody (top 18)) (defScope (top 18)) ["condition"]) : Cal P w K mg base (k + 1) "joint_of" 1 (runDef 1 p_joint_of_b) :=
  dn.cal sc_p_joint_of rfl fun f cdv A outer s H E c => b_p_joint_of gc_JOINTS c
abbrev N_p_turned_condition : List Str := ["condition", "table", "parts", "word", "one", "other"]
theorem nd_p_turned_condition : N_p_turned_condition.Nodup := by decide +kernel
theorem sc_p_turned_condition : FnScope N_p_turned_condition ["condition"] (defScope (top 20)) := ⟨rfl, rfl, rfl, nd_p_turned_condition, rfl, by decide +kernel, by decide +kernel⟩
theorem b_p_turned_condition {f : Addr} {cdv : Value} {A : Around} {outer : List PySem.Env} {s : Shared} {H : Hp} {E : XK} (hm_dict : mg "dict" = none) (gc_TURNED : KDs P w K mg "TURNED" g_TURNED) (h_p_joined : Cal P w K mg base k "joined" 2 p_joined) (h_p_joint_of : Cal P w K mg base k "joint_of" 1 p_joint_of) (h_p_parts_of : Cal P w K mg base k "parts_of" 1 p_parts_of) (h_p_turned_point : Cal P w K mg base k "turned_point" 1 p_turned_point)
    (c : Cok (CF P w K mg base N_p_turned_condition "turned_condition" (defScope (top 20)) f cdv A outer s H E) E k) : PDSs (CF P w K mg base N_p_turned_condition "turned_condition" (defScope (top 20)) f cdv A outer s H E) E (defBody (top 20)) p_turned_condition_b :=
  ds_cons (dp_set nd_p_turned_condition (by kernel_rfl) (.inr (by kernel_rfl)) (pd_Kdict (gl_ (by kernel_rfl)) hm_dict bb_dict (gl_ (by kernel_rfl)) gc_TURNED (by decide) rfl rfl) rfl (.inl rfl)) <|
  ds_cons (dp_setLc (own := [(("word" : Str), 3), (("one" : Str), 4), (("other" : Str), 5)]) (t := .tup [.nm 3, .nm 4, .nm 5]) rfl nd_p_turned_condition (by kernel_rfl) (by kernel_rfl) (by kernel_rfl) (di_val (pd_callU c h_p_parts_of (Nat.le_refl _) (gl_ (by kernel_rfl)) (pl_cons (pv_ (by kernel_rfl)) (pl_nil) rfl) rfl rfl rfl)) (blkOk_by (by kernel_rfl)) (fun _ _ _ _ _ => tg_tup rfl (tgs_cons (tg_name nd_p_turned_condition (by kernel_rfl) (.inl (by kernel_rfl)) (.inr (by kernel_rfl))) (tgs_cons (tg_name nd_p_turned_condition (by kernel_rfl) (.inl (by kernel_rfl)) (.inr (by kernel_rfl))) (tgs_cons (tg_name nd_p_turned_condition (by kernel_rfl) (.inl (by kernel_rfl)) (.inr (by kernel_rfl))) (tgs_nil) (by kernel_rfl)) (by kernel_rfl)) (by kernel_rfl)) (by kernel_rfl) (by kernel_rfl)) (fun _ _ _ _ _ => pts_nilD) (fun _ _ _ _ _ => pd_tup (pl_cons (pd_ix (id_ix c.blk.units1) (pv_ (by kernel_rfl)) (pv_ (by kernel_rfl)) (fun _ _ => rfl)) (pl_cons (pd_callU c.blk h_p_turned_point (Nat.le_refl _) (gl_ (by kernel_rfl)) (pl_cons (pv_ (by kernel_rfl)) (pl_nil) rfl) rfl rfl rfl) (pl_cons (pd_callU c.blk h_p_turned_point (Nat.le_refl _) (gl_ (by kernel_rfl)) (pl_cons (pv_ (by kernel_rfl)) (pl_nil) rfl) rfl rfl rfl) (pl_nil) rfl) rfl) rfl)) (fun _ => rfl) (by decide)) <|
  ds_one (dp_ret (pd_callU c h_p_joined (Nat.le_refl _) (gl_ (by kernel_rfl)) (pl_cons (pd_callU c h_p_joint_of (Nat.le_refl _) (gl_ (by kernel_rfl)) (pl_cons (pv_ (by kernel_rfl)) (pl_nil) rfl) rfl rfl rfl) (pl_cons (pv_ (by kernel_rfl)) (pl_nil) rfl) rfl) rfl rfl rfl))
theorem c_p_turned_condition (hm_dict : mg "dict" = none) (gc_TURNED : KDs P w K mg "TURNED" g_TURNED) (h_p_joined : Cal P w K mg base k "joined" 2 p_joined) (h_p_joint_of : Cal P w K mg base k "joint_of" 1 p_joint_of) (h_p_parts_of : Cal P w K mg base k "parts_of" 1 p_parts_of) (h_p_turned_point : Cal P w K mg base k "turned_point" 1 p_turned_point) (dn : Dn K mg "turned_condition" "turned_condition" (defArgs (top 20)) (defBody (top 20)) (defScope (top 20)) ["condition"]) : Cal P w K mg base (k + 1) "turned_condition" 1 (runDef 6 p_turned_condition_b) :=
  dn.cal sc_p_turned_condition rfl fun f cdv A outer s H E c => b_p_turned_condition hm_dict gc_TURNED h_p_joined h_p_joint_of h_p_parts_of h_p_turned_point c
abbrev N_p_turned_rule : List Str := ["rule"]
theorem nd_p_turned_rule : N_p_turned_rule.Nodup := by decide +kernel
theorem sc_p_turned_rule : FnScope N_p_turned_rule ["rule"] (defScope (top 21)) := ⟨rfl, rfl, rfl, nd_p_turned_rule, rfl, by decide +kernel, by decide +kernel⟩
theorem b_p_turned_rule {f : Addr} {cdv : Value} {A : Around} {outer : List PySem.Env} {s : Shared} {H : Hp} {E : XK} (h_p_turned_condition : Cal P w K mg base k "turned_condition" 1 p_turned_condition)
    (c : Cok (CF P w K mg base N_p_turned_rule "turned_rule" (defScope (top 21)) f cdv A outer s H E) E k) : PDSs (CF P w K mg base N_p_turned_rule "turned_rule" (defScope (top 21)) f cdv A outer s H E) E (defBody (top 21)) p_turned_rule_b :=
  ds_one (dp_ret (pd_tup (pl_cons (pd_callU c h_p_turned_condition (Nat.le_refl _) (gl_ (by kernel_rfl)) (pl_cons (pd_ix (id_ix c.units1) (pv_ (by kernel_rfl)) (pd_int) (fun _ _ => rfl)) (pl_nil) rfl) rfl rfl rfl) (pl_cons (pd_callU c h_p_turned_condition (Nat.le_refl _) (gl_ (by kernel_rfl)) (pl_cons (pd_ix (id_ix c.units1) (pv_ (by kernel_rfl)) (pd_int) (fun _ _ => rfl)) (pl_nil) rfl) rfl rfl rfl) (pl_nil) rfl) rfl)))
theorem c_p_turned_rule (h_p_turned_condition : Cal P w K mg base k "turned_condition" 1 p_turned_condition) (dn : Dn K mg "turned_rule" "turned_rule" (defArgs (top 21)) (defBody (top 21)) (defScope (top 21)) ["rule"]) : Cal P w K mg base (k + 1) "turned_rule" 1 (runDef 1 p_turned_rule_b) :=
  dn.cal sc_p_turned_rule rfl fun f cdv A outer s H E c => b_p_turned_rule h_p_turned_condition c
abbrev N_p_upside_down : List Str := ["rule"]
theorem nd_p_upside_down : N_p_upside_down.Nodup := by decide +kernel
theorem sc_p_upside_down : FnScope N_p_upside_down ["rule"] (defScope (top 27)) := ⟨rfl, rfl, rfl, nd_p_upside_down, rfl, by decide +kernel, by decide +kernel⟩
theorem b_p_upside_down {f : Addr} {cdv : Value} {A : Around} {outer : List PySem.Env} {s : Shared} {H : Hp} {E : XK} (h_p_turned_rule : Cal P w K mg base k "turned_rule" 1 p_turned_rule) (h_p_need_rule : Cal P w K mg base k "need_rule" 1 p_need_rule)
    (c : Cok (CF P w K mg base N_p_upside_down "upside_down" (defScope (top 27)) f cdv A outer s H E) E k) : PDSs (CF P w K mg base N_p_upside_down "upside_down" (defScope (top 27)) f cdv A outer s H E) E (defBody (top 27)) p_upside_down_b :=
  ds_cons (dp_expr (pd_callU c h_p_need_rule (Nat.le_refl _) (gl_ (by kernel_rfl)) (pl_cons (pv_ (by kernel_rfl)) (pl_nil) rfl) rfl rfl rfl) rfl) <|
  ds_one (dp_ret (pd_callU c h_p_turned_rule (Nat.le_refl _) (gl_ (by kernel_rfl)) (pl_cons (pv_ (by kernel_rfl)) (pl_nil) rfl) rfl rfl rfl))
theorem c_p_upside_down (h_p_turned_rule : Cal P w K mg base k "turned_rule" 1 p_turned_rule) (h_p_need_rule : Cal P w K mg base k "need_rule" 1 p_need_rule) (dn : Dn K mg "upside_down" "upside_down" (defArgs (top 27)) (defBody (top 27)) (defScope (top 27)) ["rule"]) : Cal P w K mg base (k + 1) "upside_down" 1 (runDef 1 p_upside_down_b) :=
  dn.cal sc_p_upside_down rfl fun f cdv A outer s H E c => b_p_upside_down h_p_turned_rule h_p_need_rule c
abbrev N_l_turned : List Str := ["_law_condition_here", "_law_table", "_law_found", "_law_part", "_law_points", "_law_point_here"]
theorem nd_l_turned : N_l_turned.Nodup := by decide +kernel
theorem sc_l_turned : FnScope N_l_turned ["_law_condition_here"] (defScope (top 48)) := ⟨rfl, rfl, rfl, nd_l_turned, rfl, by decide +kernel, by decide +kernel⟩
theorem b_l_turned {f : Addr} {cdv : Value} {A : Around} {outer : List PySem.Env} {s : Shared} {H : Hp} {E : XK} (hm_tuple : mg "tuple" = none) (h_l_parts : Cal P w K mg base k "_law_parts" 1 l_parts)
    (c : Cok (CF P w K mg base N_l_turned "_law_turned" (defScope (top 48)) f cdv A outer s H E) E k) : PDSs (CF P w K mg base N_l_turned "_law_turned" (defScope (top 48)) f cdv A outer s H E) E (defBody (top 48)) l_turned_b :=
  ds_cons (dp_set nd_l_turned (by kernel_rfl) (.inl (by kernel_rfl)) (pd_dic (pp_cons (pd_str) (pd_str) (pp_cons (pd_str) (pd_str) (pp_cons (pd_str) (pd_str) (pp_cons (pd_str) (pd_str) (pp_nil))))) rfl rfl (by decide) (by decide)) rfl (.inl rfl)) <|
  ds_cons (dp_set nd_l_turned (by kernel_rfl) (.inl (by kernel_rfl)) (pd_own (pl_nil)) rfl (.inl rfl)) <|
  ds_cons (dp_for own_cf rfl (di_val (pd_callU c h_l_parts (Nat.le_refl _) (gl_ (by kernel_rfl)) (pl_cons (pv_ (by kernel_rfl)) (pl_nil) rfl) rfl rfl rfl)) (dg_of (tg_name nd_l_turned (by kernel_rfl) (.inl (by kernel_rfl)) (.inr (by kernel_rfl)))) (ds_cons (dp_setLc (own := [(("_law_point_here" : Str), 5)]) (t := .nm 5) rfl nd_l_turned (by kernel_rfl) (by kernel_rfl) (by kernel_rfl) (di_val (pd_slice (pv_ (by kernel_rfl)) (pdo_some (pd_int)) (pdo_none))) (blkOk_by (by kernel_rfl)) (fun _ _ _ _ _ => tg_name nd_l_turned (by kernel_rfl) (.inl (by kernel_rfl)) (.inr (by kernel_rfl))) (fun _ _ _ _ _ => pts_nilD) (fun _ _ _ _ _ => pd_if (pb_cmp (od_eq c.blk.units) (pv_ (by kernel_rfl)) (pd_tup (pl_cons (pd_str) (pl_nil) rfl)) rfl) (pv_ (by kernel_rfl)) (pd_tup (pl_cons (pd_ix (id_ix c.blk.units1) (pv_ (by kernel_rfl)) (pd_int) (fun _ _ => rfl)) (pl_cons (pd_bin od_sub (pd_int) (pd_ix (id_ix c.blk.units1) (pv_ (by kernel_rfl)) (pd_int) (fun _ _ => rfl))) (pl_nil) rfl) rfl))) (fun _ => rfl) (by decide)) <|
  ds_one (dp_expr (pd_meth plain_list slot_append ty_append md_append (pv_ (by kernel_rfl)) (pl_cons (pd_bin od_add (pd_tup (pl_cons (pd_ix (id_ix c.units1) (pv_ (by kernel_rfl)) (pd_ix (id_ix c.units1) (pv_ (by kernel_rfl)) (pd_int) (fun _ _ => rfl)) (fun _ _ => rfl)) (pl_nil) rfl)) (pd_callTy cd_tuple (gl_ (by kernel_rfl)) hm_tuple bb_tuple (pl_cons (pv_ (by kernel_rfl)) (pl_nil) rfl) (by decide) rfl rfl rfl)) (pl_nil) rfl) rfl rfl rfl rfl rfl) rfl)) (fun _ => rfl)) <|
  ds_one (dp_ret (pd_if (pb_cmp (od_in c.units5) (pd_ix (id_ix c.units1) (pv_ (by kernel_rfl)) (pd_int) (fun _ _ => rfl)) (pd_tup (pl_cons (pd_str) (pl_cons (pd_str) (pl_nil) rfl) rfl)) rfl) (pd_bin od_add (pd_tup (pl_cons (pd_ix (id_ix c.units1) (pv_ (by kernel_rfl)) (pd_int) (fun _ _ => rfl)) (pl_nil) rfl)) (pd_callTy cd_tuple (gl_ (by kernel_rfl)) hm_tuple bb_tuple (pl_cons (pv_ (by kernel_rfl)) (pl_nil) rfl) (by decide) rfl rfl rfl)) (pd_ix (id_ix c.units1) (pv_ (by kernel_rfl)) (pd_int) (fun _ _ => rfl))))
theorem c_l_turned (hm_tuple : mg "tuple" = none) (h_l_parts : Cal P w K mg base k "_law_parts" 1 l_parts) (dn : Dn K mg "_law_turned" "_law_turned" (defArgs (top 48)) (defBody (top 48)) (defScope (top 48)) ["_law_condition_here"]) : Cal P w K mg base (k + 1) "_law_turned" 1 (runDef 6 l_turned_b) :=
  dn.cal sc_l_turned rfl fun f cdv A outer s H E c => b_l_turned hm_tuple h_l_parts c
abbrev N_l_pointer : List Str := ["_law_source_here", "_law_drag_here", "_law_high", "_law_some"]
theorem nd_l_pointer : N_l_pointer.Nodup := by decide +kernel
theorem sc_l_pointer : FnScope N_l_pointer ["_law_source_here", "_law_drag_here"] (defScope (top 38)) := ⟨rfl, rfl, rfl, nd_l_pointer, rfl, by decide +kernel, by decide +kernel⟩
theorem b_l_pointer {f : Addr} {cdv : Value} {A : Around} {outer : List PySem.Env} {s : Shared} {H : Hp} {E : XK} (hm_sum : mg "sum" = none) (h_l_of : Cal P w K mg base k "_law_of" 2 l_of) (h_l_draw : Cal P w K mg base k "_law_draw" 2 l_draw)
    (c : Cok (CF P w K mg base N_l_pointer "_law_pointer" (defScope (top 38)) f cdv A outer s H E) E k) : PDSs (CF P w K mg base N_l_pointer "_law_pointer" (defScope (top 38)) f cdv A outer s H E) E (defBody (top 38)) l_pointer_b :=
  ds_cons (dp_set nd_l_pointer (by kernel_rfl) (.inl (by kernel_rfl)) (pd_callB (cd_sum rfl) (gl_ (by kernel_rfl)) hm_sum bb_sum (pl_cons (pd_ix (id_ix c.units1) (pv_ (by kernel_rfl)) (pd_int) (fun _ _ => rfl)) (pl_nil) rfl) (by decide) rfl rfl rfl) rfl (.inl rfl)) <|
  ds_cons (dp_set nd_l_pointer (by kernel_rfl) (.inl (by kernel_rfl)) (pd_lst (pl_cons (pd_callU c h_l_draw (Nat.le_refl _) (gl_ (by kernel_rfl)) (pl_cons (pv_ (by kernel_rfl)) (pl_cons (pd_bin od_add (pv_ (by kernel_rfl)) (pd_int)) (pl_nil) rfl) rfl) rfl rfl rfl) (pl_cons (pd_bin od_sub (pd_callU c h_l_draw (Nat.le_refl _) (gl_ (by kernel_rfl)) (pl_cons (pv_ (by kernel_rfl)) (pl_cons (pd_bin od_add (pv_ (by kernel_rfl)) (pd_int)) (pl_nil) rfl) rfl) rfl rfl rfl) (pd_int)) (pl_nil) rfl) rfl)) rfl (.inl rfl)) <|
  ds_one (dp_ret (pd_callU c h_l_of (Nat.le_refl _) (gl_ (by kernel_rfl)) (pl_cons (pv_ (by kernel_rfl)) (pl_cons (pd_bin od_add (pv_ (by kernel_rfl)) (pd_lst (pl_cons (pd_bin od_sub (pd_callU c h_l_draw (Nat.le_refl _) (gl_ (by kernel_rfl)) (pl_cons (pv_ (by kernel_rfl)) (pl_cons (pd_bin od_mul (pd_int) (pv_ (by kernel_rfl))) (pl_nil) rfl) rfl) rfl rfl rfl) (pv_ (by kernel_rfl))) (pl_nil) rfl))) (pl_nil) rfl) rfl) rfl rfl rfl))
theorem c_l_pointer (hm_sum : mg "sum" = none) (h_l_of : Cal P w K mg base k "_law_of" 2 l_of) (h_l_draw : Cal P w K mg base k "_law_draw" 2 l_draw) (dn : Dn K mg "_law_pointer" "_law_pointer" (defArgs (top 38)) (defBody (top 38)) (defScope (top 38)) ["_law_source_here", "_law_drag_here"]) : Cal P w K mg base (k + 1) "_law_pointer" 2 (runDef 4 l_pointer_b) :=
  dn.cal sc_l_pointer rfl fun f cdv A outer s H E c => b_l_pointer hm_sum h_l_of h_l_draw c
abbrev N_p_is_rule : List Str := ["value"]
theorem nd_p_is_rule : N_p_is_rule.Nodup := by decide +kernel
theorem sc_p_is_rule : FnScope N_p_is_rule ["value"] (defScope (top 23)) := ⟨rfl, rfl, rfl, nd_p_is_rule, rfl, by decide +kernel, by decide +kernel⟩
theorem b_p_is_rule {f : Addr} {cdv : Value} {A : Around} {outer : List PySem.Env} {s : Shared} {H : Hp} {E : XK} (h_p_is_good_rule : Cal P w K mg base k "is_good_rule" 1 p_is_good_rule)
    (c : Cok (CF P w K mg base N_p_is_rule "is_rule" (defScope (top 23)) f cdv A outer s H E) E k) : PDSs (CF P w K mg base N_p_is_rule "is_rule" (defScope (top 23)) f cdv A outer s H E) E (defBody (top 23)) p_is_rule_b :=
  ds_one (dp_ret (pd_callU c h_p_is_good_rule (Nat.le_refl _) (gl_ (by kernel_rfl)) (pl_cons (pv_ (by kernel_rfl)) (pl_nil) rfl) rfl rfl rfl))
theorem c_p_is_rule (h_p_is_good_rule : Cal P w K mg base k "is_good_rule" 1 p_is_good_rule) (dn : Dn K mg "is_rule" "is_rule" (defArgs (top 23)) (defBody (top 23)) (defScope (top 23)) ["value"]) : Cal P w K mg base (k + 1) "is_rule" 1 (runDef 1 p_is_rule_b) :=
  dn.cal sc_p_is_rule rfl fun f cdv A outer s H E c => b_p_is_rule h_p_is_good_rule c
abbrev N_l_is_int : List Str := ["_law_value"]
theorem nd_l_is_int : N_l_is_int.Nodup := by decide +kernel
theorem sc_l_is_int : FnScope N_l_is_int ["_law_value"] (defScope (top 40)) := ⟨rfl, rfl, rfl, nd_l_is_int, rfl, by decide +kernel, by decide +kernel⟩
theorem b_l_is_int {f : Addr} {cdv : Value} {A : Around} {outer : List PySem.Env} {s : Shared} {H : Hp} {E : XK} (hm_isinstance : mg "isinstance" = none) (hm_bool : mg "bool" = none) (hm_int : mg "int" = none)
    (c : Cok (CF P w K mg base N_l_is_int "_law_is_int" (defScope (top 40)) f cdv A outer s H E) E k) : PDSs (CF P w K mg base N_l_is_int "_law_is_int" (defScope (top 40)) f cdv A outer s H E) E (defBody (top 40)) l_is_int_b :=
  ds_one (dp_ret (pd_and (pd_isi (gl_ (by kernel_rfl)) hm_isinstance bb_isinstance (gl_ (by kernel_rfl)) hm_int bb_int (pv_ (by kernel_rfl)) (by decide) rfl (by decide) rfl (fun _ => rfl)) (pe_one (pd_not (pd_isi (gl_ (by kernel_rfl)) hm_isinstance bb_isinstance (gl_ (by kernel_rfl)) hm_bool bb_bool (pv_ (by kernel_rfl)) (by decide) rfl (by decide) rfl (fun _ => rfl))))))
theorem c_l_is_int (hm_isinstance : mg "isinstance" = none) (hm_bool : mg "bool" = none) (hm_int : mg "int" = none) (dn : Dn K mg "_law_is_int" "_law_is_int" (defArgs (top 40)) (defBody (top 40)) (defScope (top 40)) ["_law_value"]) : Cal P w K mg base (k + 1) "_law_is_int" 1 (runDef 1 l_is_int_b) :=
  dn.cal sc_l_is_int rfl fun f cdv A outer s H E c => b_l_is_int hm_isinstance hm_bool hm_int c
abbrev N_l_is_point : List Str := ["_law_value", "_law_good"]
theorem nd_l_is_point : N_l_is_point.Nodup := by decide +kernel
theorem sc_l_is_point : FnScope N_l_is_point ["_law_value"] (defScope (top 41)) := ⟨rfl, rfl, rfl, nd_l_is_point, rfl, by decide +kernel, by decide +kernel⟩
theorem b_l_is_point {f : Addr} {cdv : Value} {A : Around} {outer : List PySem.Env} {s : Shared} {H : Hp} {E : XK} (hm_len : mg "len" = none) (hm_isinstance : mg "isinstance" = none) (hm_str : mg "str" = none) (hm_tuple : mg "tuple" = none) (h_l_is_int : Cal P w K mg base k "_law_is_int" 1 l_is_int)
    (c : Cok (CF P w K mg base N_l_is_point "_law_is_point" (defScope (top 41)) f cdv A outer s H E) E k) : PDSs (CF P w K mg base N_l_is_point "_law_is_point" (defScope (top 41)) f cdv A outer s H E) E (defBody (top 41)) l_is_point_b :=
  ds_cons (dp_if (PW.pt (pwb_or (pb_not (pb_val (pd_isi (gl_ (by kernel_rfl)) hm_isinstance bb_isinstance (gl_ (by kernel_rfl)) hm_tuple bb_tuple (pv_ (by kernel_rfl)) (by decide) rfl (by decide) rfl (fun _ => rfl)) (fun _ => rfl))) (pwb_or (pb_cmp (od_eq c.units) (pv_ (by kernel_rfl)) (pd_tup (pl_nil)) rfl) (pw_or1 (pb_not (pb_val (pd_isi (gl_ (by kernel_rfl)) hm_isinstance bb_isinstance (gl_ (by kernel_rfl)) hm_str bb_str (pd_ix (id_ix c.units1) (pv_ (by kernel_rfl)) (pd_int) (fun _ _ => rfl)) (by decide) rfl (by decide) rfl (fun _ => rfl)) (fun _ => rfl))))))) (ds_one (dp_ret (pd_bl))) (ds_nil)) <|
  ds_cons (dp_if (pb_cmp (od_eq c.units) (pd_ix (id_ix c.units1) (pv_ (by kernel_rfl)) (pd_int) (fun _ _ => rfl)) (pd_str) rfl) (ds_one (dp_ret (pd_cmp (od_eq c.units) (pd_callB cd_len (gl_ (by kernel_rfl)) hm_len bb_len (pl_cons (pv_ (by kernel_rfl)) (pl_nil) rfl) (by decide) rfl rfl rfl) (pd_int) rfl))) (ds_nil)) <|
  ds_cons (dp_set nd_l_is_point (by kernel_rfl) (.inl (by kernel_rfl)) (pd_and (pd_cmp (od_in c.units5) (pd_ix (id_ix c.units1) (pv_ (by kernel_rfl)) (pd_int) (fun _ _ => rfl)) (pd_tup (pl_cons (pd_str) (pl_cons (pd_str) (pl_cons (pd_str) (pl_nil) rfl) rfl) rfl)) rfl) (pe_one (pd_cmp (od_eq c.units) (pd_callB cd_len (gl_ (by kernel_rfl)) hm_len bb_len (pl_cons (pv_ (by kernel_rfl)) (pl_nil) rfl) (by decide) rfl rfl rfl) (pd_int) rfl))) rfl (.inl rfl)) <|
  ds_one (dp_ret (pd_and (pv_ (by kernel_rfl)) (pd_and (pd_callU c h_l_is_int (Nat.le_refl _) (gl_ (by kernel_rfl)) (pl_cons (pd_ix (id_ix c.units1) (pv_ (by kernel_rfl)) (pd_int) (fun _ _ => rfl)) (pl_nil) rfl) rfl rfl rfl) (pe_one (pd_chain od_le od_le (pd_int) (pd_ix (id_ix c.units1) (pv_ (by kernel_rfl)) (pd_int) (fun _ _ => rfl)) (pd_int) rfl)))))
theorem c_l_is_point (hm_len : mg "len" = none) (hm_isinstance : mg "isinstance" = none) (hm_str : mg "str" = none) (hm_tuple : mg "tuple" = none) (h_l_is_int : Cal P w K mg base k "_law_is_int" 1 l_is_int) (dn : Dn K mg "_law_is_point" "_law_is_point" (defArgs (top 41)) (defBody (top 41)) (defScope (top 41)) ["_law_value"]) : Cal P w K mg base (k + 1) "_law_is_point" 1 (runDef 2 l_is_point_b) :=
  dn.cal sc_l_is_point rfl fun f cdv A outer s H E c => b_l_is_point hm_len hm_isinstance hm_str hm_tuple h_l_is_int c
abbrev N_l_is_comparison : List Str := ["_law_value"]
theorem nd_l_is_comparison : N_l_is_comparison.Nodup := by decide +kernel
theorem sc_l_is_comparison : FnScope N_l_is_comparison ["_law_value"] (defScope (top 42)) := ⟨rfl, rfl, rfl, nd_l_is_comparison, rfl, by decide +kernel, by decide +kernel⟩
theorem b_l_is_comparison {f : Addr} {cdv : Value} {A : Around} {outer : List PySem.Env} {s : Shared} {H : Hp} {E : XK} (hm_isinstance : mg "isinstance" = none) (hm_str : mg "str" = none) (hm_len : mg "len" = none) (hm_tuple : mg "tuple" = none) (h_l_is_point : Cal P w K mg base k "_law_is_point" 1 l_is_point)
    (c : Cok (CF P w K mg base N_l_is_comparison "_law_is_comparison" (defScope (top 42)) f cdv A outer s H E) E k) : PDSs (CF P w K mg base N_l_is_comparison "_law_is_comparison" (defScope (top 42)) f cdv A outer s H E) E (defBody (top 42)) l_is_comparison_b :=
  ds_cons (dp_if (PW.pt (pwb_or (pb_not (pb_val (pd_isi (gl_ (by kernel_rfl)) hm_isinstance bb_isinstance (gl_ (by kernel_rfl)) hm_tuple bb_tuple (pv_ (by kernel_rfl)) (by decide) rfl (by decide) rfl (fun _ => rfl)) (fun _ => rfl))) (pwb_or (pb_cmp (od_ne c.units) (pd_callB cd_len (gl_ (by kernel_rfl)) hm_len bb_len (pl_cons (pv_ (by kernel_rfl)) (pl_nil) rfl) (by decide) rfl rfl rfl) (pd_int) rfl) (pw_or1 (pb_not (pb_val (pd_isi (gl_ (by kernel_rfl)) hm_isinstance bb_isinstance (gl_ (by kernel_rfl)) hm_str bb_str (pd_ix (id_ix c.units1) (pv_ (by kernel_rfl)) (pd_int) (fun _ _ => rfl)) (by decide) rfl (by decide) rfl (fun _ => rfl)) (fun _ => rfl))))))) (ds_one (dp_ret (pd_bl))) (ds_nil)) <|
  ds_cons (dp_if (pb_cmp (od_notIn c.units5) (pd_ix (id_ix c.units1) (pv_ (by kernel_rfl)) (pd_int) (fun _ _ => rfl)) (pd_tup (pl_cons (pd_str) (pl_cons (pd_str) (pl_cons (pd_str) (pl_cons (pd_str) (pl_nil) rfl) rfl) rfl) rfl)) rfl) (ds_one (dp_ret (pd_bl))) (ds_nil)) <|
  ds_one (dp_ret (pd_and (pd_callU c h_l_is_point (Nat.le_refl _) (gl_ (by kernel_rfl)) (pl_cons (pd_ix (id_ix c.units1) (pv_ (by kernel_rfl)) (pd_int) (fun _ _ => rfl)) (pl_nil) rfl) rfl rfl rfl) (pe_one (pd_callU c h_l_is_point (Nat.le_refl _) (gl_ (by kernel_rfl)) (pl_cons (pd_ix (id_ix c.units1) (pv_ (by kernel_rfl)) (pd_int) (fun _ _ => rfl)) (pl_nil) rfl) rfl rfl rfl))))
theorem c_l_is_comparison (hm_isinstance : mg "isinstance" = none) (hm_str : mg "str" = none) (hm_len : mg "len" = none) (hm_tuple : mg "tuple" = none) (h_l_is_point : Cal P w K mg base k "_law_is_point" 1 l_is_point) (dn : Dn K mg "_law_is_comparison" "_law_is_comparison" (defArgs (top 42)) (defBody (top 42)) (defScope (top 42)) ["_law_value"]) : Cal P w K mg base (k + 1) "_law_is_comparison" 1 (runDef 1 l_is_comparison_b) :=
  dn.cal sc_l_is_comparison rfl fun f cdv A outer s H E c => b_l_is_comparison hm_isinstance hm_str hm_len hm_tuple h_l_is_point c
abbrev N_l_is_condition : List Str := ["_law_value", "_law_part"]
theorem nd_l_is_condition : N_l_is_condition.Nodup := by decide +kernel
theorem sc_l_is_condition : FnScope N_l_is_condition ["_law_value"] (defScope (top 43)) := ⟨rfl, rfl, rfl, nd_l_is_condition, rfl, by decide +kernel, by decide +kernel⟩
theorem b_l_is_condition {f : Addr} {cdv : Value} {A : Around} {outer : List PySem.Env} {s : Shared} {H : Hp} {E : XK} (hm_len : mg "len" = none) (hm_isinstance : mg "isinstance" = none) (hm_tuple : mg "tuple" = none) (h_l_is_comparison : Cal P w K mg base k "_law_is_comparison" 1 l_is_comparison)
    (c : Cok (CF P w K mg base N_l_is_condition "_law_is_condition" (defScope (top 43)) f cdv A outer s H E) E k) : PDSs (CF P w K mg base N_l_is_condition "_law_is_condition" (defScope (top 43)) f cdv A outer s H E) E (defBody (top 43)) l_is_condition_b :=
  ds_cons (dp_if (pb_val (pd_callU c h_l_is_comparison (Nat.le_refl _) (gl_ (by kernel_rfl)) (pl_cons (pv_ (by kernel_rfl)) (pl_nil) rfl) rfl rfl rfl) (fun _ => rfl)) (ds_one (dp_ret (pd_bl))) (ds_nil)) <|
  ds_cons (dp_if (PW.pt (pwb_or (pb_not (pb_val (pd_isi (gl_ (by kernel_rfl)) hm_isinstance bb_isinstance (gl_ (by kernel_rfl)) hm_tuple bb_tuple (pv_ (by kernel_rfl)) (by decide) rfl (by decide) rfl (fun _ => rfl)) (fun _ => rfl))) (pwb_or (pb_cmp (od_notIn c.units5) (pd_callB cd_len (gl_ (by kernel_rfl)) hm_len bb_len (pl_cons (pv_ (by kernel_rfl)) (pl_nil) rfl) (by decide) rfl rfl rfl) (pd_tup (pl_cons (pd_int) (pl_cons (pd_int) (pl_nil) rfl) rfl)) rfl) (pw_or1 (pb_cmp (od_notIn c.units5) (pd_ix (id_ix c.units1) (pv_ (by kernel_rfl)) (pd_int) (fun _ _ => rfl)) (pd_tup (pl_cons (pd_str) (pl_cons (pd_str) (pl_nil) rfl) rfl)) rfl))))) (ds_one (dp_ret (pd_bl))) (ds_nil)) <|
  ds_one (dp_ret (pd_cmp (od_eq c.units) (pd_lc (own := [(("_law_part" : Str), 1)]) (t := .nm 1) rfl nd_l_is_condition (di_val (pd_slice (pv_ (by kernel_rfl)) (pdo_some (pd_int)) (pdo_none))) (blkOk_by (by kernel_rfl)) (fun _ _ _ _ _ => tg_name nd_l_is_condition (by kernel_rfl) (.inl (by kernel_rfl)) (.inr (by kernel_rfl))) (fun _ _ _ _ _ => pts_one (pb_not (pb_val (pd_callU c.blk h_l_is_comparison (Nat.le_refl _) (gl_ (by kernel_rfl)) (pl_cons (pv_ (by kernel_rfl)) (pl_nil) rfl) rfl rfl rfl) (fun _ => rfl)))) (fun _ _ _ _ _ => pv_ (by kernel_rfl)) (fun _ => rfl) (by decide)) (pd_lst (pl_nil)) rfl))
theorem c_l_is_condition (hm_len : mg "len" = none) (hm_isinstance : mg "isinstance" = none) (hm_tuple : mg "tuple" = none) (h_l_is_comparison : Cal P w K mg base k "_law_is_comparison" 1 l_is_comparison) (dn : Dn K mg "_law_is_condition" "_law_is_condition" (defArgs (top 43)) (defBody (top 43)) (defScope (top 43)) ["_law_value"]) : Cal P w K mg base (k + 1) "_law_is_condition" 1 (runDef 2 l_is_condition_b) :=
  dn.cal sc_l_is_condition rfl fun f cdv A outer s H E c => b_l_is_condition hm_len hm_isinstance hm_tuple h_l_is_comparison c
abbrev N_l_is_rule : List Str := ["_law_value"]
theorem nd_l_is_rule : N_l_is_rule.Nodup := by decide +kernel
theorem sc_l_is_rule : FnScope N_l_is_rule ["_law_value"] (defScope (top 44)) := ⟨rfl, rfl, rfl, nd_l_is_rule, rfl, by decide +kernel, by decide +kernel⟩
theorem b_l_is_rule {f : Addr} {cdv : Value} {A : Around} {outer : List PySem.Env} {s : Shared} {H : Hp} {E : XK} (hm_len : mg "len" = none) (hm_isinstance : mg "isinstance" = none) (hm_tuple : mg "tuple" = none) (h_l_is_condition : Cal P w K mg base k "_law_is_condition" 1 l_is_condition)
    (c : Cok (CF P w K mg base N_l_is_rule "_law_is_rule" (defScope (top 44)) f cdv A outer s H E) E k) : PDSs (CF P w K mg base N_l_is_rule "_law_is_rule" (defScope (top 44)) f cdv A outer s H E) E (defBody (top 44)) l_is_rule_b :=
  ds_cons (dp_if (PW.pt (pwb_or (pb_not (pb_val (pd_isi (gl_ (by kernel_rfl)) hm_isinstance bb_isinstance (gl_ (by kernel_rfl)) hm_tuple bb_tuple (pv_ (by kernel_rfl)) (by decide) rfl (by decide) rfl (fun _ => rfl)) (fun _ => rfl))) (pw_or1 (pb_cmp (od_ne c.units) (pd_callB cd_len (gl_ (by kernel_rfl)) hm_len bb_len (pl_cons (pv_ (by kernel_rfl)) (pl_nil) rfl) (by decide) rfl rfl rfl) (pd_int) rfl)))) (ds_one (dp_ret (pd_bl))) (ds_nil)) <|
  ds_one (dp_ret (pd_and (pd_callU c h_l_is_condition (Nat.le_refl _) (gl_ (by kernel_rfl)) (pl_cons (pd_ix (id_ix c.units1) (pv_ (by kernel_rfl)) (pd_int) (fun _ _ => rfl)) (pl_nil) rfl) rfl rfl rfl) (pe_one (pd_callU c h_l_is_condition (Nat.le_refl _) (gl_ (by kernel_rfl)) (pl_cons (pd_ix (id_ix c.units1) (pv_ (by kernel_rfl)) (pd_int) (fun _ _ => rfl)) (pl_nil) rfl) rfl rfl rfl))))
theorem c_l_is_rule (hm_len : mg "len" = none) (hm_isinstance : mg "isinstance" = none) (hm_tuple : mg "tuple" = none) (h_l_is_condition : Cal P w K mg base k "_law_is_condition" 1 l_is_condition) (dn : Dn K mg "_law_is_rule" "_law_is_rule" (defArgs (top 44)) (defBody (top 44)) (defScope (top 44)) ["_law_value"]) : Cal P w K mg base (k + 1) "_law_is_rule" 1 (runDef 1 l_is_rule_b) :=
  dn.cal sc_l_is_rule rfl fun f cdv A outer s H E c => b_l_is_rule hm_len hm_isinstance hm_tuple h_l_is_condition c
abbrev N_p_is_condition : List Str := ["value"]
theorem nd_p_is_condition : N_p_is_condition.Nodup := by decide +kernel
theorem sc_p_is_condition : FnScope N_p_is_condition ["value"] (defScope (top 22)) := ⟨rfl, rfl, rfl, nd_p_is_condition, rfl, by decide +kernel, by decide +kernel⟩
theorem b_p_is_condition {f : Addr} {cdv : Value} {A : Around} {outer : List PySem.Env} {s : Shared} {H : Hp} {E : XK} (h_p_is_good_condition : Cal P w K mg base k "is_good_condition" 1 p_is_good_condition)
    (c : Cok (CF P w K mg base N_p_is_condition "is_condition" (defScope (top 22)) f cdv A outer s H E) E k) : PDSs (CF P w K mg base N_p_is_condition "is_condition" (defScope (top 22)) f cdv A outer s H E) E (defBody (top 22)) p_is_condition_b :=
  ds_one (dp_ret (pd_callU c h_p_is_good_condition (Nat.le_refl _) (gl_ (by kernel_rfl)) (pl_cons (pv_ (by kernel_rfl)) (pl_nil) rfl) rfl rfl rfl))
theorem c_p_is_condition (h_p_is_good_condition : Cal P w K mg base k "is_good_condition" 1 p_is_good_condition) (dn : Dn K mg "is_condition" "is_condition" (defArgs (top 22)) (defBody (top 22)) (defScope (top 22)) ["value"]) : Cal P w K mg base (k + 1) "is_condition" 1 (runDef 1 p_is_condition_b) :=
  dn.cal sc_p_is_condition rfl fun f cdv A outer s H E c => b_p_is_condition h_p_is_good_condition c
abbrev N_p_is_good_drag : List Str := ["value", "heights", "held", "grab", "height"]
theorem nd_p_is_good_drag : N_p_is_good_drag.Nodup := by decide +kernel
theorem sc_p_is_good_drag : FnScope N_p_is_good_drag ["value"] (defScope (top 13)) := ⟨rfl, rfl, rfl, nd_p_is_good_drag, rfl, by decide +kernel, by decide +kernel⟩
theorem b_p_is_good_drag {f : Addr} {cdv : Value} {A : Around} {outer : List PySem.Env} {s : Shared} {H : Hp} {E : XK} (hm_len : mg "len" = none) (hm_all : mg "all" = none) (hm_isinstance : mg "isinstance" = none) (hm_tuple : mg "tuple" = none) (h_p_is_number : Cal P w K mg base k "is_number" 1 p_is_number)
    (c : Cok (CF P w K mg base N_p_is_good_drag "is_good_drag" (defScope (top 13)) f cdv A outer s H E) E k) : PDSs (CF P w K mg base N_p_is_good_drag "is_good_drag" (defScope (top 13)) f cdv A outer s H E) E (defBody (top 13)) p_is_good_drag_b :=
  ds_cons (dp_if (PW.pt (pwb_or (pb_not (pb_val (pd_isi (gl_ (by kernel_rfl)) hm_isinstance bb_isinstance (gl_ (by kernel_rfl)) hm_tuple bb_tuple (pv_ (by kernel_rfl)) (by decide) rfl (by decide) rfl (fun _ => rfl)) (fun _ => rfl))) (pwb_or (pb_cmp (od_ne c.units) (pd_callB cd_len (gl_ (by kernel_rfl)) hm_len bb_len (pl_cons (pv_ (by kernel_rfl)) (pl_nil) rfl) (by decide) rfl rfl rfl) (pd_int) rfl) (pw_or1 (pb_not (pb_val (pd_isi (gl_ (by kernel_rfl)) hm_isinstance bb_isinstance (gl_ (by kernel_rfl)) hm_tuple bb_tuple (pd_ix (id_ix c.units1) (pv_ (by kernel_rfl)) (pd_int) (fun _ _ => rfl)) (by decide) rfl (by decide) rfl (fun _ => rfl)) (fun _ => rfl))))))) (ds_one (dp_ret (pd_bl))) (ds_nil)) <|
  ds_cons (dp_asg (pv_ (by kernel_rfl)) (dg_of (tg_tup rfl (tgs_cons (tg_name nd_p_is_good_drag (by kernel_rfl) (.inl (by kernel_rfl)) (.inr (by kernel_rfl))) (tgs_cons (tg_name nd_p_is_good_drag (by kernel_rfl) (.inl (by kernel_rfl)) (.inr (by kernel_rfl))) (tgs_cons (tg_name nd_p_is_good_drag (by kernel_rfl) (.inl (by kernel_rfl)) (.inr (by kernel_rfl))) (tgs_nil) (by kernel_rfl)) (by kernel_rfl)) (by kernel_rfl)) (by kernel_rfl) (by kernel_rfl))) rfl rfl rfl) <|
  ds_cons (dp_if (PW.pt (pwb_or (pb_not (pb_chain od_le od_le (pd_int) (pd_callB cd_len (gl_ (by kernel_rfl)) hm_len bb_len (pl_cons (pv_ (by kernel_rfl)) (pl_nil) rfl) (by decide) rfl rfl rfl) (pd_int) rfl)) (pw_or1 (pb_not (pb_val (pd_callB (cd_all rfl) (gl_ (by kernel_rfl)) hm_all bb_all (pl_cons (pd_lc (own := [(("height" : Str), 4)]) (t := .nm 4) rfl nd_p_is_good_drag (di_val (pv_ (by kernel_rfl))) (blkOk_by (by kernel_rfl)) (fun _ _ _ _ _ => tg_name nd_p_is_good_drag (by kernel_rfl) (.inl (by kernel_rfl)) (.inr (by kernel_rfl))) (fun _ _ _ _ _ => pts_nilD) (fun _ _ _ _ _ => pd_and (pd_callU c.blk h_p_is_number (Nat.le_refl _) (gl_ (by kernel_rfl)) (pl_cons (pv_ (by kernel_rfl)) (pl_nil) rfl) rfl rfl rfl) (pe_one (pd_cmp od_gt (pv_ (by kernel_rfl)) (pd_int) rfl))) (fun _ => rfl) (by decide)) (pl_nil) rfl) (by decide) rfl rfl rfl) (fun _ => rfl)))))) (ds_one (dp_ret (pd_bl))) (ds_nil)) <|
  ds_one (dp_ret (pd_and (pd_callU c h_p_is_number (Nat.le_refl _) (gl_ (by kernel_rfl)) (pl_cons (pv_ (by kernel_rfl)) (pl_nil) rfl) rfl rfl rfl) (pd_and (pd_chain od_le od_lt (pd_int) (pv_ (by kernel_rfl)) (pd_callB cd_len (gl_ (by kernel_rfl)) hm_len bb_len (pl_cons (pv_ (by kernel_rfl)) (pl_nil) rfl) (by decide) rfl rfl rfl) rfl) (pd_and (pd_callU c h_p_is_number (Nat.le_refl _) (gl_ (by kernel_rfl)) (pl_cons (pv_ (by kernel_rfl)) (pl_nil) rfl) rfl rfl rfl) (pe_one (pd_chain od_le od_le (pd_int) (pv_ (by kernel_rfl)) (pd_ix (id_ix c.units1) (pv_ (by kernel_rfl)) (pv_ (by kernel_rfl)) (fun _ _ => rfl)) rfl))))))
theorem c_p_is_good_drag (hm_len : mg "len" = none) (hm_all : mg "all" = none) (hm_isinstance : mg "isinstance" = none) (hm_tuple : mg "tuple" = none) (h_p_is_number : Cal P w K mg base k "is_number" 1 p_is_number) (dn : Dn K mg "is_good_drag" "is_good_drag" (defArgs (top 13)) (defBody (top 13)) (defScope (top 13)) ["value"]) : Cal P w K mg base (k + 1) "is_good_drag" 1 (runDef 5 p_is_good_drag_b) :=
  dn.cal sc_p_is_good_drag rfl fun f cdv A outer s H E c => b_p_is_good_drag hm_len hm_all hm_isinstance hm_tuple h_p_is_number c
abbrev N_p_is_drag : List Str := ["value"]
theorem nd_p_is_drag : N_p_is_drag.Nodup := by decide +kernel
theorem sc_p_is_drag : FnScope N_p_is_drag ["value"] (defScope (top 24)) := ⟨rfl, rfl, rfl, nd_p_is_drag, rfl, by decide +kernel, by decide +kernel⟩
theorem b_p_is_drag {f : Addr} {cdv : Value} {A : Around} {outer : List PySem.Env} {s : Shared} {H : Hp} {E : XK} (h_p_is_good_drag : Cal P w K mg base k "is_good_drag" 1 p_is_good_drag)
    (c : Cok (CF P w K mg base N_p_is_drag "is_drag" (defScope (top 24)) f cdv A outer s H E) E k) : PDSs (CF P w K mg base N_p_is_drag "is_drag" (defScope (top 24)) f cdv A outer s H E) E (defBody (top 24)) p_is_drag_b :=
  ds_one (dp_ret (pd_callU c h_p_is_good_drag (Nat.le_refl _) (gl_ (by kernel_rfl)) (pl_cons (pv_ (by kernel_rfl)) (pl_nil) rfl) rfl rfl rfl))
theorem c_p_is_drag (h_p_is_good_drag : Cal P w K mg base k "is_good_drag" 1 p_is_good_drag) (dn : Dn K mg "is_drag" "is_drag" (defArgs (top 24)) (defBody (top 24)) (defScope (top 24)) ["value"]) : Cal P w K mg base (k + 1) "is_drag" 1 (runDef 1 p_is_drag_b) :=
  dn.cal sc_p_is_drag rfl fun f cdv A outer s H E c => b_p_is_drag h_p_is_good_drag c
abbrev N_l_is_drag : List Str := ["_law_value", "_law_row"]
theorem nd_l_is_drag : N_l_is_drag.Nodup := by decide +kernel
theorem sc_l_is_drag : FnScope N_l_is_drag ["_law_value"] (defScope (top 45)) := ⟨rfl, rfl, rfl, nd_l_is_drag, rfl, by decide +kernel, by decide +kernel⟩
theorem b_l_is_drag {f : Addr} {cdv : Value} {A : Around} {outer : List PySem.Env} {s : Shared} {H : Hp} {E : XK} (hm_len : mg "len" = none) (hm_isinstance : mg "isinstance" = none) (hm_tuple : mg "tuple" = none) (h_l_is_int : Cal P w K mg base k "_law_is_int" 1 l_is_int)
    (c : Cok (CF P w K mg base N_l_is_drag "_law_is_drag" (defScope (top 45)) f cdv A outer s H E) E k) : PDSs (CF P w K mg base N_l_is_drag "_law_is_drag" (defScope (top 45)) f cdv A outer s H E) E (defBody (top 45)) l_is_drag_b :=
  ds_cons (dp_if (PW.pt (pwb_or (pb_not (pb_val (pd_isi (gl_ (by kernel_rfl)) hm_isinstance bb_isinstance (gl_ (by kernel_rfl)) hm_tuple bb_tuple (pv_ (by kernel_rfl)) (by decide) rfl (by decide) rfl (fun _ => rfl)) (fun _ => rfl))) (pwb_or (pb_cmp (od_ne c.units) (pd_callB cd_len (gl_ (by kernel_rfl)) hm_len bb_len (pl_cons (pv_ (by kernel_rfl)) (pl_nil) rfl) (by decide) rfl rfl rfl) (pd_int) rfl) (pw_or1 (pb_not (pb_val (pd_isi (gl_ (by kernel_rfl)) hm_isinstance bb_isinstance (gl_ (by kernel_rfl)) hm_tuple bb_tuple (pd_ix (id_ix c.units1) (pv_ (by kernel_rfl)) (pd_int) (fun _ _ => rfl)) (by decide) rfl (by decide) rfl (fun _ => rfl)) (fun _ => rfl))))))) (ds_one (dp_ret (pd_bl))) (ds_nil)) <|
  ds_cons (dp_if (PW.pt (pwb_or (pb_not (pb_chain od_le od_le (pd_int) (pd_callB cd_len (gl_ (by kernel_rfl)) hm_len bb_len (pl_cons (pd_ix (id_ix c.units1) (pv_ (by kernel_rfl)) (pd_int) (fun _ _ => rfl)) (pl_nil) rfl) (by decide) rfl rfl rfl) (pd_int) rfl)) (pw_or1 (pb_cmp (od_ne c.units) (pd_lc (own := [(("_law_row" : Str), 1)]) (t := .nm 1) rfl nd_l_is_drag (di_val (pd_ix (id_ix c.units1) (pv_ (by kernel_rfl)) (pd_int) (fun _ _ => rfl))) (blkOk_by (by kernel_rfl)) (fun _ _ _ _ _ => tg_name nd_l_is_drag (by kernel_rfl) (.inl (by kernel_rfl)) (.inr (by kernel_rfl))) (fun _ _ _ _ _ => pts_one (PW.pt (pwb_or (pb_not (pb_val (pd_callU c.blk h_l_is_int (Nat.le_refl _) (gl_ (by kernel_rfl)) (pl_cons (pv_ (by kernel_rfl)) (pl_nil) rfl) rfl rfl rfl) (fun _ => rfl))) (pw_or1 (pb_cmp od_lt (pv_ (by kernel_rfl)) (pd_int) rfl))))) (fun _ _ _ _ _ => pv_ (by kernel_rfl)) (fun _ => rfl) (by decide)) (pd_lst (pl_nil)) rfl)))) (ds_one (dp_ret (pd_bl))) (ds_nil)) <|
  ds_cons (dp_if (PW.pt (pwb_or (pb_not (pb_val (pd_callU c h_l_is_int (Nat.le_refl _) (gl_ (by kernel_rfl)) (pl_cons (pd_ix (id_ix c.units1) (pv_ (by kernel_rfl)) (pd_int) (fun _ _ => rfl)) (pl_nil) rfl) rfl rfl rfl) (fun _ => rfl))) (pw_or1 (pb_not (pb_chain od_le od_lt (pd_int) (pd_ix (id_ix c.units1) (pv_ (by kernel_rfl)) (pd_int) (fun _ _ => rfl)) (pd_callB cd_len (gl_ (by kernel_rfl)) hm_len bb_len (pl_cons (pd_ix (id_ix c.units1) (pv_ (by kernel_rfl)) (pd_int) (fun _ _ => rfl)) (pl_nil) rfl) (by decide) rfl rfl rfl) rfl))))) (ds_one (dp_ret (pd_bl))) (ds_nil)) <|
  ds_one (dp_ret (pd_and (pd_callU c h_l_is_int (Nat.le_refl _) (gl_ (by kernel_rfl)) (pl_cons (pd_ix (id_ix c.units1) (pv_ (by kernel_rfl)) (pd_int) (fun _ _ => rfl)) (pl_nil) rfl) rfl rfl rfl) (pe_one (pd_chain od_le od_le (pd_int) (pd_ix (id_ix c.units1) (pv_ (by kernel_rfl)) (pd_int) (fun _ _ => rfl)) (pd_ix (id_ix c.units1) (pd_ix (id_ix c.units1) (pv_ (by kernel_rfl)) (pd_int) (fun _ _ => rfl)) (pd_ix (id_ix c.units1) (pv_ (by kernel_rfl)) (pd_int) (fun _ _ => rfl)) (fun _ _ => rfl)) rfl))))
theorem c_l_is_drag (hm_len : mg "len" = none) (hm_isinstance : mg "isinstance" = none) (hm_tuple : mg "tuple" = none) (h_l_is_int : Cal P w K mg base k "_law_is_int" 1 l_is_int) (dn : Dn K mg "_law_is_drag" "_law_is_drag" (defArgs (top 45)) (defBody (top 45)) (defScope (top 45)) ["_law_value"]) : Cal P w K mg base (k + 1) "_law_is_drag" 1 (runDef 2 l_is_drag_b) :=
  dn.cal sc_l_is_drag rfl fun f cdv A outer s H E c => b_l_is_drag hm_len hm_isinstance hm_tuple h_l_is_int c
abbrev N_p_is_pointer : List Str := ["value"]
theorem nd_p_is_pointer : N_p_is_pointer.Nodup := by decide +kernel
theorem sc_p_is_pointer : FnScope N_p_is_pointer ["value"] (defScope (top 25)) := ⟨rfl, rfl, rfl, nd_p_is_pointer, rfl, by decide +kernel, by decide +kernel⟩
theorem b_p_is_pointer {f : Addr} {cdv : Value} {A : Around} {outer : List PySem.Env} {s : Shared} {H : Hp} {E : XK} (h_p_is_number : Cal P w K mg base k "is_number" 1 p_is_number)
    (c : Cok (CF P w K mg base N_p_is_pointer "is_pointer" (defScope (top 25)) f cdv A outer s H E) E k) : PDSs (CF P w K mg base N_p_is_pointer "is_pointer" (defScope (top 25)) f cdv A outer s H E) E (defBody (top 25)) p_is_pointer_b :=
  ds_one (dp_ret (pd_callU c h_p_is_number (Nat.le_refl _) (gl_ (by kernel_rfl)) (pl_cons (pv_ (by kernel_rfl)) (pl_nil) rfl) rfl rfl rfl))
theorem c_p_is_pointer (h_p_is_number : Cal P w K mg base k "is_number" 1 p_is_number) (dn : Dn K mg "is_pointer" "is_pointer" (defArgs (top 25)) (defBody (top 25)) (defScope (top 25)) ["value"]) : Cal P w K mg base (k + 1) "is_pointer" 1 (runDef 1 p_is_pointer_b) :=
  dn.cal sc_p_is_pointer rfl fun f cdv A outer s H E c => b_p_is_pointer h_p_is_number c
abbrev N_l_odd : List Str := ["_law_source_here", "_law_items"]
theorem nd_l_odd : N_l_odd.Nodup := by decide +kernel
theorem sc_l_odd : FnScope N_l_odd ["_law_source_here"] (defScope (top 46)) := ⟨rfl, rfl, rfl, nd_l_odd, rfl, by decide +kernel, by decide +kernel⟩
theorem b_l_odd {f : Addr} {cdv : Value} {A : Around} {outer : List PySem.Env} {s : Shared} {H : Hp} {E : XK} (h_l_of : Cal P w K mg base k "_law_of" 2 l_of)
    (c : Cok (CF P w K mg base N_l_odd "_law_odd" (defScope (top 46)) f cdv A outer s H E) E k) : PDSs (CF P w K mg base N_l_odd "_law_odd" (defScope (top 46)) f cdv A outer s H E) E (defBody (top 46)) l_odd_b :=
  ds_cons (dp_set nd_l_odd (by kernel_rfl) (.inl (by kernel_rfl)) (pd_lst (pl_cons (pd_non) (pl_cons (pd_bl) (pl_cons (pd_bl) (pl_cons (pd_int) (pl_cons (pd_int) (pl_cons (pd_int) (pl_cons (pd_int) (pl_cons (pd_un ud_neg (pd_int)) (pl_cons (pd_int) (pl_cons (pd_str) (pl_cons (pd_str) (pl_cons (pd_str) (pl_cons (pd_str) (pl_cons (pd_str) (pl_cons (pd_str) (pl_cons (pd_tup (pl_nil)) (pl_cons (pd_lst (pl_nil)) (pl_cons (pd_tup (pl_cons (pd_str) (pl_nil) rfl)) (pl_nil) rfl) rfl) rfl) rfl) rfl) rfl) rfl) rfl) rfl) rfl) rfl) rfl) rfl) rfl) rfl) rfl) rfl) rfl)) rfl (.inl rfl)) <|
  ds_cons (dp_set nd_l_odd (by kernel_rfl) (.inl (by kernel_rfl)) (pd_bin od_add (pv_ (by kernel_rfl)) (pd_lst (pl_cons (pd_tup (pl_cons (pd_str) (pl_cons (pd_int) (pl_nil) rfl) rfl)) (pl_cons (pd_tup (pl_cons (pd_str) (pl_cons (pd_int) (pl_nil) rfl) rfl)) (pl_cons (pd_tup (pl_cons (pd_str) (pl_cons (pd_bl) (pl_nil) rfl) rfl)) (pl_cons (pd_tup (pl_cons (pd_str) (pl_cons (pd_int) (pl_nil) rfl) rfl)) (pl_cons (pd_tup (pl_cons (pd_str) (pl_cons (pd_tup (pl_cons (pd_str) (pl_nil) rfl)) (pl_cons (pd_tup (pl_cons (pd_str) (pl_cons (pd_int) (pl_nil) rfl) rfl)) (pl_nil) rfl) rfl) rfl)) (pl_nil) rfl) rfl) rfl) rfl) rfl))) rfl (.inl rfl)) <|
  ds_one (dp_ret (pd_callU c h_l_of (Nat.le_refl _) (gl_ (by kernel_rfl)) (pl_cons (pv_ (by kernel_rfl)) (pl_cons (pd_bin od_add (pv_ (by kernel_rfl)) (pd_lst (pl_cons (pd_lst (pl_cons (pd_str) (pl_nil) rfl)) (pl_cons (pd_tup (pl_cons (pd_int) (pl_cons (pd_int) (pl_nil) rfl) rfl)) (pl_cons (pd_tup (pl_cons (pd_tup (pl_cons (pd_int) (pl_cons (pd_int) (pl_nil) rfl) rfl)) (pl_cons (pd_int) (pl_cons (pd_int) (pl_nil) rfl) rfl) rfl)) (pl_cons (pd_bin od_pow (pd_int) (pd_int)) (pl_cons (pd_str) (pl_cons (pd_str) (pl_nil) rfl) rfl) rfl) rfl) rfl) rfl))) (pl_nil) rfl) rfl) rfl rfl rfl))
theorem c_l_odd (h_l_of : Cal P w K mg base k "_law_of" 2 l_of) (dn : Dn K mg "_law_odd" "_law_odd" (defArgs (top 46)) (defBody (top 46)) (defScope (top 46)) ["_law_source_here"]) : Cal P w K mg base (k + 1) "_law_odd" 1 (runDef 2 l_odd_b) :=
  dn.cal sc_l_odd rfl fun f cdv A outer s H E c => b_l_odd h_l_of c
abbrev N_l_spoilt : List Str := ["_law_source_here", "_law_value", "_law_at", "_law_mode"]
theorem nd_l_spoilt : N_l_spoilt.Nodup := by decide +kernel
theorem sc_l_spoilt : FnScope N_l_spoilt ["_law_source_here", "_law_value"] (defScope (top 47)) := ⟨rfl, rfl, rfl, nd_l_spoilt, rfl, by decide +kernel, by decide +kernel⟩
theorem b_l_spoilt {r_ : List D → M D} {f : Addr} {cdv : Value} {A : Around} {outer : List PySem.Env} {s : Shared} {H : Hp} {E : XK} (hm_list : mg "list" = none) (hm_len : mg "len" = none) (hm_isinstance : mg "isinstance" = none) (hm_tuple : mg "tuple" = none) (h_l_spoilt : Cal P w K mg base k "_law_spoilt" 2 r_) (h_l_odd : Cal P w K mg base k "_law_odd" 1 l_odd) (h_l_draw : Cal P w K mg base k "_law_draw" 2 l_draw)
    (c : Cok (CF P w K mg base N_l_spoilt "_law_spoilt" (defScope (top 47)) f cdv A outer s H E) E k) : PDSs (CF P w K mg base N_l_spoilt "_law_spoilt" (defScope (top 47)) f cdv A outer s H E) E (defBody (top 47)) (l_spoilt_b r_) :=
  ds_cons (dp_if (PW.pt (pwb_or (pb_not (pb_val (pd_isi (gl_ (by kernel_rfl)) hm_isinstance bb_isinstance (gl_ (by kernel_rfl)) hm_tuple bb_tuple (pv_ (by kernel_rfl)) (by decide) rfl (by decide) rfl (fun _ => rfl)) (fun _ => rfl))) (pwb_or (pb_cmp (od_eq c.units) (pv_ (by kernel_rfl)) (pd_tup (pl_nil)) rfl) (pw_or1 (pb_cmp (od_eq c.units) (pd_callU c h_l_draw (Nat.le_refl _) (gl_ (by kernel_rfl)) (pl_cons (pv_ (by kernel_rfl)) (pl_cons (pd_int) (pl_nil) rfl) rfl) rfl rfl rfl) (pd_int) rfl))))) (ds_one (dp_ret (pd_callU c h_l_odd (Nat.le_refl _) (gl_ (by kernel_rfl)) (pl_cons (pv_ (by kernel_rfl)) (pl_nil) rfl) rfl rfl rfl))) (ds_nil)) <|
  ds_cons (dp_par2 rfl nd_l_spoilt (by kernel_rfl) (by kernel_rfl) (by decide) (by kernel_rfl) (by kernel_rfl) (pl_cons (pd_callU c h_l_draw (Nat.le_refl _) (gl_ (by kernel_rfl)) (pl_cons (pv_ (by kernel_rfl)) (pl_cons (pd_callB cd_len (gl_ (by kernel_rfl)) hm_len bb_len (pl_cons (pv_ (by kernel_rfl)) (pl_nil) rfl) (by decide) rfl rfl rfl) (pl_nil) rfl) rfl) rfl rfl rfl) (pl_cons (pd_callU c h_l_draw (Nat.le_refl _) (gl_ (by kernel_rfl)) (pl_cons (pv_ (by kernel_rfl)) (pl_cons (pd_int) (pl_nil) rfl) rfl) rfl rfl rfl) (pl_nil) rfl) rfl) rfl rfl) <|
  ds_cons (dp_if (pb_cmp (od_eq c.units) (pv_ (by kernel_rfl)) (pd_int) rfl) (ds_one (dp_ret (pd_bin od_add (pd_slice (pv_ (by kernel_rfl)) (pdo_none) (pdo_some (pv_ (by kernel_rfl)))) (pd_slice (pv_ (by kernel_rfl)) (pdo_some (pd_bin od_add (pv_ (by kernel_rfl)) (pd_int))) (pdo_none))))) (ds_nil)) <|
  ds_cons (dp_if (pb_cmp (od_eq c.units) (pv_ (by kernel_rfl)) (pd_int) rfl) (ds_one (dp_ret (pd_bin od_add (pd_slice (pv_ (by kernel_rfl)) (pdo_none) (pdo_some (pd_bin od_add (pv_ (by kernel_rfl)) (pd_int)))) (pd_slice (pv_ (by kernel_rfl)) (pdo_some (pv_ (by kernel_rfl))) (pdo_none))))) (ds_nil)) <|
  ds_cons (dp_if (pb_cmp (od_eq c.units) (pv_ (by kernel_rfl)) (pd_int) rfl) (ds_one (dp_ret (pd_bin od_add (pd_bin od_add (pd_slice (pv_ (by kernel_rfl)) (pdo_none) (pdo_some (pv_ (by kernel_rfl)))) (pd_tup (pl_cons (pd_callU c h_l_odd (Nat.le_refl _) (gl_ (by kernel_rfl)) (pl_cons (pv_ (by kernel_rfl)) (pl_nil) rfl) rfl rfl rfl) (pl_nil) rfl))) (pd_slice (pv_ (by kernel_rfl)) (pdo_some (pv_ (by kernel_rfl))) (pdo_none))))) (ds_nil)) <|
  ds_cons (dp_if (pb_cmp (od_eq c.units) (pv_ (by kernel_rfl)) (pd_int) rfl) (ds_one (dp_ret (pd_callTy cd_list (gl_ (by kernel_rfl)) hm_list bb_list (pl_cons (pv_ (by kernel_rfl)) (pl_nil) rfl) (by decide) rfl rfl rfl))) (ds_nil)) <|
  ds_one (dp_ret (pd_bin od_add (pd_bin od_add (pd_slice (pv_ (by kernel_rfl)) (pdo_none) (pdo_some (pv_ (by kernel_rfl)))) (pd_tup (pl_cons (pd_callU c h_l_spoilt (Nat.le_refl _) (gl_ (by kernel_rfl)) (pl_cons (pv_ (by kernel_rfl)) (pl_cons (pd_ix (id_ix c.units1) (pv_ (by kernel_rfl)) (pv_ (by kernel_rfl)) (fun _ _ => rfl)) (pl_nil) rfl) rfl) rfl rfl rfl) (pl_nil) rfl))) (pd_slice (pv_ (by kernel_rfl)) (pdo_some (pd_bin od_add (pv_ (by kernel_rfl)) (pd_int))) (pdo_none))))
theorem c_l_spoilt {r_ : List D → M D} (hm_list : mg "list" = none) (hm_len : mg "len" = none) (hm_isinstance : mg "isinstance" = none) (hm_tuple : mg "tuple" = none) (h_l_spoilt : Cal P w K mg base k "_law_spoilt" 2 r_) (h_l_odd : Cal P w K mg base k "_law_odd" 1 l_odd) (h_l_draw : Cal P w K mg base k "_law_draw" 2 l_draw) (dn : Dn K mg "_law_spoilt" "_law_spoilt" (defArgs (top 47)) (defBody (top 47)) (defScope (top 47)) ["_law_source_here", "_law_value"]) : Cal P w K mg base (k + 1) "_law_spoilt" 2 (runDef 4 (l_spoilt_b r_)) :=
  dn.cal sc_l_spoilt rfl fun f cdv A outer s H E c => b_l_spoilt hm_list hm_len hm_isinstance hm_tuple h_l_spoilt h_l_odd h_l_draw c
abbrev N_p_law : List Str := ["_law_script", "_law_k", "_law_source_here", "_law_some", "_law_drag_here", "_law_value", "_law_turn", "_law_one"]
theorem nd_p_law : N_p_law.Nodup := by decide +kernel
theorem sc_p_law : FnScope N_p_law ["_law_script"] (defScope (top 49)) := ⟨rfl, rfl, rfl, nd_p_law, rfl, by decide +kernel, by decide +kernel⟩
theorem b_p_law {f : Addr} {cdv : Value} {A : Around} {outer : List PySem.Env} {s : Shared} {H : Hp} {E : XK} (hm_range : mg "range" = none) (hm_min : mg "min" = none) (hm_len : mg "len" = none) (hm_isinstance : mg "isinstance" = none) (hm_bool : mg "bool" = none) (h_p_is_drag : Cal P w K mg base k "is_drag" 1 p_is_drag) (h_p_is_condition : Cal P w K mg base k "is_condition" 1 p_is_condition) (h_l_pointer : Cal P w K mg base k "_law_pointer" 2 l_pointer) (h_l_spoilt : Cal P w K mg base k "_law_spoilt" 2 (l_spoilt fuelR)) (h_p_is_rule : Cal P w K mg base k "is_rule" 1 p_is_rule) (h_p_is_pointer : Cal P w K mg base k "is_pointer" 1 p_is_pointer) (h_l_is_int : Cal P w K mg base k "_law_is_int" 1 l_is_int) (h_l_is_drag : Cal P w K mg base k "_law_is_drag" 1 l_is_drag) (h_l_is_condition : Cal P w K mg base k "_law_is_condition" 1 l_is_condition) (h_l_is_rule : Cal P w K mg base k "_law_is_rule" 1 l_is_rule) (h_p_upside_down : Cal P w K mg base k "upside_down" 1 p_upside_down) (h_l_turned : Cal P w K mg base k "_law_turned" 1 l_turned) (h_p_comparisons : Cal P w K mg base k "comparisons" 1 p_comparisons) (h_l_parts : Cal P w K mg base k "_law_parts" 1 l_parts) (h_l_drag : Cal P w K mg base k "_law_drag" 2 l_drag) (h_l_rule : Cal P w K mg base k "_law_rule" 1 l_rule) (h_l_source : Cal P w K mg base k "_law_source" 2 l_source)
    (c : Cok (CF P w K mg base N_p_law "law" (defScope (top 49)) f cdv A outer s H E) E k) : PDSs (CF P w K mg base N_p_law "law" (defScope (top 49)) f cdv A outer s H E) E (defBody (top 49)) p_law_b :=
  ds_cons (dp_for own_cf rfl (di_range1 (gl_ (by kernel_rfl)) hm_range (pl_cons (pd_bin od_add (pd_int) (pd_callB (cd_min rfl) (gl_ (by kernel_rfl)) hm_min bb_min (pl_cons (pd_callB cd_len (gl_ (by kernel_rfl)) hm_len bb_len (pl_cons (pv_ (by kernel_rfl)) (pl_nil) rfl) (by decide) rfl rfl rfl) (pl_cons (pd_int) (pl_nil) rfl) rfl) (by decide) rfl rfl rfl)) (pl_nil) rfl) rfl) (dg_of (tg_name nd_p_law (by kernel_rfl) (.inl (by kernel_rfl)) (.inr (by kernel_rfl)))) (ds_cons (dp_set nd_p_law (by kernel_rfl) (.inl (by kernel_rfl)) (pd_callU c h_l_source (Nat.le_refl _) (gl_ (by kernel_rfl)) (pl_cons (pv_ (by kernel_rfl)) (pl_cons (pv_ (by kernel_rfl)) (pl_nil) rfl) rfl) rfl rfl rfl) rfl (.inl rfl)) <|
  ds_cons (dp_par2 rfl nd_p_law (by kernel_rfl) (by kernel_rfl) (by decide) (by kernel_rfl) (by kernel_rfl) (pl_cons (pd_callU c h_l_rule (Nat.le_refl _) (gl_ (by kernel_rfl)) (pl_cons (pv_ (by kernel_rfl)) (pl_nil) rfl) rfl rfl rfl) (pl_cons (pd_callU c h_l_drag (Nat.le_refl _) (gl_ (by kernel_rfl)) (pl_cons (pv_ (by kernel_rfl)) (pl_cons (pd_int) (pl_nil) rfl) rfl) rfl rfl rfl) (pl_nil) rfl) rfl) rfl rfl) <|
  ds_cons (dp_if (pb_cmp (od_ne c.units) (pd_callU c h_p_comparisons (Nat.le_refl _) (gl_ (by kernel_rfl)) (pl_cons (pv_ (by kernel_rfl)) (pl_nil) rfl) rfl rfl rfl) (pd_bin od_add (pd_callU c h_l_parts (Nat.le_refl _) (gl_ (by kernel_rfl)) (pl_cons (pd_ix (id_ix c.units1) (pv_ (by kernel_rfl)) (pd_int) (fun _ _ => rfl)) (pl_nil) rfl) rfl rfl rfl) (pd_callU c h_l_parts (Nat.le_refl _) (gl_ (by kernel_rfl)) (pl_cons (pd_ix (id_ix c.units1) (pv_ (by kernel_rfl)) (pd_int) (fun _ _ => rfl)) (pl_nil) rfl) rfl rfl rfl)) rfl) (ds_one (dp_ret (pd_bl))) (ds_nil)) <|
  ds_cons (dp_if (PW.pt (pwb_or (pb_cmp (od_ne c.units) (pd_callU c h_p_upside_down (Nat.le_refl _) (gl_ (by kernel_rfl)) (pl_cons (pv_ (by kernel_rfl)) (pl_nil) rfl) rfl rfl rfl) (pd_tup (pl_cons (pd_callU c h_l_turned (Nat.le_refl _) (gl_ (by kernel_rfl)) (pl_cons (pd_ix (id_ix c.units1) (pv_ (by kernel_rfl)) (pd_int) (fun _ _ => rfl)) (pl_nil) rfl) rfl rfl rfl) (pl_cons (pd_callU c h_l_turned (Nat.le_refl _) (gl_ (by kernel_rfl)) (pl_cons (pd_ix (id_ix c.units1) (pv_ (by kernel_rfl)) (pd_int) (fun _ _ => rfl)) (pl_nil) rfl) rfl rfl rfl) (pl_nil) rfl) rfl)) rfl) (pw_or1 (pb_cmp (od_ne c.units) (pd_callU c h_p_upside_down (Nat.le_refl _) (gl_ (by kernel_rfl)) (pl_cons (pd_callU c h_p_upside_down (Nat.le_refl _) (gl_ (by kernel_rfl)) (pl_cons (pv_ (by kernel_rfl)) (pl_nil) rfl) rfl rfl rfl) (pl_nil) rfl) rfl rfl rfl) (pv_ (by kernel_rfl)) rfl)))) (ds_one (dp_ret (pd_bl))) (ds_nil)) <|
  ds_one (dp_for own_cf rfl (di_val (pd_lst (pl_cons (pv_ (by kernel_rfl)) (pl_cons (pd_ix (id_ix c.units1) (pv_ (by kernel_rfl)) (pd_int) (fun _ _ => rfl)) (pl_cons (pv_ (by kernel_rfl)) (pl_cons (pd_callU c h_l_pointer (Nat.le_refl _) (gl_ (by kernel_rfl)) (pl_cons (pv_ (by kernel_rfl)) (pl_cons (pv_ (by kernel_rfl)) (pl_nil) rfl) rfl) rfl rfl rfl) (pl_nil) rfl) rfl) rfl) rfl))) (dg_of (tg_name nd_p_law (by kernel_rfl) (.inl (by kernel_rfl)) (.inr (by kernel_rfl)))) (ds_one (dp_for own_cf rfl (di_range1 (gl_ (by kernel_rfl)) hm_range (pl_cons (pd_int) (pl_nil) rfl) rfl) (dg_of (tg_name nd_p_law (by kernel_rfl) (.inl (by kernel_rfl)) (.inr (by kernel_rfl)))) (ds_cons (dp_if (PW.pt (pwb_or (pb_cmp (od_ne c.units) (pd_callU c h_p_is_rule (Nat.le_refl _) (gl_ (by kernel_rfl)) (pl_cons (pv_ (by kernel_rfl)) (pl_nil) rfl) rfl rfl rfl) (pd_callU c h_l_is_rule (Nat.le_refl _) (gl_ (by kernel_rfl)) (pl_cons (pv_ (by kernel_rfl)) (pl_nil) rfl) rfl rfl rfl) rfl) (pw_or1 (pb_cmp (od_ne c.units) (pd_callU c h_p_is_condition (Nat.le_refl _) (gl_ (by kernel_rfl)) (pl_cons (pv_ (by kernel_rfl)) (pl_nil) rfl) rfl rfl rfl) (pd_callU c h_l_is_condition (Nat.le_refl _) (gl_ (by kernel_rfl)) (pl_cons (pv_ (by kernel_rfl)) (pl_nil) rfl) rfl rfl rfl) rfl)))) (ds_one (dp_ret (pd_bl))) (ds_nil)) <|
  ds_cons (dp_if (PW.pt (pwb_or (pb_cmp (od_ne c.units) (pd_callU c h_p_is_drag (Nat.le_refl _) (gl_ (by kernel_rfl)) (pl_cons (pv_ (by kernel_rfl)) (pl_nil) rfl) rfl rfl rfl) (pd_callU c h_l_is_drag (Nat.le_refl _) (gl_ (by kernel_rfl)) (pl_cons (pv_ (by kernel_rfl)) (pl_nil) rfl) rfl rfl rfl) rfl) (pw_or1 (pb_cmp (od_ne c.units) (pd_callU c h_p_is_pointer (Nat.le_refl _) (gl_ (by kernel_rfl)) (pl_cons (pv_ (by kernel_rfl)) (pl_nil) rfl) rfl rfl rfl) (pd_callU c h_l_is_int (Nat.le_refl _) (gl_ (by kernel_rfl)) (pl_cons (pv_ (by kernel_rfl)) (pl_nil) rfl) rfl rfl rfl) rfl)))) (ds_one (dp_ret (pd_bl))) (ds_nil)) <|
  ds_cons (dp_if (PW.pt (pwb_or (pb_not (pb_val (pd_isi (gl_ (by kernel_rfl)) hm_isinstance bb_isinstance (gl_ (by kernel_rfl)) hm_bool bb_bool (pd_callU c h_p_is_rule (Nat.le_refl _) (gl_ (by kernel_rfl)) (pl_cons (pv_ (by kernel_rfl)) (pl_nil) rfl) rfl rfl rfl) (by decide) rfl (by decide) rfl (fun _ => rfl)) (fun _ => rfl))) (pw_or1 (pb_not (pb_val (pd_isi (gl_ (by kernel_rfl)) hm_isinstance bb_isinstance (gl_ (by kernel_rfl)) hm_bool bb_bool (pd_callU c h_p_is_drag (Nat.le_refl _) (gl_ (by kernel_rfl)) (pl_cons (pv_ (by kernel_rfl)) (pl_nil) rfl) rfl rfl rfl) (by decide) rfl (by decide) rfl (fun _ => rfl)) (fun _ => rfl)))))) (ds_one (dp_ret (pd_bl))) (ds_nil)) <|
  ds_one (dp_set nd_p_law (by kernel_rfl) (.inl (by kernel_rfl)) (pd_callU c h_l_spoilt (Nat.le_refl _) (gl_ (by kernel_rfl)) (pl_cons (pv_ (by kernel_rfl)) (pl_cons (pv_ (by kernel_rfl)) (pl_nil) rfl) rfl) rfl rfl rfl) rfl (.inl rfl))) (fun _ => rfl))) (fun _ => rfl))) (fun _ => rfl)) <|
  ds_cons (dp_set nd_p_law (by kernel_rfl) (.inl (by kernel_rfl)) (pd_tup (pl_cons (pd_str) (pl_cons (pd_tup (pl_cons (pd_str) (pl_nil) rfl)) (pl_cons (pd_tup (pl_cons (pd_str) (pl_cons (pd_int) (pl_nil) rfl) rfl)) (pl_nil) rfl) rfl) rfl)) rfl (.inl rfl)) <|
  ds_cons (dp_set nd_p_law (by kernel_rfl) (.inl (by kernel_rfl)) (pd_lst (pl_cons (pv_ (by kernel_rfl)) (pl_cons (pd_tup (pl_cons (pd_str) (pl_cons (pv_ (by kernel_rfl)) (pl_cons (pv_ (by kernel_rfl)) (pl_nil) rfl) rfl) rfl)) (pl_cons (pd_tup (pl_cons (pd_str) (pl_cons (pv_ (by kernel_rfl)) (pl_cons (pv_ (by kernel_rfl)) (pl_cons (pv_ (by kernel_rfl)) (pl_nil) rfl) rfl) rfl) rfl)) (pl_cons (pd_tup (pl_cons (pd_str) (pl_cons (pv_ (by kernel_rfl)) (pl_cons (pv_ (by kernel_rfl)) (pl_cons (pv_ (by kernel_rfl)) (pl_cons (pv_ (by kernel_rfl)) (pl_nil) rfl) rfl) rfl) rfl) rfl)) (pl_cons (pd_tup (pl_cons (pd_str) (pl_cons (pv_ (by kernel_rfl)) (pl_nil) rfl) rfl)) (pl_nil) rfl) rfl) rfl) rfl) rfl)) rfl (.inl rfl)) <|
  ds_cons (dp_if (pb_cmp (od_ne c.units) (pd_lc (own := [(("_law_value" : Str), 5)]) (t := .nm 5) rfl nd_p_law (di_val (pd_bin od_add (pv_ (by kernel_rfl)) (pd_lst (pl_cons (pd_tup (pl_cons (pd_str) (pl_cons (pd_tup (pl_cons (pd_str) (pl_cons (pv_ (by kernel_rfl)) (pl_cons (pv_ (by kernel_rfl)) (pl_nil) rfl) rfl) rfl)) (pl_cons (pv_ (by kernel_rfl)) (pl_nil) rfl) rfl) rfl)) (pl_nil) rfl)))) (blkOk_by (by kernel_rfl)) (fun _ _ _ _ _ => tg_name nd_p_law (by kernel_rfl) (.inl (by kernel_rfl)) (.inr (by kernel_rfl))) (fun _ _ _ _ _ => pts_nilD) (fun _ _ _ _ _ => pd_callU c.blk h_p_is_condition (Nat.le_refl _) (gl_ (by kernel_rfl)) (pl_cons (pv_ (by kernel_rfl)) (pl_nil) rfl) rfl rfl rfl) (fun _ => rfl) (by decide)) (pd_bin od_add (pd_bin od_mul (pd_lst (pl_cons (pd_bl) (pl_nil) rfl)) (pd_int)) (pd_bin od_mul (pd_lst (pl_cons (pd_bl) (pl_nil) rfl)) (pd_int))) rfl) (ds_one (dp_ret (pd_bl))) (ds_nil)) <|
  ds_one (dp_ret (pd_and (pd_callU c h_p_is_drag (Nat.le_refl _) (gl_ (by kernel_rfl)) (pl_cons (pd_tup (pl_cons (pd_bin od_mul (pd_tup (pl_cons (pd_bin od_pow (pd_int) (pd_int)) (pl_nil) rfl)) (pd_int)) (pl_cons (pd_int) (pl_cons (pd_bin od_pow (pd_int) (pd_int)) (pl_nil) rfl) rfl) rfl)) (pl_nil) rfl) rfl rfl rfl) (pd_and (pd_not (pd_callU c h_p_is_drag (Nat.le_refl _) (gl_ (by kernel_rfl)) (pl_cons (pd_tup (pl_cons (pd_bin od_mul (pd_tup (pl_cons (pd_int) (pl_nil) rfl)) (pd_int)) (pl_cons (pd_int) (pl_cons (pd_int) (pl_nil) rfl) rfl) rfl)) (pl_nil) rfl) rfl rfl rfl)) (pe_one (pd_not (pd_callU c h_p_is_drag (Nat.le_refl _) (gl_ (by kernel_rfl)) (pl_cons (pd_tup (pl_cons (pd_tup (pl_cons (pd_int) (pl_cons (pd_int) (pl_nil) rfl) rfl)) (pl_cons (pd_int) (pl_cons (pd_int) (pl_nil) rfl) rfl) rfl)) (pl_nil) rfl) rfl rfl rfl))))))
theorem c_p_law (hm_range : mg "range" = none) (hm_min : mg "min" = none) (hm_len : mg "len" = none) (hm_isinstance : mg "isinstance" = none) (hm_bool : mg "bool" = none) (h_p_is_drag : Cal P w K mg base k "is_drag" 1 p_is_drag) (h_p_is_condition : Cal P w K mg base k "is_condition" 1 p_is_condition) (h_l_pointer : Cal P w K mg base k "_law_pointer" 2 l_pointer) (h_l_spoilt : Cal P w K mg base k "_law_spoilt" 2 (l_spoilt fuelR)) (h_p_is_rule : Cal P w K mg base k "is_rule" 1 p_is_rule) (h_p_is_pointer : Cal P w K mg base k "is_pointer" 1 p_is_pointer) (h_l_is_int : Cal P w K mg base k "_law_is_int" 1 l_is_int) (h_l_is_drag : Cal P w K mg base k "_law_is_drag" 1 l_is_drag) (h_l_is_condition : Cal P w K mg base k "_law_is_condition" 1 l_is_condition) (h_l_is_rule : Cal P w K mg base k "_law_is_rule" 1 l_is_rule) (h_p_upside_down : Cal P w K mg base k "upside_down" 1 p_upside_down) (h_l_turned : Cal P w K mg base k "_law_turned" 1 l_turned) (h_p_comparisons : Cal P w K mg base k "comparisons" 1 p_comparisons) (h_l_parts : Cal P w K mg base k "_law_parts" 1 l_parts) (h_l_drag : Cal P w K mg base k "_law_drag" 2 l_drag) (h_l_rule : Cal P w K mg base k "_law_rule" 1 l_rule) (h_l_source : Cal P w K mg base k "_law_source" 2 l_source) (dn : Dn K mg "law" "law" (defArgs (top 49)) (defBody (top 49)) (defScope (top 49)) ["_law_script"]) : Cal P w K mg base (k + 1) "law" 1 (runDef 8 p_law_b) :=
  dn.cal sc_p_law rfl fun f cdv A outer s H E c => b_p_law hm_range hm_min hm_len hm_isinstance hm_bool h_p_is_drag h_p_is_condition h_l_pointer h_l_spoilt h_p_is_rule h_p_is_pointer h_l_is_int h_l_is_drag h_l_is_condition h_l_is_rule h_p_upside_down h_l_turned h_p_comparisons h_l_parts h_l_drag h_l_rule h_l_source c
end
/-! ### the head -/
def fnD : List He.DefD := ([⟨("_law_source", none), "_law_source", "_law_source", defArgs (top 29), defBody (top 29), defScope (top 29), [], []⟩, ⟨("_law_draw", none), "_law_draw", "_law_draw", defArgs (top 30), defBody (top 30), defScope (top 30), [], []⟩, ⟨("_law_of", none), "_law_of", "_law_of", defArgs (top 31), defBody (top 31), defScope (top 31), [], []⟩, ⟨("_law_known", none), "_law_known", "_law_known", defArgs (top 35), defBody (top 35), defScope (top 35), [], []⟩, ⟨("_law_point", none), "_law_point", "_law_point", defArgs (top 32), defBody (top 32), defScope (top 32), [], []⟩, ⟨("_law_comparison", none), "_law_comparison", "_law_comparison", defArgs (top 33), defBody (top 33), defScope (top 33), [], []⟩, ⟨("_law_condition", none), "_law_condition", "_law_condition", defArgs (top 34), defBody (top 34), defScope (top 34), [], []⟩, ⟨("_law_rule", none), "_law_rule", "_law_rule", defArgs (top 36), defBody (top 36), defScope (top 36), [], []⟩, ⟨("_law_drag", none), "_law_drag", "_law_drag", defArgs (top 37), defBody (top 37), defScope (top 37), [], []⟩, ⟨("is_among", none), "is_among", "is_among", defArgs (top 8), defBody (top 8), defScope (top 8), [], []⟩, ⟨("is_number", none), "is_number", "is_number", defArgs (top 7), defBody (top 7), defScope (top 7), [], []⟩, ⟨("is_point", none), "is_point", "is_point", defArgs (top 9), defBody (top 9), defScope (top 9), [], []⟩] : List He.DefD) ++ ([⟨("is_comparison", none), "is_comparison", "is_comparison", defArgs (top 10), defBody (top 10), defScope (top 10), [], []⟩, ⟨("is_good_condition", none), "is_good_condition", "is_good_condition", defArgs (top 11), defBody (top 11), defScope (top 11), [], []⟩, ⟨("is_good_rule", none), "is_good_rule", "is_good_rule", defArgs (top 12), defBody (top 12), defScope (top 12), [], []⟩, ⟨("need_rule", none), "need_rule", "need_rule", defArgs (top 14), defBody (top 14), defScope (top 14), [], []⟩, ⟨("parts_of", none), "parts_of", "parts_of", defArgs (top 15), defBody (top 15), defScope (top 15), [], []⟩, ⟨("all_comparisons", none), "all_comparisons", "all_comparisons", defArgs (top 16), defBody (top 16), defScope (top 16), [], []⟩, ⟨("comparisons", none), "comparisons", "comparisons", defArgs (top 26), defBody (top 26), defScope (top 26), [], []⟩, ⟨("_law_parts", none), "_law_parts", "_law_parts", defArgs (top 39), defBody (top 39), defScope (top 39), [], []⟩, ⟨("turned_point", none), "turned_point", "turned_point", defArgs (top 19), defBody (top 19), defScope (top 19), [], []⟩, ⟨("joined", none), "joined", "joined", defArgs (top 17), defBody (top 17), defScope (top 17), [], []⟩, ⟨("joint_of", none), "joint_of", "joint_of", defArgs (top 18), defBody (top 18), defScope (top 18), [], []⟩, ⟨("turned_condition", none), "turned_condition", "turned_condition", defArgs (top 20), defBody (top 20), defScope (top 20), [], []⟩] : List He.DefD) ++ ([⟨("turned_rule", none), "turned_rule", "turned_rule", defArgs (top 21), defBody (top 21), defScope (top 21), [], []⟩, ⟨("upside_down", none), "upside_down", "upside_down", defArgs (top 27), defBody (top 27), defScope (top 27), [], []⟩, ⟨("_law_turned", none), "_law_turned", "_law_turned", defArgs (top 48), defBody (top 48), defScope (top 48), [], []⟩, ⟨("_law_pointer", none), "_law_pointer", "_law_pointer", defArgs (top 38), defBody (top 38), defScope (top 38), [], []⟩, ⟨("is_rule", none), "is_rule", "is_rule", defArgs (top 23), defBody (top 23), defScope (top 23), [], []⟩, ⟨("_law_is_int", none), "_law_is_int", "_law_is_int", defArgs (top 40), defBody (top 40), defScope (top 40), [], []⟩, ⟨("_law_is_point", none), "_law_is_point", "_law_is_point", defArgs (top 41), defBody (top 41), defScope (top 41), [], []⟩, ⟨("_law_is_comparison", none), "_law_is_comparison", "_law_is_comparison", defArgs (top 42), defBody (top 42), defScope (top 42), [], []⟩, ⟨("_law_is_condition", none), "_law_is_condition", "_law_is_condition", defArgs (top 43), defBody (top 43), defScope (top 43), [], []⟩, ⟨("_law_is_rule", none), "_law_is_rule", "_law_is_rule", defArgs (top 44), defBody (top 44), defScope (top 44), [], []⟩, ⟨("is_condition", none), "is_condition", "is_condition", defArgs (top 22), defBody (top 22), defScope (top 22), [], []⟩, ⟨("is_good_drag", none), "is_good_drag", "is_good_drag", defArgs (top 13), defBody (top 13), defScope (top 13), [], []⟩] : List He.DefD) ++ ([⟨("is_drag", none), "is_drag", "is_drag", defArgs (top 24), defBody (top 24), defScope (top 24), [], []⟩, ⟨("_law_is_drag", none), "_law_is_drag", "_law_is_drag", defArgs (top 45), defBody (top 45), defScope (top 45), [], []⟩, ⟨("is_pointer", none), "is_pointer", "is_pointer", defArgs (top 25), defBody (top 25), defScope (top 25), [], []⟩, ⟨("_law_odd", none), "_law_odd", "_law_odd", defArgs (top 46), defBody (top 46), defScope (top 46), [], []⟩, ⟨("_law_spoilt", none), "_law_spoilt", "_law_spoilt", defArgs (top 47), defBody (top 47), defScope (top 47), [], []⟩, ⟨("law", none), "law", "law", defArgs (top 49), defBody (top 49), defScope (top 49), [], []⟩] : List He.DefD)
def faD : List He.Fa := ([.glo "_law_source", .glo "_law_draw", .glo "_law_of", .glo "_law_known", .glo "_law_point", .glo "_law_comparison", .glo "_law_condition", .glo "_law_rule", .glo "_law_drag", .glo "is_among", .glo "is_number", .glo "is_point"] : List He.Fa) ++ ([.glo "is_comparison", .glo "is_good_condition", .glo "is_good_rule", .glo "need_rule", .glo "parts_of", .glo "all_comparisons", .glo "comparisons", .glo "_law_parts", .glo "turned_point", .glo "joined", .glo "joint_of", .glo "turned_condition"] : List He.Fa) ++ ([.glo "turned_rule", .glo "upside_down", .glo "_law_turned", .glo "_law_pointer", .glo "is_rule", .glo "_law_is_int", .glo "_law_is_point", .glo "_law_is_comparison", .glo "_law_is_condition", .glo "_law_is_rule", .glo "is_condition", .glo "is_good_drag"] : List He.Fa) ++ ([.glo "is_drag", .glo "_law_is_drag", .glo "is_pointer", .glo "_law_odd", .glo "_law_spoilt", .glo "law", .free "int", .free "len", .free "abs", .free "tuple", .free "range", .free "isinstance"] : List He.Fa) ++ ([.free "str", .free "bool", .free "list", .free "all", .free "dict", .free "sum", .free "min", .glo "THINGS", .glo "TURNED", .glo "JOINTS"] : List He.Fa)
def tabD : List He.Tab := [(fun K => He.ga K "TURNED", ["below", "above", "not below", "not above"])]
def testD : List (Frag → Bool) := [fun K => He.tupB K "THINGS" ((["held", "place", "next"] : List Str).map He.Dv.str), fun K => valsD K (He.ga K "TURNED") ((["above", "below", "not above", "not below"] : List Str).map V.str), fun K => He.tupB K "JOINTS" ((["and", "or"] : List Str).map He.Dv.str)]
def looseD : List Str := (["DragError", "InvalidRule", "THINGS", "TURNED", "JOINTS", "is_number", "is_among", "is_point", "is_comparison", "is_good_condition", "is_good_rule", "is_good_drag"] : List Str) ++ (["need_rule", "parts_of", "all_comparisons", "joined", "joint_of", "turned_point", "turned_condition", "turned_rule", "is_condition", "is_rule", "is_drag", "is_pointer"] : List Str) ++ (["comparisons", "upside_down", "_law_source", "_law_draw", "_law_of", "_law_point", "_law_comparison", "_law_condition", "_law_known", "_law_rule", "_law_drag", "_law_pointer"] : List Str) ++ (["_law_parts", "_law_is_int", "_law_is_point", "_law_is_comparison", "_law_is_condition", "_law_is_rule", "_law_is_drag", "_law_odd", "_law_spoilt", "_law_turned"] : List Str)
abbrev R : PySem.W.OpenRow := PySem.W.OpenLaw.row PySem.Challenge.rw_dragswaps_k01_values_recognized
abbrev hk : PySem.W.Hook := hookM 4 faD fnD tabD testD
def ob (s : PySem.W.SharedT) : AlM := obsMG 4 faD fnD tabD testD (HandSHeadRun.getT s)
theorem ob_eq (s : PySem.W.SharedT) : ob s = hk.obs s.abs := obsMG_eq (HandSHeadRun.getT_eq s)
theorem runs (w : World) : HandSHeadRun.RunEq R (PySem.W.view R.prog [49]) hk ob 20000 looseD w :=
  PySem.W.byRow2 "special-get-raises" (P := fun w => HandSHeadRun.RunEq R (PySem.W.view R.prog [49]) hk ob 20000 looseD w) (fun w os => by kernel_rfl) (fun w os => by kernel_rfl) w
theorem facts {w : World} {K : Frag} {h : Heap} {mg : Str → Option Value} (X : K.In h) (G : h.Ns mainGlobals mg) (c : SaysM faD fnD tabD testD w K) {fa : Addr} (hmg : mg "law" = some (.ref fa)) :
    ∃ fd : FuncData, (∀ (s : Shared) (u : Value), BindsTo s fd ⟨[u], []⟩ [("_law_script", u)]) ∧ ∀ base : Heap, K.In base → base.Ns mainGlobals mg → FnOk pw w K mg base (L2.CX pw w) 74 fa fd ["_law_script"] (spD K 1 p_law) := by
  obtain ⟨fd, F⟩ := c.d.def_ 41 (d := ⟨("law", none), "law", "law", defArgs (top 49), defBody (top 49), defScope (top 49), [], []⟩) rfl
  have e := hmg.symm.trans (He.glo_ok X G (c.fact 41 (f := .glo "law") rfl))
  cases e
  have b := FunD.bindsA (ps := ["_law_script"]) F fun _ _ _ _ _ _ us hl => match us, hl with | [_], _ => rfl
  refine ⟨fd, fun s v => b s [v] rfl, fun base _ _ => ?_⟩
  let P := pw
  have hm_int : mg "int" = none := He.free_ok X G (c.fact 42 rfl)
  have hm_len : mg "len" = none := He.free_ok X G (c.fact 43 rfl)
  have hm_abs : mg "abs" = none := He.free_ok X G (c.fact 44 rfl)
  have hm_tuple : mg "tuple" = none := He.free_ok X G (c.fact 45 rfl)
  have hm_range : mg "range" = none := He.free_ok X G (c.fact 46 rfl)
  have hm_isinstance : mg "isinstance" = none := He.free_ok X G (c.fact 47 rfl)
  have hm_str : mg "str" = none := He.free_ok X G (c.fact 48 rfl)
  have hm_bool : mg "bool" = none := He.free_ok X G (c.fact 49 rfl)
  have hm_list : mg "list" = none := He.free_ok X G (c.fact 50 rfl)
  have hm_all : mg "all" = none := He.free_ok X G (c.fact 51 rfl)
  have hm_dict : mg "dict" = none := He.free_ok X G (c.fact 52 rfl)
  have hm_sum : mg "sum" = none := He.free_ok X G (c.fact 53 rfl)
  have hm_min : mg "min" = none := He.free_ok X G (c.fact 54 rfl)
  have gc_THINGS : GCon K mg "THINGS" g_THINGS := gcon_tup (zs := ["held", "place", "next"]) X G (c.fact 55 rfl) (c.test 0 rfl)
  have gc_TURNED : KDs P w K mg "TURNED" g_TURNED := kds_of (ks := ["below", "above", "not below", "not above"]) (zs := ["above", "below", "not above", "not below"]) X G (c.fact 56 rfl) (c.keys 0 rfl) (c.test 1 rfl) (by decide +kernel) (by decide +kernel)
  have gc_JOINTS : GCon K mg "JOINTS" g_JOINTS := gcon_tup (zs := ["and", "or"]) X G (c.fact 57 rfl) (c.test 2 rfl)
  have dn_l_source := dn_of (ps := ["_law_script", "_law_k"]) X G c.d 0 rfl (c.fact 0 rfl) (fun _ _ _ _ _ _ us hl => match us, hl with | [_, _], _ => rfl)
  have h_l_source : Cal P w K mg base 1 "_law_source" 2 l_source := c_l_source (k := 0) hm_int hm_len hm_abs  dn_l_source
  have dn_l_draw := dn_of (ps := ["_law_source_here", "_law_many"]) X G c.d 1 rfl (c.fact 1 rfl) (fun _ _ _ _ _ _ us hl => match us, hl with | [_, _], _ => rfl)
  have h_l_draw : Cal P w K mg base 1 "_law_draw" 2 l_draw := c_l_draw (k := 0) hm_int  dn_l_draw
  have dn_l_of := dn_of (ps := ["_law_source_here", "_law_items"]) X G c.d 2 rfl (c.fact 2 rfl) (fun _ _ _ _ _ _ us hl => match us, hl with | [_, _], _ => rfl)
  have h_l_of : Cal P w K mg base 2 "_law_of" 2 l_of := c_l_of (k := 1) hm_len (h_l_draw.mono (by decide)) dn_l_of
  have dn_l_known := dn_of (ps := ["_law_source_here"]) X G c.d 3 rfl (c.fact 3 rfl) (fun _ _ _ _ _ _ us hl => match us, hl with | [_], _ => rfl)
  have h_l_known : Cal P w K mg base 3 "_law_known" 1 l_known := c_l_known (k := 2) (h_l_draw.mono (by decide)) (h_l_of.mono (by decide)) dn_l_known
  have dn_l_point := dn_of (ps := ["_law_source_here"]) X G c.d 4 rfl (c.fact 4 rfl) (fun _ _ _ _ _ _ us hl => match us, hl with | [_], _ => rfl)
  have h_l_point : Cal P w K mg base 3 "_law_point" 1 l_point := c_l_point (k := 2) (h_l_of.mono (by decide)) (h_l_draw.mono (by decide)) dn_l_point
  have dn_l_comparison := dn_of (ps := ["_law_source_here"]) X G c.d 5 rfl (c.fact 5 rfl) (fun _ _ _ _ _ _ us hl => match us, hl with | [_], _ => rfl)
  have h_l_comparison : Cal P w K mg base 4 "_law_comparison" 1 l_comparison := c_l_comparison (k := 3) (h_l_point.mono (by decide)) (h_l_of.mono (by decide)) dn_l_comparison
  have dn_l_condition := dn_of (ps := ["_law_source_here"]) X G c.d 6 rfl (c.fact 6 rfl) (fun _ _ _ _ _ _ us hl => match us, hl with | [_], _ => rfl)
  have h_l_condition : Cal P w K mg base 5 "_law_condition" 1 l_condition := c_l_condition (k := 4) hm_tuple hm_range (h_l_of.mono (by decide)) (h_l_comparison.mono (by decide)) dn_l_condition
  have dn_l_rule := dn_of (ps := ["_law_source_here"]) X G c.d 7 rfl (c.fact 7 rfl) (fun _ _ _ _ _ _ us hl => match us, hl with | [_], _ => rfl)
  have h_l_rule : Cal P w K mg base 6 "_law_rule" 1 l_rule := c_l_rule (k := 5) (h_l_condition.mono (by decide)) (h_l_known.mono (by decide)) (h_l_draw.mono (by decide)) dn_l_rule
  have dn_l_drag := dn_of (ps := ["_law_source_here", "_law_most"]) X G c.d 8 rfl (c.fact 8 rfl) (fun _ _ _ _ _ _ us hl => match us, hl with | [_, _], _ => rfl)
  have h_l_drag : Cal P w K mg base 3 "_law_drag" 2 l_drag := c_l_drag (k := 2) hm_len hm_tuple hm_range (h_l_of.mono (by decide)) (h_l_draw.mono (by decide)) dn_l_drag
  have dn_p_is_among := dn_of (ps := ["words", "value"]) X G c.d 9 rfl (c.fact 9 rfl) (fun _ _ _ _ _ _ us hl => match us, hl with | [_, _], _ => rfl)
  have h_p_is_among : Cal P w K mg base 1 "is_among" 2 p_is_among := c_p_is_among (k := 0) hm_isinstance hm_str  dn_p_is_among
  have dn_p_is_number := dn_of (ps := ["value"]) X G c.d 10 rfl (c.fact 10 rfl) (fun _ _ _ _ _ _ us hl => match us, hl with | [_], _ => rfl)
  have h_p_is_number : Cal P w K mg base 1 "is_number" 1 p_is_number := c_p_is_number (k := 0) hm_isinstance hm_bool hm_int  dn_p_is_number
  have dn_p_is_point := dn_of (ps := ["value"]) X G c.d 11 rfl (c.fact 11 rfl) (fun _ _ _ _ _ _ us hl => match us, hl with | [_], _ => rfl)
  have h_p_is_point : Cal P w K mg base 2 "is_point" 1 p_is_point := c_p_is_point (k := 1) hm_len hm_isinstance hm_tuple gc_THINGS (h_p_is_number.mono (by decide)) (h_p_is_among.mono (by decide)) dn_p_is_point
  have dn_p_is_comparison := dn_of (ps := ["value"]) X G c.d 12 rfl (c.fact 12 rfl) (fun _ _ _ _ _ _ us hl => match us, hl with | [_], _ => rfl)
  have h_p_is_comparison : Cal P w K mg base 3 "is_comparison" 1 p_is_comparison := c_p_is_comparison (k := 2) hm_list hm_len hm_isinstance hm_tuple gc_TURNED (h_p_is_point.mono (by decide)) (h_p_is_among.mono (by decide)) dn_p_is_comparison
  have dn_p_is_good_condition := dn_of (ps := ["value"]) X G c.d 13 rfl (c.fact 13 rfl) (fun _ _ _ _ _ _ us hl => match us, hl with | [_], _ => rfl)
  have h_p_is_good_condition : Cal P w K mg base 4 "is_good_condition" 1 p_is_good_condition := c_p_is_good_condition (k := 3) hm_all hm_len hm_isinstance hm_tuple gc_JOINTS (h_p_is_comparison.mono (by decide)) (h_p_is_among.mono (by decide)) dn_p_is_good_condition
  have dn_p_is_good_rule := dn_of (ps := ["value"]) X G c.d 14 rfl (c.fact 14 rfl) (fun _ _ _ _ _ _ us hl => match us, hl with | [_], _ => rfl)
  have h_p_is_good_rule : Cal P w K mg base 5 "is_good_rule" 1 p_is_good_rule := c_p_is_good_rule (k := 4) hm_all hm_len hm_isinstance hm_tuple (h_p_is_good_condition.mono (by decide)) dn_p_is_good_rule
  have dn_p_need_rule := dn_of (ps := ["value"]) X G c.d 15 rfl (c.fact 15 rfl) (fun _ _ _ _ _ _ us hl => match us, hl with | [_], _ => rfl)
  have h_p_need_rule : Cal P w K mg base 6 "need_rule" 1 p_need_rule := c_p_need_rule (k := 5) (h_p_is_good_rule.mono (by decide)) dn_p_need_rule
  have dn_p_parts_of := dn_of (ps := ["condition"]) X G c.d 16 rfl (c.fact 16 rfl) (fun _ _ _ _ _ _ us hl => match us, hl with | [_], _ => rfl)
  have h_p_parts_of : Cal P w K mg base 1 "parts_of" 1 p_parts_of := c_p_parts_of (k := 0) hm_list gc_JOINTS  dn_p_parts_of
  have dn_p_all_comparisons := dn_of (ps := ["rule"]) X G c.d 17 rfl (c.fact 17 rfl) (fun _ _ _ _ _ _ us hl => match us, hl with | [_], _ => rfl)
  have h_p_all_comparisons : Cal P w K mg base 2 "all_comparisons" 1 p_all_comparisons := c_p_all_comparisons (k := 1) (h_p_parts_of.mono (by decide)) dn_p_all_comparisons
  have dn_p_comparisons := dn_of (ps := ["rule"]) X G c.d 18 rfl (c.fact 18 rfl) (fun _ _ _ _ _ _ us hl => match us, hl with | [_], _ => rfl)
  have h_p_comparisons : Cal P w K mg base 7 "comparisons" 1 p_comparisons := c_p_comparisons (k := 6) (h_p_all_comparisons.mono (by decide)) (h_p_need_rule.mono (by decide)) dn_p_comparisons
  have dn_l_parts := dn_of (ps := ["_law_condition_here"]) X G c.d 19 rfl (c.fact 19 rfl) (fun _ _ _ _ _ _ us hl => match us, hl with | [_], _ => rfl)
  have h_l_parts : Cal P w K mg base 1 "_law_parts" 1 l_parts := c_l_parts (k := 0) hm_list  dn_l_parts
  have dn_p_turned_point := dn_of (ps := ["point"]) X G c.d 20 rfl (c.fact 20 rfl) (fun _ _ _ _ _ _ us hl => match us, hl with | [_], _ => rfl)
  have h_p_turned_point : Cal P w K mg base 1 "turned_point" 1 p_turned_point := c_p_turned_point (k := 0) hm_len  dn_p_turned_point
  have dn_p_joined := dn_of (ps := ["joint", "parts"]) X G c.d 21 rfl (c.fact 21 rfl) (fun _ _ _ _ _ _ us hl => match us, hl with | [_, _], _ => rfl)
  have h_p_joined : Cal P w K mg base 1 "joined" 2 p_joined := c_p_joined (k := 0) hm_len hm_tuple  dn_p_joined
  have dn_p_joint_of := dn_of (ps := ["condition"]) X G c.d 22 rfl (c.fact 22 rfl) (fun _ _ _ _ _ _ us hl => match us, hl with | [_], _ => rfl)
  have h_p_joint_of : Cal P w K mg base 1 "joint_of" 1 p_joint_of := c_p_joint_of (k := 0) gc_JOINTS  dn_p_joint_of
  have dn_p_turned_condition := dn_of (ps := ["condition"]) X G c.d 23 rfl (c.fact 23 rfl) (fun _ _ _ _ _ _ us hl => match us, hl with | [_], _ => rfl)
  have h_p_turned_condition : Cal P w K mg base 2 "turned_condition" 1 p_turned_condition := c_p_turned_condition (k := 1) hm_dict gc_TURNED (h_p_joined.mono (by decide)) (h_p_joint_of.mono (by decide)) (h_p_parts_of.mono (by decide)) (h_p_turned_point.mono (by decide)) dn_p_turned_condition
  have dn_p_turned_rule := dn_of (ps := ["rule"]) X G c.d 24 rfl (c.fact 24 rfl) (fun _ _ _ _ _ _ us hl => match us, hl with | [_], _ => rfl)
  have h_p_turned_rule : Cal P w K mg base 3 "turned_rule" 1 p_turned_rule := c_p_turned_rule (k := 2) (h_p_turned_condition.mono (by decide)) dn_p_turned_rule
  have dn_p_upside_down := dn_of (ps := ["rule"]) X G c.d 25 rfl (c.fact 25 rfl) (fun _ _ _ _ _ _ us hl => match us, hl with | [_], _ => rfl)
  have h_p_upside_down : Cal P w K mg base 7 "upside_down" 1 p_upside_down := c_p_upside_down (k := 6) (h_p_turned_rule.mono (by decide)) (h_p_need_rule.mono (by decide)) dn_p_upside_down
  have dn_l_turned := dn_of (ps := ["_law_condition_here"]) X G c.d 26 rfl (c.fact 26 rfl) (fun _ _ _ _ _ _ us hl => match us, hl with | [_], _ => rfl)
  have h_l_turned : Cal P w K mg base 2 "_law_turned" 1 l_turned := c_l_turned (k := 1) hm_tuple (h_l_parts.mono (by decide)) dn_l_turned
  have dn_l_pointer := dn_of (ps := ["_law_source_here", "_law_drag_here"]) X G c.d 27 rfl (c.fact 27 rfl) (fun _ _ _ _ _ _ us hl => match us, hl with | [_, _], _ => rfl)
  have h_l_pointer : Cal P w K mg base 3 "_law_pointer" 2 l_pointer := c_l_pointer (k := 2) hm_sum (h_l_of.mono (by decide)) (h_l_draw.mono (by decide)) dn_l_pointer
  have dn_p_is_rule := dn_of (ps := ["value"]) X G c.d 28 rfl (c.fact 28 rfl) (fun _ _ _ _ _ _ us hl => match us, hl with | [_], _ => rfl)
  have h_p_is_rule : Cal P w K mg base 6 "is_rule" 1 p_is_rule := c_p_is_rule (k := 5) (h_p_is_good_rule.mono (by decide)) dn_p_is_rule
  have dn_l_is_int := dn_of (ps := ["_law_value"]) X G c.d 29 rfl (c.fact 29 rfl) (fun _ _ _ _ _ _ us hl => match us, hl with | [_], _ => rfl)
  have h_l_is_int : Cal P w K mg base 1 "_law_is_int" 1 l_is_int := c_l_is_int (k := 0) hm_isinstance hm_bool hm_int  dn_l_is_int
  have dn_l_is_point := dn_of (ps := ["_law_value"]) X G c.d 30 rfl (c.fact 30 rfl) (fun _ _ _ _ _ _ us hl => match us, hl with | [_], _ => rfl)
  have h_l_is_point : Cal P w K mg base 2 "_law_is_point" 1 l_is_point := c_l_is_point (k := 1) hm_len hm_isinstance hm_str hm_tuple (h_l_is_int.mono (by decide)) dn_l_is_point
  have dn_l_is_comparison := dn_of (ps := ["_law_value"]) X G c.d 31 rfl (c.fact 31 rfl) (fun _ _ _ _ _ _ us hl => match us, hl with | [_], _ => rfl)
  have h_l_is_comparison : Cal P w K mg base 3 "_law_is_comparison" 1 l_is_comparison := c_l_is_comparison (k := 2) hm_isinstance hm_str hm_len hm_tuple (h_l_is_point.mono (by decide)) dn_l_is_comparison
  have dn_l_is_condition := dn_of (ps := ["_law_value"]) X G c.d 32 rfl (c.fact 32 rfl) (fun _ _ _ _ _ _ us hl => match us, hl with | [_], _ => rfl)
  have h_l_is_condition : Cal P w K mg base 4 "_law_is_condition" 1 l_is_condition := c_l_is_condition (k := 3) hm_len hm_isinstance hm_tuple (h_l_is_comparison.mono (by decide)) dn_l_is_condition
  have dn_l_is_rule := dn_of (ps := ["_law_value"]) X G c.d 33 rfl (c.fact 33 rfl) (fun _ _ _ _ _ _ us hl => match us, hl with | [_], _ => rfl)
  have h_l_is_rule : Cal P w K mg base 5 "_law_is_rule" 1 l_is_rule := c_l_is_rule (k := 4) hm_len hm_isinstance hm_tuple (h_l_is_condition.mono (by decide)) dn_l_is_rule
  have dn_p_is_condition := dn_of (ps := ["value"]) X G c.d 34 rfl (c.fact 34 rfl) (fun _ _ _ _ _ _ us hl => match us, hl with | [_], _ => rfl)
  have h_p_is_condition : Cal P w K mg base 5 "is_condition" 1 p_is_condition := c_p_is_condition (k := 4) (h_p_is_good_condition.mono (by decide)) dn_p_is_condition
  have dn_p_is_good_drag := dn_of (ps := ["value"]) X G c.d 35 rfl (c.fact 35 rfl) (fun _ _ _ _ _ _ us hl => match us, hl with | [_], _ => rfl)
  have h_p_is_good_drag : Cal P w K mg base 2 "is_good_drag" 1 p_is_good_drag := c_p_is_good_drag (k := 1) hm_len hm_all hm_isinstance hm_tuple (h_p_is_number.mono (by decide)) dn_p_is_good_drag
  have dn_p_is_drag := dn_of (ps := ["value"]) X G c.d 36 rfl (c.fact 36 rfl) (fun _ _ _ _ _ _ us hl => match us, hl with | [_], _ => rfl)
  have h_p_is_drag : Cal P w K mg base 3 "is_drag" 1 p_is_drag := c_p_is_drag (k := 2) (h_p_is_good_drag.mono (by decide)) dn_p_is_drag
  have dn_l_is_drag := dn_of (ps := ["_law_value"]) X G c.d 37 rfl (c.fact 37 rfl) (fun _ _ _ _ _ _ us hl => match us, hl with | [_], _ => rfl)
  have h_l_is_drag : Cal P w K mg base 2 "_law_is_drag" 1 l_is_drag := c_l_is_drag (k := 1) hm_len hm_isinstance hm_tuple (h_l_is_int.mono (by decide)) dn_l_is_drag
  have dn_p_is_pointer := dn_of (ps := ["value"]) X G c.d 38 rfl (c.fact 38 rfl) (fun _ _ _ _ _ _ us hl => match us, hl with | [_], _ => rfl)
  have h_p_is_pointer : Cal P w K mg base 2 "is_pointer" 1 p_is_pointer := c_p_is_pointer (k := 1) (h_p_is_number.mono (by decide)) dn_p_is_pointer
  have dn_l_odd := dn_of (ps := ["_law_source_here"]) X G c.d 39 rfl (c.fact 39 rfl) (fun _ _ _ _ _ _ us hl => match us, hl with | [_], _ => rfl)
  have h_l_odd : Cal P w K mg base 3 "_law_odd" 1 l_odd := c_l_odd (k := 2) (h_l_of.mono (by decide)) dn_l_odd
  have dn_l_spoilt := dn_of (ps := ["_law_source_here", "_law_value"]) X G c.d 40 rfl (c.fact 40 rfl) (fun _ _ _ _ _ _ us hl => match us, hl with | [_, _], _ => rfl)
  have h_l_spoilt : Cal P w K mg base 73 "_law_spoilt" 2 (l_spoilt 70) := by
    have go : ∀ n : Nat, Cal P w K mg base (3 + n) "_law_spoilt" 2 (l_spoilt n) := fun n => by
      induction n with
      | zero => exact dn_l_spoilt.never
      | succ n ih => exact c_l_spoilt (k := 3 + n) hm_list hm_len hm_isinstance hm_tuple ih (h_l_odd.mono (by omega)) (h_l_draw.mono (by omega)) dn_l_spoilt
    exact go 70
  exact fn_ok F sc_p_law rfl fun cdv A outer s H E ck => b_p_law hm_range hm_min hm_len hm_isinstance hm_bool (h_p_is_drag.mono (by decide)) (h_p_is_condition.mono (by decide)) (h_l_pointer.mono (by decide)) (h_l_spoilt.mono (by decide)) (h_p_is_rule.mono (by decide)) (h_p_is_pointer.mono (by decide)) (h_l_is_int.mono (by decide)) (h_l_is_drag.mono (by decide)) (h_l_is_condition.mono (by decide)) (h_l_is_rule.mono (by decide)) (h_p_upside_down.mono (by decide)) (h_l_turned.mono (by decide)) (h_p_comparisons.mono (by decide)) (h_l_parts.mono (by decide)) (h_l_drag.mono (by decide)) (h_l_rule.mono (by decide)) (h_l_source.mono (by decide)) ck
end K01
open PySem PySem.W
open PySem.Calls PyProof.Rows
theorem PySem.Challenge.cw_dragswaps_k01_values_recognized_holds : PySem.Challenge.rw_dragswaps_k01_values_recognized.Holds := by
  w_on; o_law
  refine HandSHeadRun.head_any (r := PySem.W.OpenLaw.row PySem.Challenge.rw_dragswaps_k01_values_recognized) (q := PySem.W.view (PySem.W.OpenLaw.row PySem.Challenge.rw_dragswaps_k01_values_recognized).prog [49]) (H := K01.hk) (ob := K01.ob) (M := 20000) (loose := K01.looseD) (d := HandSHeadRun.topDef (PySem.W.OpenLaw.row PySem.Challenge.rw_dragswaps_k01_values_recognized).prog 49) (kwd := []) K01.ob_eq
    (by kernel_rfl) (fun s => by kernel_rfl) K01.runs (by kernel_rfl) (by kernel_rfl) (by kernel_rfl) (by rfl) (by first | assumption | decide +kernel) (by decide +kernel) ⟨rfl, rfl, rfl, rfl, rfl, by decide +kernel⟩ ?hw ?hc
  case hw => w_witness2
  case hc =>
    refine MP.walk_ofM (l := PySem.Challenge.rw_dragswaps_k01_values_recognized) (n := 63) (k := 74) (x := "_law_script") (m := K01.p_law) rfl (by decide) (by kernel_rfl) ⟨rfl, by decide, by decide⟩ ?F (fun ns h _ => K01.holds ns h)
    intro w mg h Y G
    obtain ⟨K, KX, c⟩ := Y
    refine ⟨K, KX, fun fa hmg0 => ?_⟩
    have e : (HandSHeadRun.topDef (PySem.W.OpenLaw.row PySem.Challenge.rw_dragswaps_k01_values_recognized).prog 49).name = ("law" : PySem.Str) := by kernel_rfl
    rw [e] at hmg0
    exact K01.facts KX G c hmg0

