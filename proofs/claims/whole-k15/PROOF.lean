import PyProof.Rows.All
import HandS.ForMost
import HandS.Exc
import HandS.ExcOwn
import HandS.TryOnly
import HandS.WordsExc
import HandS.CallSlots
import HandS.Wide
import HandS.Style
import HandS.Flow
import HandS.IsInst
import HandS.Deep
import HandS.More
import HandS.Walk
import PySem.Challenge.RW_desksagree_k15_whole_steps_between_rows
set_option Elab.async false
set_option linter.all false
set_option maxRecDepth 100000
set_option maxHeartbeats 4000000
/-! DL: plain data over the hand layer: what a text's pieces mean as plain functions, and that the machine does just that. -/
namespace DL
open PySem PySem.Spec PyProof.Rows L2

/-- plain data -/
inductive D where
  | non | bl (b : Bool) | int (i : Int) | str (x : Str) | tup (xs : List D) | lst (xs : List D)
  | ptr (n : Nat) | rol (xs : List Int)
  | dic (kvs : List (D × D)) | obj (c : Str) (fs : List (Str × D))
/-- what an owned container holds -/
inductive Own where
  | lst (xs : List D) | dk (kvs : List (D × D)) | dt (kvs : List (D × D))
inductive Slot where
  | no | d (x : D) | own (o : Own)
inductive Cell where
  | own (o : Own) | obj (c : Str) (fs : List (Str × Slot)) | dead
structure S where
  ρ : List Slot
  M : List Cell
inductive R (α : Type) where
  | ok (a : α) (s : S) | ex (c : Str) (s : S) | no
def R.bind {α β : Type} : R α → (α → S → R β) → R β
  | .ok a s, f => f a s
  | .ex c s, _ => .ex c s
  | .no, _ => .no
theorem R.bind_ok {α β : Type} (a : α) (s : S) (f : α → S → R β) : (R.ok a s).bind f = f a s := rfl
theorem R.bind_ex {α β : Type} (c : Str) (s : S) (f : α → S → R β) : (R.ex c s : R α).bind f = .ex c s := rfl
theorem R.bind_no {α β : Type} (f : α → S → R β) : (R.no : R α).bind f = .no := rfl
abbrev Den := S → R D
abbrev DenT := S → R Bool
abbrev DenA := S → R (List D)
inductive SR where
  | nx (s : S) | rt (d : D) (s : S) | bk (s : S) | ct (s : S) | ex (c : Str) (s : S) | no
abbrev SDen := S → SR

/-- where an owned container stands -/
inductive Place where
  | cell (n : Nat) | fld (n : Nat) (f : Str) | slot (i : Nat)
structure Wd where
  ι : Nat → Option Addr
  B : Hp
  pl : Addr → Option Place
def Wd.st (w : Wd) (a : Addr) : Prop := (∃ n, w.pl a = some (.cell n)) ∨ ∃ n f, w.pl a = some (.fld n f)
structure Wd.le (w w' : Wd) : Prop where
  ι : ∀ n a, w.ι n = some a → w'.ι n = some a
  B : ∀ a o, w.B a = some o → w'.B a = some o
theorem Wd.le.refl (w : Wd) : w.le w := ⟨fun _ _ h => h, fun _ _ h => h⟩
theorem Wd.le.trans {a b c : Wd} (x : a.le b) (y : b.le c) : a.le c := ⟨fun n p h => y.ι n p (x.ι n p h), fun p o h => y.B p o (x.B p o h)⟩

mutual
def DV (K : PySem.W.Frag) (w : Wd) : D → V → Prop
  | .non, v => v = .non
  | .bl b, v => v = .bl b
  | .int i, v => v = .int i
  | .str x, v => v = .str x ∧ PyData.strOk x = true ∧ x.length ≤ sizeLine
  | .tup xs, v => ∃ a vs, v = .ref a ∧ SqT K w.B a vs ∧ vs.length ≤ sizeLine ∧ DVs K w xs vs
  | .lst xs, v => ∃ a vs, v = .ref a ∧ w.B a = some (.lst vs) ∧ vs.length ≤ sizeLine ∧ DVs K w xs vs
  | .ptr n, v => ∃ a, v = .ref a ∧ w.ι n = some a
  | .rol xs, v => ∃ a, v = .ref a ∧ SqL K w.B a (xs.map V.int)
  | .dic _, _ => False
  | .obj _ _, _ => False
def DVs (K : PySem.W.Frag) (w : Wd) : List D → List V → Prop
  | [], vs => vs = []
  | x :: xs, vs => ∃ v r, vs = v :: r ∧ DV K w x v ∧ DVs K w xs r
end
section
variable {K : PySem.W.Frag} {w w' : Wd}
theorem rd_mono {B B' : Hp} (h : ∀ a o, B a = some o → B' a = some o) {a : Addr} {u : HO} (r : Rd B a u) : Rd B' a u := by
  rcases r with r | ⟨o, r⟩
  · exact .inl (h _ _ r)
  · exact .inr ⟨o, h _ _ r⟩
theorem sqT_mono {B B' : Hp} (h : ∀ a o, B a = some o → B' a = some o) {a : Addr} {xs : List V} (r : SqT K B a xs) : SqT K B' a xs := by
  rcases r with r | r
  · exact .inl (rd_mono h r)
  · exact .inr r
theorem sqL_mono {B B' : Hp} (h : ∀ a o, B a = some o → B' a = some o) {a : Addr} {xs : List V} (r : SqL K B a xs) : SqL K B' a xs := by
  rcases r with r | r
  · exact .inl (rd_mono h r)
  · exact .inr r
mutual
theorem DV.mono (l : w.le w') : ∀ (d : D) (v : V), DV K w d v → DV K w' d v
  | .non, _, h => h
  | .bl _, _, h => h
  | .int _, _, h => h
  | .str _, _, h => h
  | .tup xs, v, h => by
    obtain ⟨a, vs, e, q, z, r⟩ := (show ∃ a vs, v = .ref a ∧ SqT K w.B a vs ∧ vs.length ≤ sizeLine ∧ DVs K w xs vs from h)
    exact ⟨a, vs, e, sqT_mono l.B q, z, DVs.mono l xs vs r⟩
  | .lst xs, v, h => by
    obtain ⟨a, vs, e, q, z, r⟩ := (show ∃ a vs, v = .ref a ∧ w.B a = some (.lst vs) ∧ vs.length ≤ sizeLine ∧ DVs K w xs vs from h)
    exact ⟨a, vs, e, l.B _ _ q, z, DVs.mono l xs vs r⟩
  | .ptr n, v, h => by
    obtain ⟨a, e, q⟩ := (show ∃ a, v = .ref a ∧ w.ι n = some a from h)
    exact ⟨a, e, l.ι _ _ q⟩
  | .rol xs, v, h => by
    obtain ⟨a, e, q⟩ := (show ∃ a, v = .ref a ∧ SqL K w.B a (xs.map V.int) from h)
    exact ⟨a, e, sqL_mono l.B q⟩
  | .dic _, _, h => (show False from h).elim
  | .obj _ _, _, h => (show False from h).elim
theorem DVs.mono (l : w.le w') : ∀ (ds : List D) (vs : List V), DVs K w ds vs → DVs K w' ds vs
  | [], _, h => h
  | x :: xs, vs, h => by
    obtain ⟨v, r, e, q, z⟩ := (show ∃ v r, vs = v :: r ∧ DV K w x v ∧ DVs K w xs r from h)
    exact ⟨v, r, e, DV.mono l x v q, DVs.mono l xs r z⟩
end
theorem DVs.length : ∀ {ds : List D} {vs : List V}, DVs K w ds vs → vs.length = ds.length
  | [], vs, h => by rw [show vs = [] from h]; rfl
  | x :: xs, vs, h => by
    obtain ⟨v, r, e, q, z⟩ := (show ∃ v r, vs = v :: r ∧ DV K w x v ∧ DVs K w xs r from h)
    rw [e, List.length_cons, List.length_cons, DVs.length z]
theorem DVs.cons {x : D} {v : V} {xs : List D} {vs : List V} (h : DV K w x v) (r : DVs K w xs vs) : DVs K w (x :: xs) (v :: vs) := ⟨v, vs, rfl, h, r⟩
theorem DVs.append : ∀ {xs ys : List D} {vs us : List V}, DVs K w xs vs → DVs K w ys us → DVs K w (xs ++ ys) (vs ++ us)
  | [], ys, vs, us, h, g => by rw [show vs = [] from h]; exact g
  | x :: xs, ys, vs, us, h, g => by
    obtain ⟨v, r, rfl, q, z⟩ := (show ∃ v r, vs = v :: r ∧ DV K w x v ∧ DVs K w xs r from h)
    exact ⟨v, r ++ us, rfl, q, DVs.append z g⟩
theorem DVs.get : ∀ {xs : List D} {vs : List V} {i : Nat} {x : D}, DVs K w xs vs → xs[i]? = some x → ∃ v, vs[i]? = some v ∧ DV K w x v
  | [], vs, i, x, _, e => by simp at e
  | y :: ys, vs, 0, x, h, e => by
    obtain ⟨v, r, rfl, q, z⟩ := (show ∃ v r, vs = v :: r ∧ DV K w y v ∧ DVs K w ys r from h)
    simp at e; subst e
    exact ⟨v, rfl, q⟩
  | y :: ys, vs, i + 1, x, h, e => by
    obtain ⟨v, r, rfl, q, z⟩ := (show ∃ v r, vs = v :: r ∧ DV K w y v ∧ DVs K w ys r from h)
    obtain ⟨u, h1, h2⟩ := DVs.get (i := i) (x := x) z (by simpa using e)
    exact ⟨u, by simpa using h1, h2⟩
theorem DVs.take : ∀ {xs : List D} {vs : List V} (n : Nat), DVs K w xs vs → DVs K w (xs.take n) (vs.take n)
  | xs, vs, 0, h => by
    rw [List.take_zero, List.take_zero]; rfl
  | [], vs, n + 1, h => by rw [show vs = [] from h]; rfl
  | y :: ys, vs, n + 1, h => by
    obtain ⟨v, r, rfl, q, z⟩ := (show ∃ v r, vs = v :: r ∧ DV K w y v ∧ DVs K w ys r from h)
    exact ⟨v, r.take n, rfl, q, DVs.take n z⟩
theorem DVs.drop : ∀ {xs : List D} {vs : List V} (n : Nat), DVs K w xs vs → DVs K w (xs.drop n) (vs.drop n)
  | xs, vs, 0, h => by simpa using h
  | [], vs, n + 1, h => by rw [show vs = [] from h]; rfl
  | y :: ys, vs, n + 1, h => by
    obtain ⟨v, r, rfl, q, z⟩ := (show ∃ v r, vs = v :: r ∧ DV K w y v ∧ DVs K w ys r from h)
    exact DVs.drop n z
theorem DVs.set : ∀ {xs : List D} {vs : List V} (i : Nat) {x : D} {v : V}, DVs K w xs vs → DV K w x v → DVs K w (xs.set i x) (vs.set i v)
  | [], vs, i, x, v, h, _ => by rw [show vs = [] from h]; rfl
  | y :: ys, vs, 0, x, v, h, g => by
    obtain ⟨u, r, rfl, q, z⟩ := (show ∃ v r, vs = v :: r ∧ DV K w y v ∧ DVs K w ys r from h)
    exact ⟨v, r, rfl, g, z⟩
  | y :: ys, vs, i + 1, x, v, h, g => by
    obtain ⟨u, r, rfl, q, z⟩ := (show ∃ v r, vs = v :: r ∧ DV K w y v ∧ DVs K w ys r from h)
    exact ⟨u, r.set i v, rfl, q, DVs.set i z g⟩
theorem DVs.erase : ∀ {xs : List D} {vs : List V} (i : Nat), DVs K w xs vs → DVs K w (xs.eraseIdx i) (vs.eraseIdx i)
  | [], vs, i, h => by rw [show vs = [] from h]; rfl
  | y :: ys, vs, 0, h => by
    obtain ⟨u, r, rfl, q, z⟩ := (show ∃ v r, vs = v :: r ∧ DV K w y v ∧ DVs K w ys r from h)
    exact z
  | y :: ys, vs, i + 1, h => by
    obtain ⟨u, r, rfl, q, z⟩ := (show ∃ v r, vs = v :: r ∧ DV K w y v ∧ DVs K w ys r from h)
    exact ⟨u, r.eraseIdx i, rfl, q, DVs.erase i z⟩
theorem DVs.reverse {xs : List D} {vs : List V} (h : DVs K w xs vs) : DVs K w xs.reverse vs.reverse := by
  induction xs generalizing vs with
  | nil => rw [show vs = [] from h]; rfl
  | cons y ys ih =>
    obtain ⟨u, r, rfl, q, z⟩ := (show ∃ v r, vs = v :: r ∧ DV K w y v ∧ DVs K w ys r from h)
    rw [List.reverse_cons, List.reverse_cons]
    exact DVs.append (ih z) ⟨u, [], rfl, q, rfl⟩
theorem DVs.ints : ∀ (ns : List Int), DVs K w (ns.map D.int) (ns.map V.int)
  | [] => rfl
  | n :: ns => ⟨.int n, ns.map V.int, rfl, rfl, DVs.ints ns⟩
end

/-- keys -/
def dkey : D → Option Key
  | .int i => some (.inl i)
  | .str x => some (.inr x)
  | _ => none
def dkeyT : D → Option (List Key)
  | .tup xs => xs.mapM dkey
  | _ => none
def KVk (K : PySem.W.Frag) (w : Wd) : List (D × D) → List (Key × V) → Prop
  | [], ks => ks = []
  | (k, x) :: r, ks => ∃ k' v t, ks = (k', v) :: t ∧ dkey k = some k' ∧ DV K w x v ∧ KVk K w r t
def KVt (K : PySem.W.Frag) (w : Wd) : List (D × D) → List (List Key × V) → Prop
  | [], ks => ks = []
  | (k, x) :: r, ks => ∃ k' v t, ks = (k', v) :: t ∧ dkeyT k = some k' ∧ DV K w x v ∧ KVt K w r t
section
variable {K : PySem.W.Frag} {w w' : Wd}
theorem KVk.mono (l : w.le w') : ∀ (ds : List (D × D)) (vs : List (Key × V)), KVk K w ds vs → KVk K w' ds vs
  | [], _, h => h
  | (k, x) :: xs, vs, h => by
    obtain ⟨k', v, t, e, q, z, r⟩ := (show ∃ k' v t, vs = (k', v) :: t ∧ dkey k = some k' ∧ DV K w x v ∧ KVk K w xs t from h)
    exact ⟨k', v, t, e, q, DV.mono l x v z, KVk.mono l xs t r⟩
theorem KVt.mono (l : w.le w') : ∀ (ds : List (D × D)) (vs : List (List Key × V)), KVt K w ds vs → KVt K w' ds vs
  | [], _, h => h
  | (k, x) :: xs, vs, h => by
    obtain ⟨k', v, t, e, q, z, r⟩ := (show ∃ k' v t, vs = (k', v) :: t ∧ dkeyT k = some k' ∧ DV K w x v ∧ KVt K w xs t from h)
    exact ⟨k', v, t, e, q, DV.mono l x v z, KVt.mono l xs t r⟩
end
def OwnR (K : PySem.W.Frag) (w : Wd) (H : Hp) (a : Addr) : Own → Prop
  | .lst xs => ∃ vs, H a = some (.lst vs) ∧ vs.length ≤ sizeLine ∧ DVs K w xs vs
  | .dk kvs => ∃ ks, H a = some (.dK ks) ∧ KVk K w kvs ks
  | .dt kvs => ∃ ks, H a = some (.dT ks) ∧ KVt K w kvs ks
def FldR (K : PySem.W.Frag) (w : Wd) (H : Hp) (n : Nat) (f : Str) : Slot → V → Prop
  | .no, _ => True
  | .d x, v => DV K w x v
  | .own o, v => ∃ a, v = .ref a ∧ w.pl a = some (.fld n f) ∧ OwnR K w H a o
def FldsR (K : PySem.W.Frag) (w : Wd) (H : Hp) (n : Nat) : List (Str × Slot) → List (Str × V) → Prop
  | [], vs => vs = []
  | (f, x) :: r, vs => ∃ v t, vs = (f, v) :: t ∧ FldR K w H n f x v ∧ FldsR K w H n r t
def CellR (K : PySem.W.Frag) (mg : Str → Option Value) (w : Wd) (H : Hp) (n : Nat) (a : Addr) : Cell → Prop
  | .own o => w.pl a = some (.cell n) ∧ OwnR K w H a o
  | .obj c fs => w.pl a = some (.cell n) ∧ ∃ C dx vs, mg c = some (.ref C) ∧ H a = some (.ins C dx vs) ∧ FldsR K w H n fs vs
  | .dead => True
def SlotR (K : PySem.W.Frag) (w : Wd) (H0 H : Hp) (i : Nat) : Slot → Option V → Prop
  | .no, _ => True
  | .d x, o => ∃ v, o = some v ∧ DV K w x v
  | .own c, o => ∃ a, o = some (.ref a) ∧ w.pl a = some (.slot i) ∧ H0 a = none ∧ OwnR K w H a c

/-- what a stretch of the run leaves of what stood -/
structure Go (w : Wd) (H : Hp) (w' : Wd) (H' : Hp) : Prop where
  le : w.le w'
  keep : ∀ a o, H a = some o → ¬ w.st a → H' a = some o
  new : ∀ a o, H a = some o → ¬ w.st a → ¬ w'.st a ∧ (w.B a = none → w'.B a = none)
  there : ∀ a o, H a = some o → ∃ o', H' a = some o'
  slot : ∀ a o, H a = some o → ¬ w.st a → w'.pl a = w.pl a
theorem st_slot {w : Wd} {a : Addr} {i : Nat} (h : w.pl a = some (.slot i)) : ¬ w.st a := by
  intro q
  unfold Wd.st at q
  rw [h] at q
  rcases q with ⟨n, q⟩ | ⟨n, f, q⟩ <;> cases q
theorem Go.refl (w : Wd) (H : Hp) : Go w H w H := ⟨.refl w, fun _ _ h _ => h, fun _ _ _ h => ⟨h, fun z => z⟩, fun _ o h => ⟨o, h⟩, fun _ _ _ _ => rfl⟩
theorem Go.trans {w w1 w2 : Wd} {H H1 H2 : Hp} (x : Go w H w1 H1) (y : Go w1 H1 w2 H2) : Go w H w2 H2 where
  le := x.le.trans y.le
  keep := fun a o h n => y.keep a o (x.keep a o h n) (x.new a o h n).1
  new := fun a o h n => by
    have h1 := x.new a o h n
    have h2 := y.new a o (x.keep a o h n) h1.1
    exact ⟨h2.1, fun z => h2.2 (h1.2 z)⟩
  there := fun a o h => by
    obtain ⟨o', h'⟩ := x.there a o h
    exact y.there a o' h'
  slot := fun a o h n => (y.slot a o (x.keep a o h n) (x.new a o h n).1).trans (x.slot a o h n)

/-- nothing that stood is changed -/
theorem Go.trans' {w w1 w2 : Wd} {H H1 H2 : Hp} (x : Go w H w1 H1) (l : w1.le w2) (k : ∀ a o, H a = some o ∨ True → H1 a = some o → H2 a = some o) (t : ∀ a o, H1 a = some o → ∃ o', H2 a = some o') (p : ∀ a u, H a = some u → w2.pl a = w1.pl a) (b : ∀ a u, H a = some u → w1.B a = none → w2.B a = none) : Go w H w2 H2 where
  le := x.le.trans l
  keep := fun a o h n => k a o (.inl h) (x.keep a o h n)
  new := fun a o h n => by
    have h1 := x.new a o h n
    refine ⟨fun q => h1.1 ?_, fun z => b a o h (h1.2 z)⟩
    unfold Wd.st at *
    rw [p a o h] at q
    exact q
  there := fun a o h => by
    obtain ⟨o', h'⟩ := x.there a o h
    exact t a o' h'
  slot := fun a o h n => (p a o h).trans (x.slot a o h n)

structure HR (K : PySem.W.Frag) (mg : Str → Option Value) (w : Wd) (M : List Cell) (H : Hp) : Prop where
  sub : ∀ a o, w.B a = some o → H a = some o
  bpl : ∀ a p, w.pl a = some p → w.B a = none
  plh : ∀ a p, w.pl a = some p → ∃ o, H a = some o
  dom : ∀ n a, w.ι n = some a → n < M.length
  cell : ∀ n c, M[n]? = some c → ∃ a, w.ι n = some a ∧ CellR K mg w H n a c

structure Ctx where
  K : PySem.W.Frag
  mg : Str → Option Value
  w0 : Wd
  H0 : Hp
  W : WX
  pin : Addr → Option HO := fun _ => none

/-- an object that nothing speaks of yet -/
structure Loose (C : Ctx) (w : Wd) (p : Addr) : Prop where
  h0 : C.H0 p = none
  b : w.B p = none
  pl : w.pl p = none
  np : C.pin p = none
structure Rel (C : Ctx) (s : S) (w : Wd) (σ : L2.St) (H : Hp) : Prop where
  hr : HR C.K C.mg w s.M H
  go : Go C.w0 C.H0 w H
  len : σ.length = s.ρ.length
  env : ∀ i x, s.ρ[i]? = some x → SlotR C.K w C.H0 H i x (σ[i]?).join
  pin : ∀ a o, C.pin a = some o → H a = some o ∧ w.B a = none ∧ w.pl a = none ∧ C.H0 a = none

def clsOf (C : Ctx) (c : Str) : Value := (C.mg c).getD .none
/-- behind an expression -/
def post {α : Type} (C : Ctx) (DA : Wd → α → V → Prop) (w : Wd) (σ : L2.St) (Q : V → Hp → Prop) : R α → Prop
  | .ok d s => ∀ w' H' v, w.le w' → Rel C s w' σ H' → DA w' d v → Q v H'
  | .ex c s => ∀ w' H', w.le w' → Rel C s w' σ H' → C.W (clsOf C c) none σ H'
  | .no => False
def tD (C : Ctx) (den : Den) : TE := fun σ H Q => ∃ s w, Rel C s w σ H ∧ post C (DV C.K) w σ Q (den s)
/-- behind an expression that makes a list -/
def postF (C : Ctx) (w : Wd) (σ : L2.St) (Q : V → Hp → Prop) : R (List D) → Prop
  | .ok xs s => ∀ w' H' p vs, w.le w' → Rel C s w' σ H' → Loose C w' p → H' p = some (.lst vs) → vs.length ≤ sizeLine → DVs C.K w' xs vs → Q (.ref p) H'
  | .ex c s => ∀ w' H', w.le w' → Rel C s w' σ H' → C.W (clsOf C c) none σ H'
  | .no => False
def tF (C : Ctx) (den : DenA) : TE := fun σ H Q => ∃ s w, Rel C s w σ H ∧ postF C w σ Q (den s)
def postT (C : Ctx) (w : Wd) (σ : L2.St) (Q : Bool → Hp → Prop) : R Bool → Prop
  | .ok b s => ∀ w' H', w.le w' → Rel C s w' σ H' → Q b H'
  | .ex c s => ∀ w' H', w.le w' → Rel C s w' σ H' → C.W (clsOf C c) none σ H'
  | .no => False
def tT (C : Ctx) (den : DenT) : TT := fun σ H Q => ∃ s w, Rel C s w σ H ∧ postT C w σ Q (den s)
def postA (C : Ctx) (w : Wd) (σ : L2.St) (Q : List V → Hp → Prop) : R (List D) → Prop
  | .ok ds s => ∀ w' H' vs, w.le w' → Rel C s w' σ H' → DVs C.K w' ds vs → Q vs H'
  | .ex c s => ∀ w' H', w.le w' → Rel C s w' σ H' → C.W (clsOf C c) none σ H'
  | .no => False
def tA (C : Ctx) (den : DenA) : TA := fun σ H Q => ∃ s w, Rel C s w σ H ∧ postA C w σ Q (den s)
def postS (C : Ctx) (w : Wd) (E : Ends) : SR → Prop
  | .nx s => ∀ w' σ' H', w.le w' → Rel C s w' σ' H' → E.nx σ' H'
  | .rt d s => ∀ w' σ' H' v, w.le w' → Rel C s w' σ' H' → DV C.K w' d v → E.rt v H'
  | .bk s => ∀ w' σ' H', w.le w' → Rel C s w' σ' H' → E.bk σ' H'
  | .ct s => ∀ w' σ' H', w.le w' → Rel C s w' σ' H' → E.ct σ' H'
  | .ex c s => ∀ w' σ' H', w.le w' → Rel C s w' σ' H' → C.W (clsOf C c) none σ' H'
  | .no => False
def tS (C : Ctx) (den : SDen) : TS := fun E σ H => ∃ s w, Rel C s w σ H ∧ postS C w E (den s)

/-- the judgements -/
def DE (C : Ctx) (X : Cx) (e : Expr) (den : Den) : Prop := PE X e (tD C den)
def DF (C : Ctx) (X : Cx) (e : Expr) (den : DenA) : Prop := PE X e (tF C den)
def DT (C : Ctx) (X : Cx) (e : Expr) (den : DenT) : Prop := PT X e (tT C den)
def DA (C : Ctx) (X : Cx) (es : List Expr) (den : DenA) : Prop := PA X es (tA C den)
def DS (C : Ctx) (X : Cx) (st : Stmt) (den : SDen) : Prop := PS X st (tS C den)
def DSs (C : Ctx) (X : Cx) (sts : List Stmt) (den : SDen) : Prop := PSs X sts (tS C den)
theorem PE.imp {X : Cx} {e : Expr} {t t' : TE} (h : PE X e t) (i : ∀ σ H Q, t' σ H Q → t σ H Q) : PE X e t' := ⟨fun p s σ H Q I q => h.run p s σ H Q I (i σ H Q q)⟩
theorem PT.imp {X : Cx} {e : Expr} {t t' : TT} (h : PT X e t) (i : ∀ σ H Q, t' σ H Q → t σ H Q) : PT X e t' := ⟨fun p s σ H Q I q => h.run p s σ H Q I (i σ H Q q)⟩
theorem PW.imp {X : Cx} {e : Expr} {t t' : TT} (h : PW X e t) (i : ∀ σ H Q, t' σ H Q → t σ H Q) : PW X e t' := ⟨fun wh p s σ H Q I q => h.run wh p s σ H Q I (i σ H Q q)⟩
theorem PA.imp {X : Cx} {e : List Expr} {t t' : TA} (h : PA X e t) (i : ∀ σ H Q, t' σ H Q → t σ H Q) : PA X e t' := ⟨fun po p s σ H Q I q => h.run po p s σ H Q I (i σ H Q q)⟩
theorem PS.imp {X : Cx} {e : Stmt} {t t' : TS} (h : PS X e t) (i : ∀ D σ H, t' D σ H → t D σ H) : PS X e t' := ⟨fun p s σ H D I q => h.run p s σ H D I (i D σ H q)⟩
theorem PSs.imp {X : Cx} {e : List Stmt} {t t' : TS} (h : PSs X e t) (i : ∀ D σ H, t' D σ H → t D σ H) : PSs X e t' := ⟨fun p s σ H D I q => h.run p s σ H D I (i D σ H q)⟩

section
variable {C : Ctx} {w w' : Wd} {σ : L2.St}
theorem post_le {Q : V → Hp → Prop} {r : R D} (l : w.le w') (h : post C (DV C.K) w σ Q r) : post C (DV C.K) w' σ Q r := by
  cases r with
  | ok d s => exact fun w2 H' v l2 a b => h w2 H' v (l.trans l2) a b
  | ex c s => exact fun w2 H' l2 a => h w2 H' (l.trans l2) a
  | no => exact h
theorem postT_le {Q : Bool → Hp → Prop} {r : R Bool} (l : w.le w') (h : postT C w σ Q r) : postT C w' σ Q r := by
  cases r with
  | ok d s => exact fun w2 H' l2 a => h w2 H' (l.trans l2) a
  | ex c s => exact fun w2 H' l2 a => h w2 H' (l.trans l2) a
  | no => exact h
theorem postA_le {Q : List V → Hp → Prop} {r : R (List D)} (l : w.le w') (h : postA C w σ Q r) : postA C w' σ Q r := by
  cases r with
  | ok d s => exact fun w2 H' v l2 a b => h w2 H' v (l.trans l2) a b
  | ex c s => exact fun w2 H' l2 a => h w2 H' (l.trans l2) a
  | no => exact h
theorem postS_le {E : Ends} {r : SR} (l : w.le w') (h : postS C w E r) : postS C w' E r := by
  cases r with
  | nx s => exact fun w2 σ' H' l2 a => h w2 σ' H' (l.trans l2) a
  | rt d s => exact fun w2 σ' H' v l2 a b => h w2 σ' H' v (l.trans l2) a b
  | bk s => exact fun w2 σ' H' l2 a => h w2 σ' H' (l.trans l2) a
  | ct s => exact fun w2 σ' H' l2 a => h w2 σ' H' (l.trans l2) a
  | ex c s => exact fun w2 σ' H' l2 a => h w2 σ' H' (l.trans l2) a
  | no => exact h
/-- an expression evaluated, then something -/
theorem seqE {da : Den} {β : Type} {k : D → S → R β} {s : S} {H : Hp} {P : V → Hp → Prop} {Z : R β → Prop}
    (hz : Z .no → False) (he : ∀ c s', Z (.ex c s') → ∀ w' H', w.le w' → Rel C s' w' σ H' → C.W (clsOf C c) none σ H')
    (R1 : Rel C s w σ H) (h : Z ((da s).bind k)) (q : ∀ d s1 w1 H1 v, w.le w1 → Rel C s1 w1 σ H1 → DV C.K w1 d v → Z (k d s1) → P v H1) : tD C da σ H P := by
  refine ⟨s, w, R1, ?_⟩
  cases e : da s with
  | ok d s1 => rw [e, R.bind_ok] at h; exact fun w' H' v l r dv => q d s1 w' H' v l r dv h
  | ex c s1 => rw [e, R.bind_ex] at h; exact he c s1 h
  | no => rw [e, R.bind_no] at h; exact hz h
theorem seqA {da : DenA} {β : Type} {k : List D → S → R β} {s : S} {H : Hp} {P : List V → Hp → Prop} {Z : R β → Prop}
    (hz : Z .no → False) (he : ∀ c s', Z (.ex c s') → ∀ w' H', w.le w' → Rel C s' w' σ H' → C.W (clsOf C c) none σ H')
    (R1 : Rel C s w σ H) (h : Z ((da s).bind k)) (q : ∀ d s1 w1 H1 v, w.le w1 → Rel C s1 w1 σ H1 → DVs C.K w1 d v → Z (k d s1) → P v H1) : tA C da σ H P := by
  refine ⟨s, w, R1, ?_⟩
  cases e : da s with
  | ok d s1 => rw [e, R.bind_ok] at h; exact fun w' H' v l r dv => q d s1 w' H' v l r dv h
  | ex c s1 => rw [e, R.bind_ex] at h; exact he c s1 h
  | no => rw [e, R.bind_no] at h; exact hz h
theorem seqT {da : DenT} {β : Type} {k : Bool → S → R β} {s : S} {H : Hp} {P : Bool → Hp → Prop} {Z : R β → Prop}
    (hz : Z .no → False) (he : ∀ c s', Z (.ex c s') → ∀ w' H', w.le w' → Rel C s' w' σ H' → C.W (clsOf C c) none σ H')
    (R1 : Rel C s w σ H) (h : Z ((da s).bind k)) (q : ∀ d s1 w1 H1, w.le w1 → Rel C s1 w1 σ H1 → Z (k d s1) → P d H1) : tT C da σ H P := by
  refine ⟨s, w, R1, ?_⟩
  cases e : da s with
  | ok d s1 => rw [e, R.bind_ok] at h; exact fun w' H' l r => q d s1 w' H' l r h
  | ex c s1 => rw [e, R.bind_ex] at h; exact he c s1 h
  | no => rw [e, R.bind_no] at h; exact hz h
end
end DL
theorem L2.Room.units65 {k : Nat} {A : PySem.Around} (r : L2.Room k A) : A.units + 65 < PySem.cLine := by have := r.un; omega


set_option maxHeartbeats 4000000
namespace DL
open PySem PySem.Spec PyProof.Rows L2

structure Mv (w : Wd) (H : Hp) (w' : Wd) (H' : Hp) (ch : Place → Prop) : Prop where
  le : w.le w'
  pk : ∀ b P, w.pl b = some P → ¬ ch P → w'.pl b = some P ∧ H' b = H b
section
variable {K : PySem.W.Frag} {mg : Str → Option Value} {w w' : Wd} {H H' : Hp} {ch : Place → Prop} {n : Nat} {a : Addr}
theorem OwnR.mv (l : w.le w') (e : H' a = H a) : ∀ {o : Own}, OwnR K w H a o → OwnR K w' H' a o
  | .lst xs, h => by
    obtain ⟨vs, q, z, r⟩ := (show ∃ vs, H a = some (.lst vs) ∧ vs.length ≤ sizeLine ∧ DVs K w xs vs from h)
    exact ⟨vs, e.trans q, z, DVs.mono l _ _ r⟩
  | .dk xs, h => by
    obtain ⟨vs, q, r⟩ := (show ∃ ks, H a = some (.dK ks) ∧ KVk K w xs ks from h)
    exact ⟨vs, e.trans q, KVk.mono l _ _ r⟩
  | .dt xs, h => by
    obtain ⟨vs, q, r⟩ := (show ∃ ks, H a = some (.dT ks) ∧ KVt K w xs ks from h)
    exact ⟨vs, e.trans q, KVt.mono l _ _ r⟩
theorem FldR.mv (m : Mv w H w' H' ch) {f : Str} (hf : ¬ ch (.fld n f)) : ∀ {x : Slot} {v : V}, FldR K w H n f x v → FldR K w' H' n f x v
  | .no, _, _ => trivial
  | .d x, v, h => DV.mono m.le x v h
  | .own o, v, h => by
    obtain ⟨a, e, p, r⟩ := (show ∃ a, v = .ref a ∧ w.pl a = some (.fld n f) ∧ OwnR K w H a o from h)
    obtain ⟨p', e'⟩ := m.pk a _ p hf
    exact ⟨a, e, p', OwnR.mv m.le e' r⟩
theorem FldsR.mv (m : Mv w H w' H' ch) (hf : ∀ f, ¬ ch (.fld n f)) : ∀ {fs : List (Str × Slot)} {vs : List (Str × V)}, FldsR K w H n fs vs → FldsR K w' H' n fs vs
  | [], vs, h => h
  | (f, x) :: r, vs, h => by
    obtain ⟨v, t, e, q, z⟩ := (show ∃ v t, vs = (f, v) :: t ∧ FldR K w H n f x v ∧ FldsR K w H n r t from h)
    exact ⟨v, t, e, FldR.mv m (hf f) q, FldsR.mv m hf z⟩
theorem CellR.mv (m : Mv w H w' H' ch) (h0 : ¬ ch (.cell n)) (hf : ∀ f, ¬ ch (.fld n f)) : ∀ {c : Cell}, CellR K mg w H n a c → CellR K mg w' H' n a c
  | .own o, h => by
    obtain ⟨p, r⟩ := (show w.pl a = some (.cell n) ∧ OwnR K w H a o from h)
    obtain ⟨p', e'⟩ := m.pk a _ p h0
    exact ⟨p', OwnR.mv m.le e' r⟩
  | .obj c fs, h => by
    obtain ⟨p, C, dx, vs, q1, q2, q3⟩ := (show w.pl a = some (.cell n) ∧ ∃ C dx vs, mg c = some (.ref C) ∧ H a = some (.ins C dx vs) ∧ FldsR K w H n fs vs from h)
    obtain ⟨p', e'⟩ := m.pk a _ p h0
    exact ⟨p', C, dx, vs, q1, e'.trans q2, FldsR.mv m hf q3⟩
  | .dead, _ => trivial
theorem SlotR.mv {H0 : Hp} (m : Mv w H w' H' ch) {i : Nat} (h0 : ¬ ch (.slot i)) : ∀ {x : Slot} {o : Option V}, SlotR K w H0 H i x o → SlotR K w' H0 H' i x o
  | .no, _, _ => trivial
  | .d x, o, h => by
    obtain ⟨v, e, q⟩ := (show ∃ v, o = some v ∧ DV K w x v from h)
    exact ⟨v, e, DV.mono m.le x v q⟩
  | .own c, o, h => by
    obtain ⟨a, e, p, z, r⟩ := (show ∃ a, o = some (.ref a) ∧ w.pl a = some (.slot i) ∧ H0 a = none ∧ OwnR K w H a c from h)
    obtain ⟨p', e'⟩ := m.pk a _ p h0
    exact ⟨a, e, p', z, OwnR.mv m.le e' r⟩

/-- a new frozen object -/
def Wd.put (w : Wd) (p : Addr) (o : HO) : Wd := { w with B := upd w.B p o }
theorem none_pl {M : List Cell} (h : HR K mg w M H) {p : Addr} (hp : H p = none) : w.pl p = none := by
  cases e : w.pl p with
  | none => rfl
  | some P =>
    obtain ⟨o, q⟩ := h.plh p P e
    rw [hp] at q; cases q
theorem none_B {M : List Cell} (h : HR K mg w M H) {p : Addr} (hp : H p = none) : w.B p = none := by
  cases e : w.B p with
  | none => rfl
  | some o =>
    have q := h.sub p o e
    rw [hp] at q; cases q
theorem upd_of {H : Hp} {p : Addr} {o : HO} (hp : H p = none) : ∀ b u, H b = some u → upd H p o b = some u := fun b u e => by
  rw [upd_ne (ne_of_none e hp)]; exact e
theorem Wd.le_put {p : Addr} {o : HO} (h : w.B p = none) : w.le (w.put p o) := ⟨fun _ _ h => h, fun a u e => upd_of h a u e⟩
/-- the general move -/
theorem Rel.move {C : Ctx} {s s' : S} {σ σ' : L2.St} {ch : Place → Prop} (r : Rel C s w σ H) (m : Mv w H w' H' ch)
    (hs : ∀ a o, w'.B a = some o → H' a = some o) (hb : ∀ a P, w'.pl a = some P → w'.B a = none ∧ ∃ o, H' a = some o) (hι : w'.ι = w.ι)
    (hk : ∀ b u, H b = some u → C.H0 b = some u ∨ True → ∃ u', H' b = some u')
    (hM : s'.M.length = s.M.length) (hc : ∀ n c, s'.M[n]? = some c → (s.M[n]? = some c ∧ ¬ ch (.cell n) ∧ ∀ f, ¬ ch (.fld n f)) ∨ ∃ a, w'.ι n = some a ∧ CellR C.K C.mg w' H' n a c)
    (hg : ∀ a o, H a = some o → C.H0 a = some o ∨ (∃ u, C.H0 a = some u) → ¬ w.st a → H' a = some o)
    (hn : ∀ a u, C.H0 a = some u → ¬ w.st a → ¬ w'.st a ∧ (w.B a = none → w'.B a = none))
    (hq : ∀ a u, C.H0 a = some u → ¬ w.st a → w'.pl a = w.pl a)
    (hpn : ∀ a o, C.pin a = some o → H a = some o → w.B a = none → w.pl a = none → C.H0 a = none → H' a = some o ∧ w'.B a = none ∧ w'.pl a = none)
    (hl : σ'.length = s'.ρ.length) (he : ∀ i x, s'.ρ[i]? = some x → (s.ρ[i]? = some x ∧ σ'[i]?.join = σ[i]?.join ∧ ¬ ch (.slot i)) ∨ SlotR C.K w' C.H0 H' i x (σ'[i]?).join) : Rel C s' w' σ' H' := by
  refine ⟨⟨hs, fun a P e => (hb a P e).1, fun a P e => (hb a P e).2, fun n a e => ?_, fun n c e => ?_⟩, ⟨r.go.le.trans m.le, fun a o h z => ?_, fun a o h z => ?_, fun a o h => ?_, fun a o h n => (hq a o h (r.go.new a o h n).1).trans (r.go.slot a o h n)⟩, hl, fun i x e => ?_, fun a o e => ?_⟩
  · rw [hι] at e; rw [hM]; exact r.hr.dom n a e
  · rcases hc n c e with ⟨e1, h1, h2⟩ | h
    · obtain ⟨a, e2, e3⟩ := r.hr.cell n c e1
      exact ⟨a, by rw [hι]; exact e2, CellR.mv m h1 h2 e3⟩
    · exact h
  · have h1 := r.go.keep a o h z
    exact hg a o h1 (.inl h) (r.go.new a o h z).1
  · have h1 := r.go.new a o h z
    have h2 := hn a o h h1.1
    exact ⟨h2.1, fun q => h2.2 (h1.2 q)⟩
  · obtain ⟨o', h'⟩ := r.go.there a o h
    exact hk a o' h' (.inr trivial)
  · rcases he i x e with ⟨e1, e2, e3⟩ | h
    · rw [e2]; exact SlotR.mv m e3 (r.env i x e1)
    · exact h
  · obtain ⟨h1, h2, h3, h4⟩ := r.pin a o e
    obtain ⟨g1, g2, g3⟩ := hpn a o e h1 h2 h3 h4
    exact ⟨g1, g2, g3, h4⟩
theorem Rel.h0 {C : Ctx} {s : S} {σ : L2.St} (r : Rel C s w σ H) {p : Addr} (hp : H p = none) : C.H0 p = none := by
  cases q : C.H0 p with
  | none => rfl
  | some u =>
    obtain ⟨o, h⟩ := r.go.there p u q
    rw [hp] at h; cases h
theorem Rel.loose {C : Ctx} {s : S} {σ : L2.St} (r : Rel C s w σ H) {p : Addr} (hp : H p = none) : Loose C w p := ⟨r.h0 hp, none_B r.hr hp, none_pl r.hr hp, by
  cases q : C.pin p with
  | none => rfl
  | some o => have := (r.pin p o q).1; rw [hp] at this; cases this⟩
/-- a new object -/
theorem Rel.new {C : Ctx} {s : S} {σ : L2.St} (r : Rel C s w σ H) {p : Addr} {o : HO} (hp : H p = none) : Rel C s w σ (upd H p o) := by
  have hne : ∀ b P, w.pl b = some P → b ≠ p := fun b P e z => by rw [z, none_pl r.hr hp] at e; cases e
  refine r.move (ch := fun _ => False) ⟨.refl w, fun b P e _ => ⟨e, upd_ne (hne b P e)⟩⟩ (fun a u e => upd_of hp a u (r.hr.sub a u e)) (fun a P e => ⟨r.hr.bpl a P e, ?_⟩) rfl (fun b u e _ => ⟨u, upd_of hp b u e⟩) rfl
    (fun n c e => .inl ⟨e, fun z => z, fun _ z => z⟩) (fun a u e _ _ => upd_of hp a u e) (fun a u e z => ⟨z, fun q => q⟩) (fun _ _ _ _ => rfl) (fun a u _ e h1 h2 _ => ⟨upd_of hp a u e, h1, h2⟩) r.len (fun i x e => .inl ⟨e, rfl, fun z => z⟩)
  obtain ⟨u, q⟩ := r.hr.plh a P e
  exact ⟨u, upd_of hp a u q⟩
theorem Loose.ne {C : Ctx} {p : Addr} (h : Loose C w p) : ∀ b P, w.pl b = some P → b ≠ p := fun b P e z => by rw [z, h.pl] at e; cases e
/-- a loose object goes to the plain data -/
theorem Rel.adopt {C : Ctx} {s : S} {σ : L2.St} (r : Rel C s w σ H) {p : Addr} {o : HO} (h : Loose C w p) (hp : H p = some o) : w.le (w.put p o) ∧ Rel C s (w.put p o) σ H := by
  have l : w.le (w.put p o) := Wd.le_put h.b
  refine ⟨l, r.move (ch := fun _ => False) ⟨l, fun b P e _ => ⟨e, rfl⟩⟩ (fun a u e => ?_) (fun a P e => ⟨?_, r.hr.plh a P e⟩) rfl (fun b u e _ => ⟨u, e⟩) rfl
    (fun n c e => .inl ⟨e, fun z => z, fun _ z => z⟩) (fun a u e _ _ => e) (fun a u e z => ⟨z, fun q => ?_⟩) (fun _ _ _ _ => rfl) (fun a u e1 e h1 h2 _ => ⟨e, by show upd w.B p o a = none; rw [upd_ne (fun z => by rw [z, h.np] at e1; cases e1)]; exact h1, h2⟩) r.len (fun i x e => .inl ⟨e, rfl, fun z => z⟩)⟩
  · have e' : upd w.B p o a = some u := e
    by_cases ha : a = p
    · rw [ha, upd_same] at e'; rw [ha, hp]; exact e'
    · rw [upd_ne ha] at e'; exact r.hr.sub a u e'
  · show upd w.B p o a = none
    rw [upd_ne (h.ne a P e)]; exact r.hr.bpl a P e
  · show upd w.B p o a = none
    rw [upd_ne (fun z => by rw [z, h.h0] at e; cases e)]; exact q
theorem Rel.put {C : Ctx} {s : S} {σ : L2.St} (r : Rel C s w σ H) {p : Addr} {o : HO} (hp : H p = none) : w.le (w.put p o) ∧ Rel C s (w.put p o) σ (upd H p o) :=
  (r.new hp).adopt (r.loose hp) upd_same
theorem DV.newL {p : Addr} {xs : List D} {vs : List V} (hz : vs.length ≤ sizeLine) (l : w.le (w.put p (.lst vs))) (h : DVs K w xs vs) : DV K (w.put p (.lst vs)) (.lst xs) (.ref p) :=
  ⟨p, vs, rfl, upd_same, hz, DVs.mono l _ _ h⟩
theorem DV.newT {p : Addr} {xs : List D} {vs : List V} (hz : vs.length ≤ sizeLine) (l : w.le (w.put p (.tup vs))) (h : DVs K w xs vs) : DV K (w.put p (.tup vs)) (.tup xs) (.ref p) :=
  ⟨p, vs, rfl, .inl (.inl upd_same), hz, DVs.mono l _ _ h⟩
end
section
variable {C : Ctx} {s : S} {w w' : Wd} {H H' : Hp} {σ : L2.St} {i : Nat} {x : D} {v : V}
def S.set (s : S) (i : Nat) (x : Slot) : S := ⟨s.ρ.set i x, s.M⟩
theorem join_set {σ : L2.St} {i j : Nat} {v : Option V} (h : j ≠ i) : ((σ.set i v)[j]?).join = (σ[j]?).join := by
  rw [List.getElem?_set_ne (Ne.symm h)]
theorem join_self {σ : L2.St} {i : Nat} {v : V} (h : i < σ.length) : ((σ.set i (some v))[i]?).join = some v := by
  rw [List.getElem?_set_self h]; rfl
theorem lt_of_set {α : Type} {l : List α} {i : Nat} {x y : α} (e : (l.set i x)[i]? = some y) : i < l.length ∧ y = x := by
  rw [List.getElem?_set] at e
  split at e
  · split at e
    · exact ⟨by assumption, by cases e; rfl⟩
    · cases e
  · rename_i h; exact absurd rfl h
/-- slot i is set: what is left is the new slot -/
theorem env_set {P : Nat → Slot → Option V → Prop} {ρ : List Slot} {y : Slot} {v : V} (hl : σ.length = ρ.length) (h : i < ρ.length → P i y (some v)) : ∀ j z, (ρ.set i y)[j]? = some z → (j ≠ i ∧ ρ[j]? = some z ∧ ((σ.set i (some v))[j]?).join = (σ[j]?).join) ∨ P j z ((σ.set i (some v))[j]?).join := fun j z e => by
  by_cases hj : j = i
  · subst hj
    obtain ⟨h1, h2⟩ := lt_of_set e
    subst h2
    rw [join_self (by rw [hl]; exact h1)]
    exact .inr (h h1)
  · rw [List.getElem?_set_ne (Ne.symm hj)] at e
    exact .inl ⟨hj, e, join_set hj⟩
theorem len_set {ρ : List Slot} {y : Slot} {v : Option V} (hl : σ.length = ρ.length) : (σ.set i v).length = (ρ.set i y).length := by rw [List.length_set, List.length_set]; exact hl
/-- a name gets a value -/
theorem Rel.set (r : Rel C s w σ H) (h : DV C.K w x v) : Rel C (s.set i (.d x)) w (σ.set i (some v)) H := by
  refine ⟨r.hr, r.go, len_set r.len, fun j y e => ?_, r.pin⟩
  rcases env_set (i := i) (y := .d x) (v := v) (P := fun j y o => SlotR C.K w C.H0 H j y o) r.len (fun _ => ⟨v, rfl, h⟩) j y e with ⟨_, e1, e2⟩ | h
  · rw [e2]; exact r.env j y e1
  · exact h
def Wd.pl1 (w : Wd) (p : Addr) (P : Option Place) : Wd := { w with pl := fun a => if a = p then P else w.pl a }
theorem pl1_same {w : Wd} {p : Addr} {P : Option Place} : (w.pl1 p P).pl p = P := by unfold Wd.pl1; simp
theorem pl1_ne {w : Wd} {p a : Addr} {P : Option Place} (h : a ≠ p) : (w.pl1 p P).pl a = w.pl a := by unfold Wd.pl1; simp [h]
theorem st_pl1 {w : Wd} {p a : Addr} {i : Nat} (z : ¬ w.st a) : ¬ (w.pl1 p (some (.slot i))).st a := by
  intro q
  unfold Wd.st at q
  by_cases ha : a = p
  · subst ha; rw [pl1_same] at q
    rcases q with ⟨n, q⟩ | ⟨n, f, q⟩ <;> cases q
  · rw [pl1_ne ha] at q; exact z q
/-- a name gets a container of its own, just made -/
theorem Rel.own (r : Rel C s w σ H) {p : Addr} {c : Own} (h : Loose C w p) (ho : OwnR C.K w H p c) :
    w.le (w.pl1 p (some (.slot i))) ∧ Rel C (s.set i (.own c)) (w.pl1 p (some (.slot i))) (σ.set i (some (.ref p))) H := by
  have l : w.le (w.pl1 p (some (.slot i))) := ⟨fun _ _ h => h, fun _ _ h => h⟩
  refine ⟨l, r.move (ch := fun _ => False) ⟨l, fun b P e _ => ⟨by rw [pl1_ne (h.ne b P e)]; exact e, rfl⟩⟩ r.hr.sub (fun a P e => ?_) rfl (fun b u e _ => ⟨u, e⟩) rfl
    (fun n c e => .inl ⟨e, fun z => z, fun _ z => z⟩) (fun a u e _ _ => e) (fun a u e z => ⟨st_pl1 z, fun q => q⟩) (fun a u e _ => pl1_ne (fun q => by rw [q, h.h0] at e; cases e)) (fun a u e1 e h1 h2 _ => ⟨e, h1, by rw [pl1_ne (fun z => by rw [z, h.np] at e1; cases e1)]; exact h2⟩) (len_set r.len) (fun j y e => ?_)⟩
  · by_cases ha : a = p
    · rw [ha]
      refine ⟨h.b, ?_⟩
      cases c with
      | lst xs => obtain ⟨vs, q, _⟩ := ho; exact ⟨_, q⟩
      | dk xs => obtain ⟨vs, q, _⟩ := ho; exact ⟨_, q⟩
      | dt xs => obtain ⟨vs, q, _⟩ := ho; exact ⟨_, q⟩
    · rw [pl1_ne ha] at e
      exact ⟨r.hr.bpl a P e, r.hr.plh a P e⟩
  · rcases env_set (i := i) (y := .own c) (v := .ref p) (P := fun j y o => SlotR C.K (w.pl1 p (some (.slot i))) C.H0 H j y o) r.len (fun _ => ⟨p, rfl, pl1_same, h.h0, OwnR.mv l rfl ho⟩) j y e with ⟨_, e1, e2⟩ | h
    · exact .inl ⟨e1, e2, fun z => z⟩
    · exact .inr h
/-- a container of a slot's own is written -/
theorem Rel.mutS (r : Rel C s w σ H) {a : Addr} {c c' : Own} {o o' : HO} (hi : s.ρ[i]? = some (.own c)) (ha : σ[i]?.join = some (.ref a)) (hH : H a = some o) (ho : OwnR C.K w (upd H a o') a c') :
    Rel C (s.set i (.own c')) w σ (upd H a o') := by
  obtain ⟨a', e1, p, z, _⟩ := (show ∃ a, σ[i]?.join = some (.ref a) ∧ w.pl a = some (.slot i) ∧ C.H0 a = none ∧ OwnR C.K w H a c from r.env i _ hi)
  rw [ha] at e1; cases e1
  have hne : ∀ b P, w.pl b = some P → P ≠ .slot i → b ≠ a := fun b P e n q => by rw [q, p] at e; cases e; exact n rfl
  have hB := r.hr.bpl a _ p
  refine r.move (ch := fun P => P = .slot i) ⟨.refl w, fun b P e n => ⟨e, upd_ne (hne b P e n)⟩⟩ (fun b u e => ?_) (fun b P e => ⟨r.hr.bpl b P e, ?_⟩) rfl (fun b u e _ => ?_) rfl
    (fun n c e => .inl ⟨e, (fun z => nomatch z), (fun _ z => nomatch z)⟩) (fun b u e q _ => ?_) (fun b u e z => ⟨z, fun q => q⟩) (fun _ _ _ _ => rfl) (fun b u _ e h1 h2 _ => ⟨by rw [upd_ne (fun q => by rw [q, p] at h2; cases h2)]; exact e, h1, h2⟩) ?_ (fun j y e => ?_)
  · rw [upd_ne (fun q => by rw [q, hB] at e; cases e)]; exact r.hr.sub b u e
  · by_cases q : b = a
    · rw [q]; exact ⟨_, upd_same⟩
    · rw [upd_ne q]; exact r.hr.plh b P e
  · by_cases q : b = a
    · rw [q]; exact ⟨_, upd_same⟩
    · rw [upd_ne q]; exact ⟨u, e⟩
  · rw [upd_ne (fun h => by
      rw [h, z] at q
      rcases q with q | ⟨_, q⟩ <;> cases q)]; exact e
  · show σ.length = (s.ρ.set i _).length
    rw [List.length_set]; exact r.len
  · have e : (s.ρ.set i (.own c'))[j]? = some y := e
    by_cases hj : j = i
    · subst hj
      obtain ⟨h1, h2⟩ := lt_of_set e
      subst h2
      exact .inr ⟨a, ha, p, z, ho⟩
    · rw [List.getElem?_set_ne (Ne.symm hj)] at e
      exact .inl ⟨e, rfl, fun q => by cases q; exact hj rfl⟩
/-- a cell that is a list or dict is written -/
theorem Rel.mutC (r : Rel C s w σ H) {n : Nat} {a : Addr} {c c' : Own} {o' : HO} (hi : s.M[n]? = some (.own c)) (ha : w.ι n = some a) (ho : OwnR C.K w (upd H a o') a c') :
    Rel C ⟨s.ρ, s.M.set n (.own c')⟩ w σ (upd H a o') := by
  obtain ⟨a', e1, p, h1⟩ := r.hr.cell n _ hi
  rw [ha] at e1; cases e1
  have hne : ∀ b P, w.pl b = some P → P ≠ .cell n → b ≠ a := fun b P e n q => by rw [q, p] at e; cases e; exact n rfl
  have hB := r.hr.bpl a _ p
  have hst : w.st a := .inl ⟨n, p⟩
  refine r.move (ch := fun P => P = .cell n) ⟨.refl w, fun b P e n => ⟨e, upd_ne (hne b P e n)⟩⟩ (fun b u e => ?_) (fun b P e => ⟨r.hr.bpl b P e, ?_⟩) rfl (fun b u e _ => ?_) (List.length_set ..)
    (fun m c e => ?_) (fun b u e q z => ?_) (fun b u e z => ⟨z, fun q => q⟩) (fun _ _ _ _ => rfl) (fun b u _ e h1 h2 _ => ⟨by rw [upd_ne (fun q => by rw [q, p] at h2; cases h2)]; exact e, h1, h2⟩) r.len (fun j y e => .inl ⟨e, rfl, fun q => nomatch q⟩)
  · rw [upd_ne (fun q => by rw [q, hB] at e; cases e)]; exact r.hr.sub b u e
  · by_cases q : b = a
    · rw [q]; exact ⟨_, upd_same⟩
    · rw [upd_ne q]; exact r.hr.plh b P e
  · by_cases q : b = a
    · rw [q]; exact ⟨_, upd_same⟩
    · rw [upd_ne q]; exact ⟨u, e⟩
  · have e : (s.M.set n (.own c'))[m]? = some c := e
    by_cases hj : m = n
    · subst hj
      obtain ⟨h1, h2⟩ := lt_of_set e
      subst h2
      exact .inr ⟨a, ha, p, ho⟩
    · rw [List.getElem?_set_ne (Ne.symm hj)] at e
      exact .inl ⟨e, (fun q => by cases q; exact hj rfl), (fun _ q => nomatch q)⟩
  · rw [upd_ne (fun h => z (by rw [h]; exact hst))]; exact e
/-- a list of a slot's own becomes plain data -/
theorem Rel.freeze (r : Rel C s w σ H) {xs : List D} (hi : s.ρ[i]? = some (.own (.lst xs))) : ∃ w', w.le w' ∧ Rel C (s.set i (.d (.lst xs))) w' σ H := by
  obtain ⟨a, e1, p, z, vs, q1, q2, q3⟩ := (show ∃ a, σ[i]?.join = some (.ref a) ∧ w.pl a = some (.slot i) ∧ C.H0 a = none ∧ ∃ vs, H a = some (.lst vs) ∧ vs.length ≤ sizeLine ∧ DVs C.K w xs vs from r.env i _ hi)
  have hB := r.hr.bpl a _ p
  have l : w.le ((w.put a (.lst vs)).pl1 a none) := ⟨fun _ _ h => h, fun b u e => (Wd.le_put hB).B b u e⟩
  have hne : ∀ b P, w.pl b = some P → P ≠ .slot i → b ≠ a := fun b P e n q => by rw [q, p] at e; cases e; exact n rfl
  refine ⟨(w.put a (.lst vs)).pl1 a none, l, r.move (ch := fun P => P = .slot i) ⟨l, fun b P e n => ⟨by rw [pl1_ne (hne b P e n)]; exact e, rfl⟩⟩ (fun b u e => ?_) (fun b P e => ?_) rfl (fun b u e _ => ⟨u, e⟩) rfl
    (fun n c e => .inl ⟨e, (fun z => nomatch z), (fun _ z => nomatch z)⟩) (fun b u e q _ => e) (fun b u e z' => ⟨?_, fun q => ?_⟩) (fun b u e _ => pl1_ne (fun q => by rw [q, z] at e; cases e)) (fun b u _ e h1 h2 _ => ⟨e, by show upd w.B a (.lst vs) b = none; rw [upd_ne (fun q => by rw [q, p] at h2; cases h2)]; exact h1, by rw [pl1_ne (fun q => by rw [q, p] at h2; cases h2)]; exact h2⟩) ?_ (fun j y e => ?_)⟩
  · have e' : upd w.B a (.lst vs) b = some u := e
    by_cases q : b = a
    · rw [q, upd_same] at e'; rw [q, q1]; exact e'
    · rw [upd_ne q] at e'; exact r.hr.sub b u e'
  · by_cases q : b = a
    · rw [q, pl1_same] at e; cases e
    · rw [pl1_ne q] at e
      refine ⟨?_, r.hr.plh b P e⟩
      show upd w.B a (.lst vs) b = none
      rw [upd_ne q]; exact r.hr.bpl b P e
  · intro q
    unfold Wd.st at q
    by_cases h : b = a
    · rw [h, z] at e; cases e
    · rw [pl1_ne h] at q; exact z' q
  · show upd w.B a (.lst vs) b = none
    rw [upd_ne (fun h => by rw [h, z] at e; cases e)]; exact q
  · show σ.length = (s.ρ.set i _).length
    rw [List.length_set]; exact r.len
  · have e : (s.ρ.set i (.d (.lst xs)))[j]? = some y := e
    by_cases hj : j = i
    · subst hj
      obtain ⟨h1, h2⟩ := lt_of_set e
      subst h2
      exact .inr ⟨.ref a, e1, a, vs, rfl, upd_same, q2, DVs.mono l _ _ q3⟩
    · rw [List.getElem?_set_ne (Ne.symm hj)] at e
      exact .inl ⟨e, rfl, fun q => by cases q; exact hj rfl⟩
/-- a slot is forgotten -/
theorem Rel.forget (r : Rel C s w σ H) {ρ : List Slot} (hl : ρ.length = s.ρ.length) (h : ∀ (j : Nat) (y : Slot), ρ[j]? = some y → s.ρ[j]? = some y ∨ y = Slot.no) : Rel C ⟨ρ, s.M⟩ w σ H :=
  ⟨r.hr, r.go, by rw [r.len]; exact hl.symm, fun j y e => by
    rcases h j y e with e1 | e1
    · exact r.env j y e1
    · subst e1; exact trivial, r.pin⟩
end
end DL

set_option maxHeartbeats 4000000
namespace DL
open PySem PySem.Spec PyProof.Rows L2

/-! ### what the pieces mean -/
abbrev cap : Nat := 1000000
theorem cap_le {n : Nat} (h : n ≤ cap) : n ≤ sizeLine := Nat.le_trans h (by decide)
def dVar (i : Nat) : Den := fun s => match s.ρ[i]? with
  | some (.d x) => .ok x s
  | _ => .no
def dC (x : D) : Den := fun s => .ok x s
def dOp (f : D → D → S → R D) (da db : Den) : Den := fun s => (da s).bind fun x s1 => (db s1).bind fun y s2 => f x y s2
def dUn (f : D → S → R D) (da : Den) : Den := fun s => (da s).bind fun x s1 => f x s1
def aNil : DenA := fun s => .ok [] s
def aCons (da : Den) (dr : DenA) : DenA := fun s => (da s).bind fun x s1 => (dr s1).bind fun xs s2 => .ok (x :: xs) s2
def lim (xs : List D) (s : S) : R (List D) := if xs.length ≤ cap then .ok xs s else .no
def fDisp (da : DenA) : DenA := fun s => (da s).bind lim
def dLst (df : DenA) : Den := fun s => (df s).bind fun xs s1 => .ok (.lst xs) s1
def dTup (da : DenA) : Den := fun s => (da s).bind fun xs s1 => if xs.length ≤ cap then .ok (.tup xs) s1 else .no
def listOf (s : S) : D → Option (List D)
  | .lst xs => some xs
  | .ptr n => match s.M[n]? with
    | some (.own (.lst xs)) => some xs
    | _ => none
  | _ => none
def seqOf (s : S) : D → Option (List D)
  | .tup xs => some xs
  | .rol ns => some (ns.map D.int)
  | d => listOf s d

section
variable {C : Ctx} {X : Cx} {s : S} {w : Wd} {σ : L2.St} {H : Hp}
theorem listOf_at (r : Rel C s w σ H) {d : D} {v : V} {xs : List D} (h : DV C.K w d v) (e : listOf s d = some xs) : ∃ a vs, v = .ref a ∧ H a = some (.lst vs) ∧ vs.length ≤ sizeLine ∧ DVs C.K w xs vs := by
  cases d with
  | lst ys =>
    obtain ⟨a, vs, e1, q, z, t⟩ := (show ∃ a vs, v = .ref a ∧ w.B a = some (.lst vs) ∧ vs.length ≤ sizeLine ∧ DVs C.K w ys vs from h)
    cases e
    exact ⟨a, vs, e1, r.hr.sub _ _ q, z, t⟩
  | ptr n =>
    obtain ⟨a, e1, q⟩ := (show ∃ a, v = .ref a ∧ w.ι n = some a from h)
    cases e2 : s.M[n]? with
    | none => simp [listOf, e2] at e
    | some c =>
      cases c with
      | own o =>
        cases o with
        | lst ys =>
          simp [listOf, e2] at e
          subst e
          obtain ⟨a', q1, p, vs, h1, h2, h3⟩ := r.hr.cell n _ e2
          rw [q] at q1; cases q1
          exact ⟨a, vs, e1, h1, h2, h3⟩
        | dk _ => simp [listOf, e2] at e
        | dt _ => simp [listOf, e2] at e
      | obj _ _ => simp [listOf, e2] at e
      | dead => simp [listOf, e2] at e
  | _ => cases e
theorem seqOf_at (r : Rel C s w σ H) {d : D} {v : V} {xs : List D} (h : DV C.K w d v) (e : seqOf s d = some xs) : ∃ a vs, v = .ref a ∧ (SqL C.K H a vs ∨ SqT C.K H a vs) ∧ DVs C.K w xs vs := by
  have lst : ∀ d, DV C.K w d v → listOf s d = some xs → ∃ a vs, v = .ref a ∧ (SqL C.K H a vs ∨ SqT C.K H a vs) ∧ DVs C.K w xs vs := fun d h e => by
    obtain ⟨a, vs, h1, h2, _, h3⟩ := listOf_at r h e
    exact ⟨a, vs, h1, .inl (SqL.of h2), h3⟩
  cases d with
  | tup ys =>
    obtain ⟨a, vs, e1, q, z, t⟩ := (show ∃ a vs, v = .ref a ∧ SqT C.K w.B a vs ∧ vs.length ≤ sizeLine ∧ DVs C.K w ys vs from h)
    cases e
    exact ⟨a, vs, e1, .inr (sqT_mono r.hr.sub q), t⟩
  | rol ns =>
    obtain ⟨a, e1, q⟩ := (show ∃ a, v = .ref a ∧ SqL C.K w.B a (ns.map V.int) from h)
    cases e
    exact ⟨a, _, e1, .inl (sqL_mono r.hr.sub q), DVs.ints ns⟩
  | lst ys => exact lst _ h e
  | ptr n => exact lst _ h e
  | non => exact lst _ h e
  | bl b => exact lst _ h e
  | int i => exact lst _ h e
  | str x => exact lst _ h e
  | dic _ => exact lst _ h e
  | obj _ _ => exact lst _ h e

/-! ### names, constants, displays -/
theorem de_var (i : Nat) {x : Str} {pos : Pos} (hN : X.N[i]? = some x := by rfl) (hv : Vis X.env.scope x := by first | exact Or.inl rfl | exact Or.inr (Or.inl rfl) | exact Or.inr (Or.inr rfl)) (hd : (x == ("__debug__" : Str)) = false := by decide)
    (hcd : (x == ("__classdict__" : Str)) = false := by decide) : DE C X (.Name x pos) (dVar i) := PE.imp (pe_var hN hv hd hcd) fun σ H Q ⟨s, w, r, h⟩ => by
  unfold dVar at h
  cases e : s.ρ[i]? with
  | none => rw [e] at h; exact (show False from h).elim
  | some y =>
    rw [e] at h
    cases y with
    | d x =>
      obtain ⟨v, e1, e2⟩ := (show ∃ v, σ[i]?.join = some v ∧ DV C.K w x v from r.env i _ e)
      refine ⟨v, ?_, h w H v (.refl w) r e2⟩
      cases q : σ[i]? with
      | none => rw [q] at e1; cases e1
      | some o => rw [q] at e1; cases o with
        | none => cases e1
        | some u => cases e1; rfl
    | no => exact (show False from h).elim
    | own _ => exact (show False from h).elim
theorem de_c {e : Expr} {v : V} {x : D} (h : PE X e (tC v)) (dv : ∀ K w, DV K w x v) : DE C X e (dC x) := PE.imp h fun σ H Q ⟨s, w, r, h⟩ => h w H v (.refl w) r (dv _ _)
theorem de_int {i j pos} : DE C X (.Constant (.int i) j pos) (dC (.int i)) := de_c pe_int fun _ _ => rfl
theorem de_bl {i j pos} : DE C X (.Constant (.bool i) j pos) (dC (.bl i)) := de_c pe_bl fun _ _ => rfl
theorem de_non {j pos} : DE C X (.Constant .none j pos) (dC .non) := de_c pe_non fun _ _ => rfl
def okS (x : Str) : Bool := PyData.strOk x && decide (x.length ≤ cap)
theorem okS_dv {K : PySem.W.Frag} {x : Str} (h : okS x = true) : DV K w (.str x) (.str x) := by
  have h := Bool.and_eq_true_iff.mp h
  exact ⟨rfl, h.1, cap_le (of_decide_eq_true h.2)⟩
theorem de_str {x j pos} (h : okS x = true := by decide +kernel) : DE C X (.Constant (.str x) j pos) (dC (.str x)) := de_c pe_str fun _ _ => okS_dv h
/-- a module's constant -/
theorem de_glob {x : Str} {v : V} {u : Value} {pos : Pos} {d : D} (hg : Gl X x) (hm : X.mg x = some u) (r : RelV v u) (dv : ∀ K w, DV K w d v) (hd : (x == ("__debug__" : Str)) = false := by decide) : DE C X (.Name x pos) (dC d) := de_c (pe_glob hg hm r hd) dv
theorem da_nil : DA C X [] aNil := PA.imp pa_nil fun σ H Q ⟨s, w, r, h⟩ => h w H [] (.refl w) r rfl
theorem da_cons {e : Expr} {es : List Expr} {da : Den} {dr : DenA} (ha : DE C X e da) (hr : DA C X es dr) (hs : starEach (e :: es) X.env = (false, eval e X.env) :: starEach es X.env := by rfl) : DA C X (e :: es) (aCons da dr) :=
  PA.imp (pa_cons ha hr hs) fun σ H Q ⟨s, w, r, h⟩ => seqE (Z := postA C w σ Q) (fun z => z) (fun _ _ z => z) r h fun x s1 w1 H1 v l1 r1 d1 h1 =>
    seqA (Z := postA C w1 σ Q) (fun z => z) (fun _ _ z => z) r1 (postA_le l1 h1) fun xs s2 w2 H2 vs l2 r2 d2 h2 => h2 w2 H2 (v :: vs) l2 r2 ⟨v, vs, rfl, DV.mono l2 _ _ d1, d2⟩
/-- a list made, put to the plain data -/
theorem de_of {e : Expr} {df : DenA} (h : DF C X e df) : DE C X e (dLst df) := PE.imp h fun σ H Q ⟨s, w, r, h⟩ => by
  refine ⟨s, w, r, ?_⟩
  unfold dLst at h
  cases e : df s with
  | ok xs s1 =>
    rw [e, R.bind_ok] at h
    intro w' H' p vs l r' lo hp hz hv
    obtain ⟨l2, r2⟩ := r'.adopt lo hp
    exact h _ H' (.ref p) (l.trans l2) r2 (DV.newL hz l2 hv)
  | ex c s1 => rw [e, R.bind_ex] at h; exact h
  | no => rw [e, R.bind_no] at h; exact h
theorem df_lst {es : List Expr} {da : DenA} {pos : Pos} (h : DA C X es da) : DF C X (.List es pos) (fDisp da) := PE.imp (pe_lst h) fun σ H Q ⟨s, w, r, h⟩ => 
    seqA (Z := postF C w σ Q) (fun z => z) (fun _ _ z => z) r h fun xs s1 w1 H1 vs l1 r1 d1 h1 => by
  unfold lim at h1
  have hl := d1.length
  split at h1
  · rename_i hc
    refine ⟨cap_le (by rw [hl]; exact hc), fun p hp => ?_⟩
    exact h1 w1 _ p vs l1 (r1.new hp) (r1.loose hp) upd_same (cap_le (by rw [hl]; exact hc)) d1
  · exact h1.elim
theorem de_tup {es : List Expr} {da : DenA} {j} {pos : Pos} (h : DA C X es da) : DE C X (.Tuple es j pos) (dTup da) := PE.imp (pe_tup h) fun σ H Q ⟨s, w, r, h⟩ => 
    seqA (Z := post C (DV C.K) w σ Q) (fun z => z) (fun _ _ z => z) r h fun xs s1 w1 H1 vs l1 r1 d1 h1 => by
  have hl := d1.length
  split at h1
  · rename_i hc
    refine ⟨cap_le (by rw [hl]; exact hc), fun p hp => ?_⟩
    obtain ⟨l2, r2⟩ := r1.put (o := .tup vs) hp
    exact h1 _ _ (.ref p) (l1.trans l2) r2 (DV.newT (cap_le (by rw [hl]; exact hc)) l2 d1)
  · exact h1.elim

/-! ### operators -/
def OpF (C : Ctx) (X : Cx) (f : Value → Value → Sem Value) (fd : D → D → S → R D) : Prop :=
  ∃ r : R2, OpR X f r ∧ ∀ s w σ H x y vx vy Q, Rel C s w σ H → DV C.K w x vx → DV C.K w y vy → post C (DV C.K) w σ Q (fd x y s) → r vx vy H Q
theorem op_use {fd : D → D → S → R D} {r : R2} {da db : Den} {Q : VK} (hf : ∀ s w σ H x y vx vy Q, Rel C s w σ H → DV C.K w x vx → DV C.K w y vy → post C (DV C.K) w σ Q (fd x y s) → r vx vy H Q)
    (h : tD C (dOp fd da db) σ H Q) : tOp r (tD C da) (tD C db) σ H Q := by
  obtain ⟨s, w, R1, h⟩ := h
  exact seqE (Z := post C (DV C.K) w σ Q) (fun z => z) (fun _ _ z => z) R1 h fun x s1 w1 H1 v l1 r1 d1 h1 =>
    seqE (Z := post C (DV C.K) w1 σ Q) (fun z => z) (fun _ _ z => z) r1 (post_le l1 h1) fun y s2 w2 H2 u l2 r2 d2 h2 => hf s2 w2 σ H2 x y v u Q r2 (DV.mono l2 _ _ d1) d2 (post_le l2 h2)
theorem de_op {op : Operator} {fd : D → D → S → R D} {a b : Expr} {da db : Den} {pos : Pos} (ho : OpF C X (binaryOp op) fd) (ha : DE C X a da) (hb : DE C X b db) : DE C X (.BinOp a op b pos) (dOp fd da db) := by
  obtain ⟨r, h1, h2⟩ := ho
  exact PE.imp (pe_op h1 ha hb) fun σ H Q h => op_use h2 h
theorem de_cmp {op : CmpOp} {fd : D → D → S → R D} {a b : Expr} {da db : Den} {pos : Pos} (ho : OpF C X (compareOp op) fd) (ha : DE C X a da) (hb : DE C X b db) (hm : behindInMarks op b = false := by first | exact nobehind _ (by decide) (by decide) | rfl) :
    DE C X (.Compare a [op] [b] pos) (dOp fd da db) := by
  obtain ⟨r, h1, h2⟩ := ho
  exact PE.imp (pe_cmpR h1 ha hb hm) fun σ H Q h => op_use h2 h
def toB (d : D) (s : S) : R Bool := match d with
  | .bl b => .ok b s
  | _ => .no
def dB (den : Den) : DenT := fun s => (den s).bind toB
theorem dB_use {den : Den} {Q : Bool → Hp → Prop} (h : tT C (dB den) σ H Q) : tD C den σ H fun x H' => ∃ k, x = .bl k ∧ Q k H' := by
  obtain ⟨s, w, R1, h⟩ := h
  refine seqE (Z := postT C w σ Q) (fun z => z) (fun _ _ z => z) R1 h fun x s1 w1 H1 v l1 r1 d1 h1 => ?_
  cases x with
  | bl b => exact ⟨b, d1, h1 w1 H1 l1 r1⟩
  | _ => exact (show False from h1).elim
theorem dt_cmp {op : CmpOp} {fd : D → D → S → R D} {a b : Expr} {da db : Den} {pos : Pos} (ho : OpF C X (compareOp op) fd) (ha : DE C X a da) (hb : DE C X b db) (hm : behindInMarks op b = false := by first | exact nobehind _ (by decide) (by decide) | rfl) :
    DT C X (.Compare a [op] [b] pos) (dB (dOp fd da db)) := by
  obtain ⟨r, h1, h2⟩ := ho
  exact PT.imp (pt_cmpR h1 ha hb hm) fun σ H Q h => op_use h2 (dB_use h)
def dChain (f g : D → D → S → R D) (da db dc : Den) : Den := fun s => (da s).bind fun x s1 => (db s1).bind fun y s2 => (f x y s2).bind fun z s3 => match z with
  | .bl true => (dc s3).bind fun u s4 => g y u s4
  | .bl false => .ok (.bl false) s3
  | _ => .no
theorem chain_use {f g : D → D → S → R D} {r r' : R2} {da db dc : Den} {Q : VK}
    (hf : ∀ s w σ H x y vx vy Q, Rel C s w σ H → DV C.K w x vx → DV C.K w y vy → post C (DV C.K) w σ Q (f x y s) → r vx vy H Q)
    (hg : ∀ s w σ H x y vx vy Q, Rel C s w σ H → DV C.K w x vx → DV C.K w y vy → post C (DV C.K) w σ Q (g x y s) → r' vx vy H Q)
    (h : tD C (dChain f g da db dc) σ H Q) : tChain r r' (tD C da) (tD C db) (tD C dc) σ H Q := by
  obtain ⟨s, w, R1, h⟩ := h
  refine seqE (Z := post C (DV C.K) w σ Q) (fun z => z) (fun _ _ z => z) R1 h fun x s1 w1 H1 v l1 r1 d1 h1 =>
    seqE (Z := post C (DV C.K) w1 σ Q) (fun z => z) (fun _ _ z => z) r1 (post_le l1 h1) fun y s2 w2 H2 u l2 r2 d2 h2 => ?_
  have h2 := post_le l2 h2
  refine hf s2 w2 σ H2 x y v u _ r2 (DV.mono l2 _ _ d1) d2 ?_
  cases e : f x y s2 with
  | ok z s3 =>
    rw [e, R.bind_ok] at h2
    intro w3 H3 vz l3 r3 d3
    cases z with
    | bl b =>
      cases d3
      cases b with
      | true =>
        refine ⟨true, rfl, ?_⟩
        rw [if_pos rfl]
        exact seqE (Z := post C (DV C.K) w3 σ Q) (fun z => z) (fun _ _ z => z) r3 (post_le l3 h2) fun u' s4 w4 H4 vu l4 r4 d4 h4 => hg s4 w4 σ H4 y u' u vu Q r4 (DV.mono (l3.trans l4) _ _ d2) d4 (post_le l4 h4)
      | false =>
        refine ⟨false, rfl, ?_⟩
        rw [if_neg Bool.false_ne_true]
        exact h2 w3 H3 _ l3 r3 rfl
    | _ => exact (show False from h2).elim
  | ex c s3 => rw [e, R.bind_ex] at h2; exact h2
  | no => rw [e, R.bind_no] at h2; exact h2
theorem de_chain {op op' : CmpOp} {f g : D → D → S → R D} {a b c : Expr} {da db dc : Den} {pos : Pos} (ho : OpF C X (compareOp op) f) (ho' : OpF C X (compareOp op') g) (ha : DE C X a da) (hb : DE C X b db) (hc : DE C X c dc)
    (hm : lastMarks [op, op'] [b, c] = false := by with_unfolding_all rfl) : DE C X (.Compare a [op, op'] [b, c] pos) (dChain f g da db dc) := by
  obtain ⟨r, h1, h2⟩ := ho
  obtain ⟨r', h3, h4⟩ := ho'
  exact PE.imp (pe_chain h1 h3 ha hb hc hm) fun σ H Q h => chain_use h2 h4 h
theorem dt_chain {op op' : CmpOp} {f g : D → D → S → R D} {a b c : Expr} {da db dc : Den} {pos : Pos} (ho : OpF C X (compareOp op) f) (ho' : OpF C X (compareOp op') g) (ha : DE C X a da) (hb : DE C X b db) (hc : DE C X c dc)
    (hm : lastMarks [op, op'] [b, c] = false := by with_unfolding_all rfl) : DT C X (.Compare a [op, op'] [b, c] pos) (dB (dChain f g da db dc)) := by
  obtain ⟨r, h1, h2⟩ := ho
  obtain ⟨r', h3, h4⟩ := ho'
  exact PT.imp (pt_chain h1 h3 ha hb hc hm) fun σ H Q h => chain_use h2 h4 (dB_use h)

/-! the single operators -/
def fLt (x y : D) (s : S) : R D := match x, y with
  | .int i, .int j => .ok (.bl (decide (i < j))) s
  | .str a, .str b => .ok (.bl (decide (a.cps.toList < b.cps.toList))) s
  | _, _ => .no
def fI (p : Int → Int → Bool) (x y : D) (s : S) : R D := match x, y with
  | .int i, .int j => .ok (.bl (p i j)) s
  | _, _ => .no
abbrev fLe := fI fun i j => decide (i ≤ j)
abbrev fGt := fI fun i j => decide (j < i)
abbrev fGe := fI fun i j => decide (j ≤ i)
theorem opI_use {f : Value → Value → Sem Value} {p : Int → Int → Bool} (h : OpR X f (rI0 fun i j => .bl (p i j))) : OpF C X f (fI p) := by
  refine ⟨_, h, fun s w σ H x y vx vy Q r dx dy h => ?_⟩
  cases x with
  | int i =>
    cases y with
    | int j => exact ⟨i, j, dx, dy, h w H _ (.refl w) r rfl⟩
    | _ => exact (show False from h).elim
  | _ => exact (show False from h).elim
theorem of_le : OpF C X (compareOp .LtE) fLe := opI_use op_le
theorem of_gt : OpF C X (compareOp .Gt) fGt := opI_use op_gt
theorem of_ge : OpF C X (compareOp .GtE) fGe := opI_use op_ge
theorem of_lt : OpF C X (compareOp .Lt) fLt := by
  refine ⟨_, op_lt.or op_lt_str, fun s w σ H x y vx vy Q r dx dy h => ?_⟩
  cases x with
  | int i =>
    cases y with
    | int j => exact .inl ⟨i, j, dx, dy, h w H _ (.refl w) r rfl⟩
    | _ => exact (show False from h).elim
  | str i =>
    cases y with
    | str j => exact .inr ⟨i, j, dx.1, dy.1, h w H _ (.refl w) r rfl⟩
    | _ => exact (show False from h).elim
  | _ => exact (show False from h).elim
/-- arithmetic -/
def fA (p : Int → Int → Option Int) (x y : D) (s : S) : R D := match x, y with
  | .int i, .int j => match p i j with
    | some k => .ok (.int k) s
    | none => .no
  | _, _ => .no
theorem opA_use {f : Value → Value → Sem Value} {g : Int → Int → Int} {c : Int → Int → Prop} {p : Int → Int → Option Int} (h : OpR X f (rI c fun i j => .int (g i j))) (hp : ∀ i j k, p i j = some k → c i j ∧ g i j = k) : OpF C X f (fA p) := by
  refine ⟨_, h, fun s w σ H x y vx vy Q r dx dy h => ?_⟩
  cases x with
  | int i =>
    cases y with
    | int j =>
      unfold fA at h
      simp only at h
      cases e : p i j with
      | none => rw [e] at h; exact (show False from h).elim
      | some k =>
        rw [e] at h
        obtain ⟨h1, h2⟩ := hp i j k e
        exact ⟨i, j, dx, dy, h1, by show Q (.int (g i j)) H; rw [h2]; exact h w H _ (.refl w) r rfl⟩
    | _ => exact (show False from h).elim
  | _ => exact (show False from h).elim
theorem opA0 {f : Value → Value → Sem Value} {g : Int → Int → Int} (h : OpR X f (rI0 fun i j => .int (g i j))) : OpR X f (rI (fun _ _ => True) fun i j => .int (g i j)) :=
  fun pins s σ H x y v u Q I rx ry ⟨i, j, e1, e2, _, q⟩ => h pins s σ H x y v u Q I rx ry ⟨i, j, e1, e2, q⟩
def pSub (i j : Int) : Option Int := some (i - j)
def pMul (i j : Int) : Option Int := if i.natAbs.log2 + j.natAbs.log2 < 1000000 then some (i * j) else none
def pDiv (i j : Int) : Option Int := if 0 < j ∧ j < 18446744073709551616 then some (i / j) else none
def pMod (i j : Int) : Option Int := if 0 < j then some (i % j) else none
def pPow (i j : Int) : Option Int := if 0 ≤ j ∧ j ≤ 1000000 ∧ i.natAbs < 2 ^ 64 then some (i ^ j.toNat) else none
abbrev fSub := fA pSub
abbrev fDiv := fA pDiv
abbrev fMod := fA pMod
abbrev fPow := fA pPow
theorem of_sub : OpF C X (binaryOp .Sub) fSub := opA_use (opA0 op_sub) fun i j k e => ⟨trivial, Option.some.inj e⟩
theorem of_div : OpF C X (binaryOp .FloorDiv) fDiv := opA_use op_fdivW fun i j k e => by
  unfold pDiv at e
  split at e
  · rename_i h
    exact ⟨wide_div (b := 65) h.1 (by omega) (by decide) (by decide), Option.some.inj e⟩
  · cases e
theorem of_mod : OpF C X (binaryOp .Mod) fMod := opA_use op_mod fun i j k e => by
  unfold pMod at e
  split at e
  · exact ⟨by assumption, Option.some.inj e⟩
  · cases e
theorem of_pow : OpF C X (binaryOp .Pow) fPow := opA_use op_pow fun i j k e => by
  unfold pPow at e
  split at e
  · exact ⟨by assumption, Option.some.inj e⟩
  · cases e
theorem strOk_app {a b : Str} (h : PyData.strOk a = true) (g : PyData.strOk b = true) : PyData.strOk (a ++ b) = true := by
  unfold PyData.strOk at *
  show (a.cps ++ b.cps).all _ = true
  rw [Array.all_append, h, g]; rfl
theorem len_app (a b : Str) : (a ++ b).length = a.length + b.length := by
  show (a.cps ++ b.cps).size = a.cps.size + b.cps.size
  exact Array.size_append
def fAdd (x y : D) (s : S) : R D := match x, y with
  | .int i, .int j => .ok (.int (i + j)) s
  | .str a, .str b => if a.length + b.length ≤ cap then .ok (.str (a ++ b)) s else .no
  | .tup xs, .tup ys => if xs.length + ys.length ≤ cap ∧ xs ≠ [] then .ok (.tup (xs ++ ys)) s else .no
  | x, y => match listOf s x, listOf s y with
    | some xs, some ys => if xs.length + ys.length ≤ cap then .ok (.lst (xs ++ ys)) s else .no
    | _, _ => .no
theorem DVs.ne {xs : List D} {vs : List V} (h : DVs C.K w xs vs) : vs = [] ↔ xs = [] := by
  have := h.length
  rw [← List.length_eq_zero_iff, ← List.length_eq_zero_iff, this]
theorem cat_use {x y : D} {xs ys : List D} {vx vy : V} {Q : VK} (r : Rel C s w σ H) (dx : DV C.K w x vx) (dy : DV C.K w y vy) (ex : listOf s x = some xs) (ey : listOf s y = some ys) (hl : xs.length + ys.length ≤ cap)
    (h : post C (DV C.K) w σ Q (.ok (.lst (xs ++ ys)) s)) : rCat vx vy H Q := by
  obtain ⟨a, vs, e1, h1, z1, d1⟩ := listOf_at r dx ex
  obtain ⟨b, us, e2, h2, z2, d2⟩ := listOf_at r dy ey
  have hl2 : vs.length + us.length ≤ sizeLine := cap_le (by rw [d1.length, d2.length]; exact hl)
  refine ⟨a, b, vs, us, e1, e2, h1, h2, hl2, fun p hp => ?_⟩
  obtain ⟨l2, r2⟩ := r.put (o := .lst (vs ++ us)) hp
  exact h _ _ (.ref p) l2 r2 (DV.newL (by rw [List.length_append]; exact hl2) l2 (d1.append d2))
theorem of_add (hK : X.K = C.K := by rfl) : OpF C X (binaryOp .Add) fAdd := by
  refine ⟨_, (op_add.or op_add_str).or (op_catT.or op_cat), fun s w σ H x y vx vy Q r dx dy h => ?_⟩
  have lst : ∀ x y, DV C.K w x vx → DV C.K w y vy → post C (DV C.K) w σ Q (match listOf s x, listOf s y with
      | some xs, some ys => if xs.length + ys.length ≤ cap then R.ok (D.lst (xs ++ ys)) s else .no
      | _, _ => .no) → rCat vx vy H Q := fun x y dx dy h => by
    cases e1 : listOf s x with
    | none => rw [e1] at h; exact (show False from h).elim
    | some xs =>
      cases e2 : listOf s y with
      | none => rw [e1, e2] at h; exact (show False from h).elim
      | some ys =>
        rw [e1, e2] at h
        simp only at h
        split at h
        · exact cat_use r dx dy e1 e2 (by assumption) h
        · exact (show False from h).elim
  cases x with
  | int i =>
    cases y with
    | int j => exact .inl (.inl ⟨i, j, dx, dy, h w H _ (.refl w) r rfl⟩)
    | _ => exact .inr (.inr (lst _ _ dx dy h))
  | str i =>
    cases y with
    | str j =>
      unfold fAdd at h
      simp only at h
      split at h
      · rename_i hc
        exact .inl (.inr ⟨i, j, dx.1, dy.1, cap_le hc, h w H _ (.refl w) r ⟨rfl, strOk_app dx.2.1 dy.2.1, cap_le (by rw [len_app]; exact hc)⟩⟩)
      · exact (show False from h).elim
    | _ => exact .inr (.inr (lst _ _ dx dy h))
  | tup xs =>
    cases y with
    | tup ys =>
      unfold fAdd at h
      simp only at h
      split at h
      · rename_i hc
        obtain ⟨a, vs, e1, q1, z1, t1⟩ := (show ∃ a vs, vx = .ref a ∧ SqT C.K w.B a vs ∧ vs.length ≤ sizeLine ∧ DVs C.K w xs vs from dx)
        obtain ⟨b, us, e2, q2, z2, t2⟩ := (show ∃ a vs, vy = .ref a ∧ SqT C.K w.B a vs ∧ vs.length ≤ sizeLine ∧ DVs C.K w ys vs from dy)
        have hl2 : vs.length + us.length ≤ sizeLine := cap_le (by rw [t1.length, t2.length]; exact hc.1)
        refine .inr (.inl ⟨a, b, vs, us, e1, e2, by rw [hK]; exact sqT_mono r.hr.sub q1, by rw [hK]; exact sqT_mono r.hr.sub q2, fun z => hc.2 (t1.ne.mp z), hl2, fun z => ?_, fun z p hp => ?_⟩)
        · have : ys = [] := t2.ne.mp z
          subst this
          refine h w H _ (.refl w) r ⟨a, vs, rfl, q1, z1, ?_⟩
          rw [List.append_nil]; exact t1
        · obtain ⟨l2, r2⟩ := r.put (o := .tup (vs ++ us)) hp
          exact h _ _ (.ref p) l2 r2 (DV.newT (by rw [List.length_append]; exact hl2) l2 (t1.append t2))
      · exact (show False from h).elim
    | _ => exact .inr (.inr (lst _ _ dx dy h))
  | _ => exact .inr (.inr (lst _ _ dx dy h))
/-- one factor is no greater than a word, or both are not too great together -/
def mulOk (i j : Int) : Bool := (decide (-18446744073709551616 < j) && decide (j < 18446744073709551616)) || ((decide (-18446744073709551616 < i) && decide (i < 18446744073709551616)) || decide (i.natAbs.log2 + j.natAbs.log2 < 1000000))
def fMul (x y : D) (s : S) : R D := match x, y with
  | .int i, .int j => if mulOk i j = true then .ok (.int (i * j)) s else .no
  | x, .int k => match listOf s x with
    | some xs => if xs.length * k.toNat ≤ cap ∧ -(2 ^ 63) ≤ k ∧ k < 2 ^ 63 then .ok (.lst (List.replicate k.toNat xs).flatten) s else .no
    | none => .no
  | _, _ => .no
theorem DVs.rep {xs : List D} {vs : List V} (h : DVs C.K w xs vs) : ∀ n, DVs C.K w (List.replicate n xs).flatten (List.replicate n vs).flatten
  | 0 => rfl
  | n + 1 => by
    rw [List.replicate_succ, List.replicate_succ, List.flatten_cons, List.flatten_cons]
    exact h.append (DVs.rep h n)
theorem len_rep {α : Type} (xs : List α) : ∀ n, (List.replicate n xs).flatten.length = xs.length * n
  | 0 => rfl
  | n + 1 => by rw [List.replicate_succ, List.flatten_cons, List.length_append, len_rep xs n, Nat.mul_succ, Nat.add_comm]
theorem of_mul : OpF C X (binaryOp .Mult) fMul := by
  refine ⟨_, (op_mulW.or op_mul).or op_rep, fun s w σ H x y vx vy Q r dx dy h => ?_⟩
  cases y with
  | int k =>
    have lst : ∀ x, DV C.K w x vx → post C (DV C.K) w σ Q (match listOf s x with
      | some xs => if xs.length * k.toNat ≤ cap ∧ -(2 ^ 63) ≤ k ∧ k < 2 ^ 63 then R.ok (D.lst (List.replicate k.toNat xs).flatten) s else .no
      | none => .no) → rRep vx vy H Q := fun x dx h => by
      cases e1 : listOf s x with
      | none => rw [e1] at h; exact (show False from h).elim
      | some xs =>
        rw [e1] at h
        simp only at h
        split at h
        · rename_i hc
          obtain ⟨a, vs, e1, h1, z1, d1⟩ := listOf_at r dx e1
          have hl : vs.length * k.toNat ≤ sizeLine := cap_le (by rw [d1.length]; exact hc.1)
          refine ⟨a, k, vs, e1, dy, h1, hc.2.1, hc.2.2, hl, fun p hp => ?_⟩
          obtain ⟨l2, r2⟩ := r.put (o := .lst (List.replicate k.toNat vs).flatten) hp
          exact h _ _ (.ref p) l2 r2 (DV.newL (by rw [len_rep]; exact hl) l2 (d1.rep _))
        · exact (show False from h).elim
    cases x with
    | int i =>
      unfold fMul at h
      simp only at h
      split at h
      · rename_i hm
        have q := h w H _ (.refl w) r rfl
        unfold mulOk at hm
        simp only [Bool.or_eq_true, Bool.and_eq_true, decide_eq_true_eq] at hm
        rcases hm with hm | hm | hm
        · exact .inl (.inr ⟨i, k, dx, dy, .inr ⟨by omega, by omega⟩, q⟩)
        · exact .inl (.inr ⟨i, k, dx, dy, .inl ⟨by omega, by omega⟩, q⟩)
        · exact .inl (.inl ⟨i, k, dx, dy, hm, q⟩)
      · exact (show False from h).elim
    | _ => exact .inr (lst _ dx h)
  | _ => 
    cases x <;> exact (show False from h).elim
end
end DL

set_option maxHeartbeats 4000000
namespace DL
open PySem PySem.Spec PyProof.Rows L2

/-! ### equality -/
mutual
def py : D → PyData
  | .non => .none
  | .bl b => .bool b
  | .int i => .int i
  | .str x => .str x
  | .tup xs => .tuple (pys xs)
  | .lst xs => .list (pys xs)
  | .ptr _ => .none
  | .rol ns => .list (ns.map .int)
  | .dic _ => .none
  | .obj _ _ => .none
def pys : List D → List PyData
  | [] => []
  | x :: xs => py x :: pys xs
end
mutual
/-- how deep; what has no plain equality is deeper than all -/
def dp : D → Nat
  | .tup xs => dps xs + 1
  | .lst xs => dps xs + 1
  | .ptr _ => 1000
  | .dic _ => 1000
  | .obj _ _ => 1000
  | .rol _ => 1
  | .non => 0
  | .bl _ => 0
  | .int _ => 0
  | .str _ => 0
def dps : List D → Nat
  | [] => 0
  | x :: xs => max (dp x) (dps xs)
end
def deq (x y : D) : Bool := PyData.eqv (py x) (py y)
section
variable {K : PySem.W.Frag} {w : Wd} {H : Hp}
theorem dpInts : ∀ ns : List Int, DpAll K H (ns.map V.int) (ns.map PyData.int)
  | [] => .nil
  | n :: ns => .cons (.int n) (dpInts ns)
theorem layInts : ∀ ns : List Int, PyData.canLayAll0 (ns.map PyData.int) = true
  | [] => by simp [PyData.canLayAll0]
  | n :: ns => by simp [PyData.canLayAll0, PyData.canLay0, layInts ns]
theorem depInts : ∀ ns : List Int, PyData.depthAll (ns.map PyData.int) = 0
  | [] => by simp [PyData.depthAll]
  | n :: ns => by simp [PyData.depthAll, PyData.depth, depInts ns]
mutual
theorem dp_of (hs : ∀ a o, w.B a = some o → H a = some o) : ∀ (d : D) (v : V), DV K w d v → dp d ≤ 64 → Dp K H v (py d) ∧ (py d).canLay0 = true ∧ (py d).depth = dp d
  | .non, v, h, _ => by
    rw [show v = .non from h]
    exact ⟨.non, rfl, rfl⟩
  | .bl b, v, h, _ => by
    rw [show v = .bl b from h]
    exact ⟨.bl b, rfl, rfl⟩
  | .int i, v, h, _ => by
    rw [show v = .int i from h]
    exact ⟨.int i, rfl, rfl⟩
  | .str x, v, h, _ => by
    rw [show v = .str x from h.1]
    exact ⟨.str x, h.2.1, rfl⟩
  | .tup xs, v, h, z => by
    obtain ⟨a, vs, rfl, q, _, t⟩ := (show ∃ a vs, v = .ref a ∧ SqT K w.B a vs ∧ vs.length ≤ sizeLine ∧ DVs K w xs vs from h)
    have z' : dps xs ≤ 64 := by simp only [dp] at z; omega
    obtain ⟨h1, h2, h3⟩ := dps_of hs xs vs t z'
    exact ⟨.tup (sqT_mono hs q) h1, h2, by simp only [py, PyData.depth, dp]; rw [h3]⟩
  | .lst xs, v, h, z => by
    obtain ⟨a, vs, rfl, q, _, t⟩ := (show ∃ a vs, v = .ref a ∧ w.B a = some (.lst vs) ∧ vs.length ≤ sizeLine ∧ DVs K w xs vs from h)
    have z' : dps xs ≤ 64 := by simp only [dp] at z; omega
    obtain ⟨h1, h2, h3⟩ := dps_of hs xs vs t z'
    exact ⟨.lst (SqL.of (hs _ _ q)) h1, h2, by simp only [py, PyData.depth, dp]; rw [h3]⟩
  | .ptr n, v, h, z => by simp [dp] at z
  | .rol ns, v, h, z => by
    obtain ⟨a, rfl, q⟩ := (show ∃ a, v = .ref a ∧ SqL K w.B a (ns.map V.int) from h)
    exact ⟨.lst (sqL_mono hs q) (dpInts ns), layInts ns, by simp only [py, PyData.depth, dp]; rw [depInts]⟩
  | .dic _, v, h, z => by simp [dp] at z
  | .obj _ _, v, h, z => by simp [dp] at z
theorem dps_of (hs : ∀ a o, w.B a = some o → H a = some o) : ∀ (ds : List D) (vs : List V), DVs K w ds vs → dps ds ≤ 64 → DpAll K H vs (pys ds) ∧ PyData.canLayAll0 (pys ds) = true ∧ PyData.depthAll (pys ds) = dps ds
  | [], vs, h, _ => by
    rw [show vs = [] from h]
    exact ⟨.nil, rfl, rfl⟩
  | x :: xs, vs, h, z => by
    obtain ⟨v, r, rfl, q, t⟩ := (show ∃ v r, vs = v :: r ∧ DV K w x v ∧ DVs K w xs r from h)
    have z' : dp x ≤ 64 ∧ dps xs ≤ 64 := by simp only [dps] at z; omega
    obtain ⟨h1, h2, h3⟩ := dp_of hs x v q z'.1
    obtain ⟨g1, g2, g3⟩ := dps_of hs xs r t z'.2
    exact ⟨.cons h1 g1, by simp only [pys, PyData.canLayAll0, h2, g2, Bool.and_self], by simp only [pys, PyData.depthAll, dps, h3, g3]⟩
end
end
def eqOk (x y : D) : Bool := decide (dp x ≤ 64) && decide (dp y ≤ 64)
def fEq (x y : D) (s : S) : R D := if eqOk x y then .ok (.bl (deq x y)) s else .no
def fNe (x y : D) (s : S) : R D := if eqOk x y then .ok (.bl (!deq x y)) s else .no
section
variable {C : Ctx} {X : Cx} {s : S} {w : Wd} {σ : L2.St} {H : Hp}
theorem shaped_of {d : D} {p : PyData} (h1 : p.canLay0 = true) (h2 : p.depth = dp d) (h : dp d ≤ 64) : SeqAt.shaped p = true := by
  unfold SeqAt.shaped
  rw [h1, h2, decide_eq_true h]; rfl
theorem of_eq (hu : X.A.units + 64 < cLine) (hK : X.K = C.K := by rfl) : OpF C X (compareOp .Eq) fEq := by
  refine ⟨_, op_eqD hu, fun s w σ H x y vx vy Q r dx dy h => ?_⟩
  unfold fEq at h
  split at h
  · rename_i hc
    obtain ⟨z1, z2⟩ := Bool.and_eq_true_iff.mp hc
    have z1 := of_decide_eq_true z1
    have z2 := of_decide_eq_true z2
    obtain ⟨a1, a2, a3⟩ := dp_of r.hr.sub x vx dx z1
    obtain ⟨b1, b2, b3⟩ := dp_of r.hr.sub y vy dy z2
    exact ⟨_, _, by rw [hK]; exact a1, by rw [hK]; exact b1, shaped_of a2 a3 z1, shaped_of b2 b3 z2, h w H _ (.refl w) r rfl⟩
  · exact (show False from h).elim
theorem of_ne (hu : X.A.units + 64 < cLine) (hK : X.K = C.K := by rfl) : OpF C X (compareOp .NotEq) fNe := by
  refine ⟨_, op_neD hu, fun s w σ H x y vx vy Q r dx dy h => ?_⟩
  unfold fNe at h
  split at h
  · rename_i hc
    obtain ⟨z1, z2⟩ := Bool.and_eq_true_iff.mp hc
    have z1 := of_decide_eq_true z1
    have z2 := of_decide_eq_true z2
    obtain ⟨a1, a2, a3⟩ := dp_of r.hr.sub x vx dx z1
    obtain ⟨b1, b2, b3⟩ := dp_of r.hr.sub y vy dy z2
    exact ⟨_, _, by rw [hK]; exact a1, by rw [hK]; exact b1, shaped_of a2 a3 z1, shaped_of b2 b3 z2, h w H _ (.refl w) r rfl⟩
  · exact (show False from h).elim

/-! ### in -/
def rInT (K : PySem.W.Frag) (neg : Bool) : R2 := fun x y H Q => ∃ d ds, Dp K H x d ∧ Dp K H y (.tuple ds) ∧ SeqAt.shaped d = true ∧ SeqAt.shaped (.tuple ds) = true ∧ Q (.bl (if neg then !ds.any fun z => PyData.eqv z d else ds.any fun z => PyData.eqv z d)) H
theorem room_inT {A : Around} {ds : List PyData} {d : PyData} (h : SeqAt.shaped d = true) (hu : A.units + 65 < cLine) : A.units + 1 + min (PyData.depthAll ds) d.depth < cLine := by
  have h1 := SeqAt.depth_of_shaped h
  have h2 : min (PyData.depthAll ds) d.depth ≤ d.depth := Nat.min_le_right _ _
  omega
theorem op_inT (hu : X.A.units + 65 < cLine) : OpR X (compareOp .In) (rInT X.K false) := by
  intro pins s σ H x y v u Q I rx ry h
  obtain ⟨d, ds, hd, he, sd, se, q⟩ := h
  obtain ⟨as, r1⟩ := Dp.reads I d x v hd rx
  obtain ⟨bs, r2⟩ := Dp.reads I (.tuple ds) y u he ry
  exact SeqAt.in_tuple_reads r2 r1 (SeqAt.canLay_of_shaped se) (SeqAt.canLay_of_shaped sd) (room_inT sd hu) ⟨.bl _, H, I, rfl, q⟩
theorem op_niT (hu : X.A.units + 65 < cLine) : OpR X (compareOp .NotIn) (rInT X.K true) := by
  intro pins s σ H x y v u Q I rx ry h
  obtain ⟨d, ds, hd, he, sd, se, q⟩ := h
  obtain ⟨as, r1⟩ := Dp.reads I d x v hd rx
  obtain ⟨bs, r2⟩ := Dp.reads I (.tuple ds) y u he ry
  exact SeqAt.notIn_tuple_reads r2 r1 (SeqAt.canLay_of_shaped se) (SeqAt.canLay_of_shaped sd) (room_inT sd hu) ⟨.bl _, H, I, rfl, q⟩
/-- is x among them -/
def din (x : D) (ys : List D) : Bool := ys.any fun y => deq y x
theorem any_pys (x : D) : ∀ ys : List D, ((pys ys).any fun z => PyData.eqv z (py x)) = din x ys
  | [] => rfl
  | y :: ys => by
    have := any_pys x ys
    simp only [pys, List.any_cons, din, deq] at *
    rw [this]
def inS (a b : Str) : Bool := if a.length = 1 then decide (a.cps.getD 0 0 ∈ b.cps.toList) else !(Builtin.Str.occurrences b a 0 b.length 1).isEmpty
def hasD (x y : D) (s : S) : Option Bool := match x, y with
  | .str a, .str b => some (inS a b)
  | x, .tup ys => if dp x ≤ 64 ∧ dps ys ≤ 63 then some (din x ys) else none
  | x, y => match listOf s y with
    | some ys => if dp x ≤ 64 ∧ dps ys ≤ 63 then some (din x ys) else none
    | none => none
def fIn (x y : D) (s : S) : R D := match hasD x y s with
  | some b => .ok (.bl b) s
  | none => .no
def fNi (x y : D) (s : S) : R D := match hasD x y s with
  | some b => .ok (.bl (!b)) s
  | none => .no
theorem len1 {a : Str} (h : a.length = 1) : a = ⟨#[a.cps.getD 0 0]⟩ := by
  obtain ⟨c⟩ := a
  have h' : c.size = 1 := h
  obtain ⟨l⟩ := c
  have h2 : l.length = 1 := h'
  match l, h2 with
  | [x], _ => rfl
theorem listL (r : Rel C s w σ H) {y : D} {ys : List D} {v : V} (hd : DV C.K w y v) (e : listOf s y = some ys) (z : dps ys ≤ 63) : Dp C.K H v (.list (pys ys)) ∧ SeqAt.shaped (.list (pys ys)) = true := by
  obtain ⟨a, vs, rfl, h1, _, h2⟩ := listOf_at r hd e
  obtain ⟨g1, g2, g3⟩ := dps_of r.hr.sub ys vs h2 (by omega)
  refine ⟨.lst (SqL.of h1) g1, ?_⟩
  unfold SeqAt.shaped
  have e1 : (PyData.list (pys ys)).canLay0 = true := g2
  have e2 : (PyData.list (pys ys)).depth = dps ys + 1 := by simp only [PyData.depth, g3]
  rw [e1, e2, decide_eq_true (by omega)]; rfl
/-- the answer's ways -/
theorem has_use {neg : Bool} {x y : D} {b : Bool} {vx vy : V} {Q : VK} {P1 P2 P3 P4 : Prop} (hK : X.K = C.K) (r : Rel C s w σ H) (dx : DV C.K w x vx) (dy : DV C.K w y vy) (e : hasD x y s = some b) (q : Q (.bl (if neg then !b else b)) H)
    (h1 : ∀ (c : Nat) (z : Str), vx = .str ⟨#[c]⟩ → vy = .str z → Q (.bl (if neg then !decide (c ∈ z.cps.toList) else decide (c ∈ z.cps.toList))) H → P1)
    (h2 : ∀ (i j : Str), vx = .str i → vy = .str j → Q (.bl (if neg then !(!(Builtin.Str.occurrences j i 0 j.length 1).isEmpty) else !(Builtin.Str.occurrences j i 0 j.length 1).isEmpty)) H → P2)
    (h3 : ∀ (d : PyData) (ds : List PyData), Dp X.K H vx d → Dp X.K H vy (.tuple ds) → SeqAt.shaped d = true → SeqAt.shaped (.tuple ds) = true → Q (.bl (if neg then !ds.any fun z => PyData.eqv z d else ds.any fun z => PyData.eqv z d)) H → P3)
    (h4 : ∀ (d : PyData) (ds : List PyData), Dp X.K H vx d → Dp X.K H vy (.list ds) → SeqAt.shaped d = true → SeqAt.shaped (.list ds) = true → Q (.bl (if neg then !ds.any fun z => PyData.eqv z d else ds.any fun z => PyData.eqv z d)) H → P4) :
    (P1 ∨ P2) ∨ (P3 ∨ P4) := by
  have lst : ∀ y, DV C.K w y vy → (match listOf s y with
    | some ys => if dp x ≤ 64 ∧ dps ys ≤ 63 then some (din x ys) else none
    | none => none) = some b → P4 := fun y dy e => by
    cases e1 : listOf s y with
    | none => rw [e1] at e; cases e
    | some ys =>
      rw [e1] at e
      simp only at e
      split at e
      · rename_i hc
        cases e
        obtain ⟨a1, a2, a3⟩ := dp_of r.hr.sub x vx dx hc.1
        obtain ⟨b1, b2⟩ := listL r dy e1 hc.2
        refine h4 _ _ (by rw [hK]; exact a1) (by rw [hK]; exact b1) (shaped_of a2 a3 hc.1) b2 ?_
        rw [any_pys]; exact q
      · cases e
  have tup : ∀ ys, y = .tup ys → (if dp x ≤ 64 ∧ dps ys ≤ 63 then some (din x ys) else none) = some b → P3 := fun ys ey e5 => by
    subst ey
    split at e5
    · rename_i hc
      cases e5
      obtain ⟨a1, a2, a3⟩ := dp_of r.hr.sub x vx dx hc.1
      have zt : dp (.tup ys) ≤ 64 := by simp only [dp]; omega
      obtain ⟨b1, b2, b3⟩ := dp_of r.hr.sub (.tup ys) vy dy zt
      refine h3 _ _ (by rw [hK]; exact a1) (by rw [hK]; exact b1) (shaped_of a2 a3 hc.1) (shaped_of b2 b3 zt) ?_
      rw [any_pys]; exact q
    · cases e5
  cases y with
  | tup ys => exact .inr (.inl (tup ys rfl (by cases x <;> exact e)))
  | str bb =>
    cases x with
    | str a =>
      have e' : inS a bb = b := Option.some.inj e
      unfold inS at e'
      split at e'
      · rename_i hl
        refine .inl (.inl (h1 (a.cps.getD 0 0) bb ?_ dy.1 (by rw [e']; exact q)))
        rw [dx.1, ← len1 hl]
      · exact .inl (.inr (h2 a bb dx.1 dy.1 (by rw [e']; exact q)))
    | _ => cases e
  | lst ys => exact .inr (.inr (lst _ dy (by cases x <;> exact e)))
  | ptr ys => exact .inr (.inr (lst _ dy (by cases x <;> exact e)))
  | _ => cases x <;> cases e
theorem of_in (hu : X.A.units + 65 < cLine) (hK : X.K = C.K := by rfl) : OpF C X (compareOp .In) fIn := by
  refine ⟨_, (op_in_sign.or op_in_str).or ((op_inT hu).or (op_inD hu)), fun s w σ H x y vx vy Q r dx dy h => ?_⟩
  unfold fIn at h
  cases e : hasD x y s with
  | none => rw [e] at h; exact (show False from h).elim
  | some b =>
    rw [e] at h
    exact has_use (neg := false) hK r dx dy e (h w H _ (.refl w) r rfl) (fun c z e1 e2 q => ⟨c, z, e1, e2, q⟩) (fun i j e1 e2 q => ⟨i, j, e1, e2, q⟩) (fun d ds a1 a2 a3 a4 q => ⟨d, ds, a1, a2, a3, a4, q⟩) (fun d ds a1 a2 a3 a4 q => ⟨d, ds, a1, a2, a3, a4, q⟩)
theorem of_ni (hu : X.A.units + 65 < cLine) (hK : X.K = C.K := by rfl) : OpF C X (compareOp .NotIn) fNi := by
  refine ⟨_, (op_notIn_sign.or op_notin_str).or ((op_niT hu).or (op_notInD hu)), fun s w σ H x y vx vy Q r dx dy h => ?_⟩
  unfold fNi at h
  cases e : hasD x y s with
  | none => rw [e] at h; exact (show False from h).elim
  | some b =>
    rw [e] at h
    exact has_use (neg := true) hK r dx dy e (h w H _ (.refl w) r rfl) (fun c z e1 e2 q => ⟨c, z, e1, e2, q⟩) (fun i j e1 e2 q => ⟨i, j, e1, e2, q⟩) (fun d ds a1 a2 a3 a4 q => ⟨d, ds, a1, a2, a3, a4, q⟩) (fun d ds a1 a2 a3 a4 q => ⟨d, ds, a1, a2, a3, a4, q⟩)

/-! ### is -/
def isN : D → Bool
  | .non => true
  | _ => false
theorem isN_dv {K : PySem.W.Frag} {d : D} {v : V} (h : DV K w d v) : decide (v = .non) = isN d := by
  cases d with
  | non => rw [show v = .non from h]; rfl
  | bl b => rw [show v = .bl b from h]; rfl
  | int i => rw [show v = .int i from h]; rfl
  | str x => rw [h.1]; rfl
  | tup xs => obtain ⟨a, vs, e, _⟩ := h; rw [e]; rfl
  | lst xs => obtain ⟨a, vs, e, _⟩ := h; rw [e]; rfl
  | ptr n => obtain ⟨a, e, _⟩ := h; rw [e]; rfl
  | rol n => obtain ⟨a, e, _⟩ := h; rw [e]; rfl
  | dic _ => exact (show False from h).elim
  | obj _ _ => exact (show False from h).elim
def fIs (x y : D) (s : S) : R D := match x, y with
  | x, .non => .ok (.bl (isN x)) s
  | .bl a, .bl b => .ok (.bl (decide (a = b))) s
  | _, _ => .no
def fIsNot (x y : D) (s : S) : R D := match x, y with
  | x, .non => .ok (.bl (!isN x)) s
  | .bl a, .bl b => .ok (.bl (!decide (a = b))) s
  | _, _ => .no
theorem of_is : OpF C X (compareOp .Is) fIs := by
  refine ⟨_, op_isN.or op_isBl, fun s w σ H x y vx vy Q r dx dy h => ?_⟩
  cases y with
  | non => exact .inl ⟨dy, by rw [isN_dv dx]; exact (by cases x <;> exact h w H _ (.refl w) r rfl)⟩
  | bl b =>
    cases x with
    | bl a => exact .inr ⟨a, b, dx, dy, h w H _ (.refl w) r rfl⟩
    | _ => exact (show False from h).elim
  | _ => cases x <;> exact (show False from h).elim
theorem of_isnot : OpF C X (compareOp .IsNot) fIsNot := by
  refine ⟨_, op_notN.or op_notBl, fun s w σ H x y vx vy Q r dx dy h => ?_⟩
  cases y with
  | non => exact .inl ⟨dy, by rw [isN_dv dx]; exact (by cases x <;> exact h w H _ (.refl w) r rfl)⟩
  | bl b =>
    cases x with
    | bl a => exact .inr ⟨a, b, dx, dy, h w H _ (.refl w) r rfl⟩
    | _ => exact (show False from h).elim
  | _ => cases x <;> exact (show False from h).elim

/-! ### items and slices -/
def fIx (x y : D) (s : S) : R D := match y with
  | .int i => match x with
    | .str z => match atI z.cps.toList i with
      | some c => .ok (.str ⟨#[c]⟩) s
      | none => .no
    | x => match seqOf s x with
      | some xs => match atI xs i with
        | some v => .ok v s
        | none => .no
      | none => .no
  | _ => .no
theorem atI_dv {xs : List D} {vs : List V} {i : Int} {x : D} (h : DVs C.K w xs vs) (e : atI xs i = some x) : ∃ v, atI vs i = some v ∧ DV C.K w x v := by
  unfold atI at *
  rw [h.length]
  cases q : ixN xs.length i with
  | none => rw [q] at e; cases e
  | some j =>
    rw [q] at e
    obtain ⟨v, h1, h2⟩ := h.get (show xs[j]? = some x from e)
    exact ⟨v, h1, h2⟩
theorem atI_mem {α : Type} {xs : List α} {i : Int} {x : α} (e : atI xs i = some x) : x ∈ xs := by
  obtain ⟨j, _, h, _⟩ := atI_get e
  exact List.mem_of_getElem? h
theorem de_ix {a b : Expr} {da db : Den} {pos : Pos} (ha : DE C X a da) (hb : DE C X b db) (hs : PlainIx b := by exact fun _ _ => rfl) (hK : X.K = C.K := by rfl) : DE C X (.Subscript a b pos) (dOp fIx da db) :=
  PE.imp (pe_ix ix_seq ha hb hs) fun σ H Q h => op_use (fun s w σ H x y vx vy Q r dx dy h => by
    cases y with
    | int i =>
      rw [show vy = .int i from dy]
      have sq : ∀ x, DV C.K w x vx → post C (DV C.K) w σ Q (match seqOf s x with
        | some xs => match atI xs i with
          | some v => R.ok v s
          | none => .no
        | none => .no) → rIx X.K vx (.int i) H Q := fun x dx h => by
        cases e : seqOf s x with
        | none => rw [e] at h; exact (show False from h).elim
        | some xs =>
          rw [e] at h
          simp only at h
          cases e2 : atI xs i with
          | none => rw [e2] at h; exact (show False from h).elim
          | some v =>
            rw [e2] at h
            obtain ⟨p, vs, e3, hq, hv⟩ := seqOf_at r dx e
            obtain ⟨u, h1, h2⟩ := atI_dv hv e2
            have q := h w H u (.refl w) r h2
            rcases hq with hq | hq
            · exact .inl ⟨p, vs, i, u, e3, rfl, by rw [hK]; exact hq, h1, q⟩
            · exact .inr (.inl ⟨p, vs, i, u, e3, rfl, by rw [hK]; exact hq, h1, q⟩)
      cases x with
      | str z =>
        unfold fIx at h
        simp only at h
        cases e : atI z.cps.toList i with
        | none => rw [e] at h; exact (show False from h).elim
        | some c =>
          rw [e] at h
          refine .inr (.inr ⟨z, i, c, dx.1, rfl, dx.2.2, e, h w H _ (.refl w) r ⟨rfl, ?_, (by show 1 ≤ sizeLine; decide)⟩⟩)
          have hm : c ∈ z.cps := Array.mem_toList_iff.mp (atI_mem e)
          have := Array.all_eq_true_iff_forall_mem.mp dx.2.1 c hm
          unfold PyData.strOk
          simpa using this
      | _ => exact sq _ dx h
    | _ => exact (show False from h).elim) h
end
/-- xs[lo:hi] of whole numbers or nothing -/
def cutD {α : Type} (xs : List α) (lo hi : Option Int) : List α := (xs.drop (HT.sIx xs.length 0 lo)).take (HT.sIx xs.length xs.length hi - HT.sIx xs.length 0 lo)
section
variable {C : Ctx} {X : Cx} {s : S} {w : Wd} {σ : L2.St} {H : Hp}
theorem DVs.cut {xs : List D} {vs : List V} (lo hi : Option Int) (h : DVs C.K w xs vs) : DVs C.K w (cutD xs lo hi) (cutV vs lo hi) := by
  unfold cutD cutV
  rw [h.length]
  exact DVs.take _ (DVs.drop _ h)
abbrev DenO := S → R (Option Int)
def postO (C : Ctx) (w : Wd) (σ : L2.St) (Q : Option Int → Hp → Prop) : R (Option Int) → Prop
  | .ok o s => ∀ w' H', w.le w' → Rel C s w' σ H' → Q o H'
  | .ex c s => ∀ w' H', w.le w' → Rel C s w' σ H' → C.W (clsOf C c) none σ H'
  | .no => False
def tO (C : Ctx) (den : DenO) : TO := fun σ H Q => ∃ s w, Rel C s w σ H ∧ postO C w σ Q (den s)
def DO (C : Ctx) (X : Cx) (e : Option Expr) (den : DenO) : Prop := PO X e (tO C den)
theorem PO.imp {X : Cx} {e : Option Expr} {t t' : TO} (h : PO X e t) (i : ∀ σ H Q, t' σ H Q → t σ H Q) : PO X e t' := ⟨fun p s σ H Q I q => h.run p s σ H Q I (i σ H Q q)⟩
def oNo : DenO := fun s => .ok none s
def oPart (da : Den) : DenO := fun s => (da s).bind fun x s1 => match x with
  | .int i => .ok (some i) s1
  | _ => .no
theorem do_no : DO C X none oNo := PO.imp po_none fun σ H Q ⟨s, w, r, h⟩ => h w H (.refl w) r
theorem do_part {e : Expr} {da : Den} (h : DE C X e da) : DO C X (some e) (oPart da) := PO.imp (po_some h) fun σ H Q ⟨s, w, r, h⟩ =>
  seqE (Z := postO C w σ Q) (fun z => z) (fun _ _ z => z) r h fun x s1 w1 H1 v l1 r1 d1 h1 => by
    cases x with
    | int i => exact ⟨i, d1, h1 w1 H1 l1 r1⟩
    | _ => exact (show False from h1).elim
theorem postO_le {w w' : Wd} {Q : Option Int → Hp → Prop} {r : R (Option Int)} (l : w.le w') (h : postO C w σ Q r) : postO C w' σ Q r := by
  cases r with
  | ok d s => exact fun w2 H' l2 a => h w2 H' (l.trans l2) a
  | ex c s => exact fun w2 H' l2 a => h w2 H' (l.trans l2) a
  | no => exact h
theorem seqO {da : DenO} {β : Type} {k : Option Int → S → R β} {s : S} {H : Hp} {P : Option Int → Hp → Prop} {Z : R β → Prop}
    (hz : Z .no → False) (he : ∀ c s', Z (.ex c s') → ∀ w' H', w.le w' → Rel C s' w' σ H' → C.W (clsOf C c) none σ H')
    (R1 : Rel C s w σ H) (h : Z ((da s).bind k)) (q : ∀ d s1 w1 H1, w.le w1 → Rel C s1 w1 σ H1 → Z (k d s1) → P d H1) : tO C da σ H P := by
  refine ⟨s, w, R1, ?_⟩
  cases e : da s with
  | ok d s1 => rw [e, R.bind_ok] at h; exact fun w' H' l r => q d s1 w' H' l r h
  | ex c s1 => rw [e, R.bind_ex] at h; exact he c s1 h
  | no => rw [e, R.bind_no] at h; exact hz h
def cutStr (z : Str) (lo hi : Option Int) : Str := ⟨(cutD z.cps.toList lo hi).toArray⟩
theorem cutS_eq (z : Str) (lo hi : Option Int) : cutS z lo hi = cutStr z lo hi := by
  unfold cutS cutStr cutD
  rw [Array.length_toList]; rfl
def fSl (x : D) (lo hi : Option Int) (s : S) : R D := match x with
  | .str z => .ok (.str (cutStr z lo hi)) s
  | .tup xs => if HT.sIx xs.length 0 lo = 0 ∧ HT.sIx xs.length xs.length hi = xs.length then .no else .ok (.tup (cutD xs lo hi)) s
  | x => match listOf s x with
    | some xs => .ok (.lst (cutD xs lo hi)) s
    | none => .no
def dSl (da : Den) (dl dh : DenO) : Den := fun s => (da s).bind fun x s1 => (dl s1).bind fun lo s2 => (dh s2).bind fun hi s3 => fSl x lo hi s3
theorem cutV_len {vs : List V} {lo hi : Option Int} (h : vs.length ≤ sizeLine) : (cutV vs lo hi).length ≤ sizeLine := Nat.le_trans (cutV_length vs lo hi) h
theorem cutD_sub {α : Type} {xs : List α} {lo hi : Option Int} {x : α} (h : x ∈ cutD xs lo hi) : x ∈ xs := List.mem_of_mem_drop (List.mem_of_mem_take h)
theorem de_sl {a : Expr} {lo hi : Option Expr} {da : Den} {dl dh : DenO} {p2 pos : Pos} (ha : DE C X a da) (hl : DO C X lo dl) (hh : DO C X hi dh) (hK : X.K = C.K := by rfl) : DE C X (.Subscript a (.Slice lo hi none p2) pos) (dSl da dl dh) :=
  PE.imp (pe_slice (sl_str.or (sl_tup.or sl_list)) ha hl hh) fun σ H Q ⟨s, w, r, h⟩ =>
    seqE (Z := post C (DV C.K) w σ Q) (fun z => z) (fun _ _ z => z) r h fun x s1 w1 H1 v l1 r1 d1 h1 =>
    seqO (Z := post C (DV C.K) w1 σ Q) (fun z => z) (fun _ _ z => z) r1 (post_le l1 h1) fun lo s2 w2 H2 l2 r2 h2 =>
    seqO (Z := post C (DV C.K) w2 σ Q) (fun z => z) (fun _ _ z => z) r2 (post_le l2 h2) fun hi s3 w3 H3 l3 r3 h3 => by
      have d3 := DV.mono (l2.trans l3) _ _ d1
      have h3 := post_le l3 h3
      have lst : ∀ x, DV C.K w3 x v → post C (DV C.K) w3 σ Q (match listOf s3 x with
        | some xs => R.ok (D.lst (cutD xs lo hi)) s3
        | none => .no) → rSlL X.K v lo hi H3 Q := fun x dx h => by
        cases e : listOf s3 x with
        | none => rw [e] at h; exact (show False from h).elim
        | some xs =>
          rw [e] at h
          obtain ⟨p, vs, e3, hq, hz, hv⟩ := listOf_at r3 dx e
          refine ⟨p, vs, e3, SqL.of hq, fun p hp => ?_⟩
          obtain ⟨l4, r4⟩ := r3.put (o := .lst (cutV vs lo hi)) hp
          exact h _ _ (.ref p) l4 r4 (DV.newL (cutV_len hz) l4 (hv.cut lo hi))
      cases x with
      | str z =>
        refine .inl ⟨z, d3.1, d3.2.2, ?_⟩
        rw [cutS_eq]
        refine h3 w3 H3 _ (.refl _) r3 ⟨rfl, ?_, ?_⟩
        · unfold PyData.strOk cutStr
          rw [Array.all_eq_true_iff_forall_mem]
          intro c hc
          have hm : c ∈ z.cps := Array.mem_toList_iff.mp (cutD_sub (List.mem_toArray.mp hc))
          exact Array.all_eq_true_iff_forall_mem.mp d3.2.1 c hm
        · have := cutS_length z lo hi
          rw [cutS_eq] at this
          exact Nat.le_trans this d3.2.2
      | tup xs =>
        obtain ⟨p, vs, e1, hq, hz, hv⟩ := (show ∃ a vs, v = .ref a ∧ SqT C.K w3.B a vs ∧ vs.length ≤ sizeLine ∧ DVs C.K w3 xs vs from d3)
        unfold fSl at h3
        simp only at h3
        split at h3
        · exact (show False from h3).elim
        · rename_i hc
          refine .inr (.inl ⟨p, vs, e1, by rw [hK]; exact sqT_mono r3.hr.sub hq, by rw [hv.length]; exact hc, fun p hp => ?_⟩)
          obtain ⟨l4, r4⟩ := r3.put (o := .tup (cutV vs lo hi)) hp
          exact h3 _ _ (.ref p) l4 r4 (DV.newT (cutV_len hz) l4 (hv.cut lo hi))
      | _ => exact .inr (.inr (lst _ d3 h3))
def fRev (x : D) (s : S) : R D := match listOf s x with
  | some xs => .ok (.lst xs.reverse) s
  | none => .no
theorem de_rev {e : Expr} {da : Den} {k : Nat} {p1 p2 p3 pos : Pos} (he : DE C X e da) : DE C X (.Subscript e (.Slice none none (some (.UnaryOp .USub (.Constant (.int 1) k p1) p2)) p3) pos) (dUn fRev da) :=
  PE.imp (pe_revL he) fun σ H Q ⟨s, w, r, h⟩ => seqE (Z := post C (DV C.K) w σ Q) (fun z => z) (fun _ _ z => z) r h fun x s1 w1 H1 v l1 r1 d1 h1 => by
    unfold fRev at h1
    cases e : listOf s1 x with
    | none => rw [e] at h1; exact (show False from h1).elim
    | some xs =>
      rw [e] at h1
      obtain ⟨p, vs, e3, hq, hz, hv⟩ := listOf_at r1 d1 e
      refine ⟨p, vs, e3, SqL.of hq, fun p hp => ?_⟩
      obtain ⟨l4, r4⟩ := r1.put (o := .lst vs.reverse) hp
      exact h1 _ _ (.ref p) (l1.trans l4) r4 (DV.newL (by rw [List.length_reverse]; exact hz) l4 hv.reverse)
/-- -e -/
def fNeg (x : D) (s : S) : R D := match x with
  | .int i => .ok (.int (-i)) s
  | _ => .no
theorem de_neg {e : Expr} {da : Den} {pos : Pos} (he : DE C X e da) : DE C X (.UnaryOp .USub e pos) (dUn fNeg da) :=
  PE.imp (pe_un un_neg he) fun σ H Q ⟨s, w, r, h⟩ => seqE (Z := post C (DV C.K) w σ Q) (fun z => z) (fun _ _ z => z) r h fun x s1 w1 H1 v l1 r1 d1 h1 => by
    cases x with
    | int i => exact ⟨i, d1, h1 w1 H1 _ l1 r1 rfl⟩
    | _ => exact (show False from h1).elim

/-! ### tests -/
def tru (s : S) : D → Option Bool
  | .non => some false
  | .bl b => some b
  | .int i => some (i != 0)
  | .str x => some ((x.length : Int) != 0)
  | d => match seqOf s d with
    | some xs => some !xs.isEmpty
    | none => none
def dTru (da : Den) : DenT := fun s => (da s).bind fun x s1 => match tru s1 x with
  | some b => .ok b s1
  | none => .no
theorem tru_at (r : Rel C s w σ H) {d : D} {v : V} {b : Bool} (h : DV C.K w d v) (e : tru s d = some b) : TruV C.K v H b := by
  have sq : ∀ d, DV C.K w d v → (match seqOf s d with
    | some xs => some !xs.isEmpty
    | none => none) = some b → TruV C.K v H b := fun d h e => by
    cases q : seqOf s d with
    | none => rw [q] at e; cases e
    | some xs =>
      rw [q] at e
      obtain ⟨a, vs, rfl, hq, hv⟩ := seqOf_at r h q
      have e' : (!xs.isEmpty) = b := Option.some.inj e
      have e2 : vs.isEmpty = xs.isEmpty := by
        have := hv.length
        cases vs <;> cases xs <;> simp_all
      rcases hq with hq | hq
      · exact .inl ⟨vs, hq, by rw [e2, e']⟩
      · exact .inr (.inl ⟨vs, hq, by rw [e2, e']⟩)
  cases d with
  | non => rw [show v = .non from h]; exact (Option.some.inj e).symm
  | bl b => rw [show v = .bl b from h]; exact (Option.some.inj e).symm
  | int i => rw [show v = .int i from h]; exact (Option.some.inj e).symm
  | str x => rw [h.1]; exact ⟨h.2.2, (Option.some.inj e).symm⟩
  | _ => exact sq _ h e
theorem dt_tru {e : Expr} {da : Den} (h : DE C X e da) (he : ∀ whole, isTrue e X.env whole = (do let v ← whole; standAt e.pos; holding [v] (truthy v)) := by intro _; rfl) (hK : X.K = C.K := by rfl) : DT C X e (dTru da) :=
  PT.imp (pt_truth h he) fun σ H Q ⟨s, w, r, h⟩ => seqE (Z := postT C w σ Q) (fun z => z) (fun _ _ z => z) r h fun x s1 w1 H1 v l1 r1 d1 h1 => by
    cases e : tru s1 x with
    | none => rw [e] at h1; exact (show False from h1).elim
    | some b => rw [e] at h1; exact ⟨b, by rw [hK]; exact tru_at r1 d1 e, h1 w1 H1 l1 r1⟩
def dAnd (a b : DenT) : DenT := fun s => (a s).bind fun c s1 => if c = true then b s1 else .ok false s1
def dOr (a b : DenT) : DenT := fun s => (a s).bind fun c s1 => if c = true then .ok true s1 else b s1
def dNot (a : DenT) : DenT := fun s => (a s).bind fun c s1 => .ok (!c) s1
def DW (C : Ctx) (X : Cx) (e : Expr) (den : DenT) : Prop := PW X e (tT C den)
theorem DW.dt {e : Expr} {den : DenT} (h : DW C X e den) : DT C X e den := PW.pt h
theorem dw_and1 {a : Expr} {da : DenT} {pos : Pos} (h : DT C X a da) : DW C X (.BoolOp .And [a] pos) da := pw_and1 h
theorem dw_or1 {a : Expr} {da : DenT} {pos : Pos} (h : DT C X a da) : DW C X (.BoolOp .Or [a] pos) da := pw_or1 h
theorem dw_and {a b : Expr} {rest : List Expr} {da db : DenT} {pos : Pos} (ha : DT C X a da) (hb : DW C X (.BoolOp .And (b :: rest) pos) db) : DW C X (.BoolOp .And (a :: b :: rest) pos) (dAnd da db) :=
  PW.imp (pw_and ha hb) fun σ H Q ⟨s, w, r, h⟩ => seqT (Z := postT C w σ Q) (fun z => z) (fun _ _ z => z) r h fun c s1 w1 H1 l1 r1 h1 => by
    cases c with
    | true => rw [if_pos rfl] at h1 ⊢; exact ⟨s1, w1, r1, postT_le l1 h1⟩
    | false => rw [if_neg Bool.false_ne_true] at h1 ⊢; exact h1 w1 H1 l1 r1
theorem dw_or {a b : Expr} {rest : List Expr} {da db : DenT} {pos : Pos} (ha : DT C X a da) (hb : DW C X (.BoolOp .Or (b :: rest) pos) db) : DW C X (.BoolOp .Or (a :: b :: rest) pos) (dOr da db) :=
  PW.imp (pw_or ha hb) fun σ H Q ⟨s, w, r, h⟩ => seqT (Z := postT C w σ Q) (fun z => z) (fun _ _ z => z) r h fun c s1 w1 H1 l1 r1 h1 => by
    cases c with
    | true => rw [if_pos rfl] at h1 ⊢; exact h1 w1 H1 l1 r1
    | false => rw [if_neg Bool.false_ne_true] at h1 ⊢; exact ⟨s1, w1, r1, postT_le l1 h1⟩
theorem dt_not {a : Expr} {da : DenT} {pos : Pos} (ha : DT C X a da) : DT C X (.UnaryOp .Not a pos) (dNot da) :=
  PT.imp (pt_not ha) fun σ H Q ⟨s, w, r, h⟩ => seqT (Z := postT C w σ Q) (fun z => z) (fun _ _ z => z) r h fun c s1 w1 H1 l1 r1 h1 => h1 w1 H1 l1 r1
/-- and, or, not of truth values, as values -/
def vAnd (a b : Den) : Den := fun s => (a s).bind fun x s1 => match x with
  | .bl true => b s1
  | .bl false => .ok (.bl false) s1
  | _ => .no
def vOr (a b : Den) : Den := fun s => (a s).bind fun x s1 => match x with
  | .bl true => .ok (.bl true) s1
  | .bl false => b s1
  | _ => .no
def vNot (a : Den) : Den := fun s => (a s).bind fun x s1 => match x with
  | .bl b => .ok (.bl (!b)) s1
  | _ => .no
theorem de_one {op} {a : Expr} {da : Den} {pos : Pos} (h : DE C X a da) : DE C X (.BoolOp op [a] pos) da := pe_one h
theorem de_and {a b : Expr} {rest : List Expr} {da db : Den} {pos : Pos} (ha : DE C X a da) (hb : DE C X (.BoolOp .And (b :: rest) pos) db) : DE C X (.BoolOp .And (a :: b :: rest) pos) (vAnd da db) :=
  PE.imp (pe_and ha hb) fun σ H Q ⟨s, w, r, h⟩ => seqE (Z := post C (DV C.K) w σ Q) (fun z => z) (fun _ _ z => z) r h fun x s1 w1 H1 v l1 r1 d1 h1 => by
    cases x with
    | bl b =>
      refine ⟨b, d1, ?_⟩
      cases b with
      | true => rw [if_pos rfl]; exact ⟨s1, w1, r1, post_le l1 h1⟩
      | false => rw [if_neg Bool.false_ne_true]; exact h1 w1 H1 _ l1 r1 rfl
    | _ => exact (show False from h1).elim
theorem de_or {a b : Expr} {rest : List Expr} {da db : Den} {pos : Pos} (ha : DE C X a da) (hb : DE C X (.BoolOp .Or (b :: rest) pos) db) : DE C X (.BoolOp .Or (a :: b :: rest) pos) (vOr da db) :=
  PE.imp (pe_or ha hb) fun σ H Q ⟨s, w, r, h⟩ => seqE (Z := post C (DV C.K) w σ Q) (fun z => z) (fun _ _ z => z) r h fun x s1 w1 H1 v l1 r1 d1 h1 => by
    cases x with
    | bl b =>
      refine ⟨b, d1, ?_⟩
      cases b with
      | true => rw [if_pos rfl]; exact h1 w1 H1 _ l1 r1 rfl
      | false => rw [if_neg Bool.false_ne_true]; exact ⟨s1, w1, r1, post_le l1 h1⟩
    | _ => exact (show False from h1).elim
theorem de_not {a : Expr} {da : Den} {pos : Pos} (ha : DE C X a da) : DE C X (.UnaryOp .Not a pos) (vNot da) :=
  PE.imp (pe_not ha) fun σ H Q ⟨s, w, r, h⟩ => seqE (Z := post C (DV C.K) w σ Q) (fun z => z) (fun _ _ z => z) r h fun x s1 w1 H1 v l1 r1 d1 h1 => by
    cases x with
    | bl b => exact ⟨b, d1, h1 w1 H1 _ l1 r1 rfl⟩
    | _ => exact (show False from h1).elim
def dIf (t : DenT) (a b : Den) : Den := fun s => (t s).bind fun c s1 => if c = true then a s1 else b s1
theorem de_if {t a b : Expr} {dt : DenT} {da db : Den} {pos : Pos} (ht : DT C X t dt) (ha : DE C X a da) (hb : DE C X b db) : DE C X (.IfExp t a b pos) (dIf dt da db) :=
  PE.imp (pe_ifExp ht ha hb) fun σ H Q ⟨s, w, r, h⟩ => seqT (Z := post C (DV C.K) w σ Q) (fun z => z) (fun _ _ z => z) r h fun c s1 w1 H1 l1 r1 h1 => by
    cases c with
    | true => rw [if_pos rfl] at h1 ⊢; exact ⟨s1, w1, r1, post_le l1 h1⟩
    | false => rw [if_neg Bool.false_ne_true] at h1 ⊢; exact ⟨s1, w1, r1, post_le l1 h1⟩
end
end DL

set_option maxHeartbeats 4000000
namespace DL
open PySem PySem.Spec PyProof.Rows L2

/-! ### statements -/
def dNext : SDen := fun s => .nx s
def dSeq (a b : SDen) : SDen := fun s => match a s with
  | .nx s1 => b s1
  | r => r
def R.st {α : Type} : R α → (α → S → SR) → SR
  | .ok a s, f => f a s
  | .ex c s, _ => .ex c s
  | .no, _ => .no
def dExp (da : Den) : SDen := fun s => (da s).st fun _ s1 => .nx s1
def dRet (da : Den) : SDen := fun s => (da s).st fun d s1 => .rt d s1
def dRetN : SDen := fun s => .rt .non s
def dSet (i : Nat) (da : Den) : SDen := fun s => (da s).st fun d s1 => .nx (s1.set i (.d d))
def dSetO (i : Nat) (df : DenA) : SDen := fun s => (df s).st fun xs s1 => .nx (s1.set i (.own (.lst xs)))
def dIfS (t : DenT) (a b : SDen) : SDen := fun s => (t s).st fun c s1 => if c = true then a s1 else b s1
def dBreak : SDen := fun s => .bk s
def dCont : SDen := fun s => .ct s
/-- the slot's own list becomes plain data, ahead of what follows -/
def S.frz (i : Nat) (s : S) : S := match s.ρ[i]? with
  | some (.own (.lst xs)) => s.set i (.d (.lst xs))
  | _ => s
def dFrz (i : Nat) (a : SDen) : SDen := fun s => a (s.frz i)
def dFrzE (i : Nat) (a : Den) : Den := fun s => a (s.frz i)
section
variable {C : Ctx} {X : Cx} {s : S} {w : Wd} {σ : L2.St} {H : Hp}
theorem seqES {da : Den} {k : D → S → SR} {s : S} {H : Hp} {P : V → Hp → Prop} {E : Ends} (R1 : Rel C s w σ H) (h : postS C w E ((da s).st k))
    (q : ∀ d s1 w1 H1 v, w.le w1 → Rel C s1 w1 σ H1 → DV C.K w1 d v → postS C w1 E (k d s1) → P v H1) : tD C da σ H P := by
  refine ⟨s, w, R1, ?_⟩
  cases e : da s with
  | ok d s1 => rw [e] at h; exact fun w' H' v l r dv => q d s1 w' H' v l r dv (postS_le l h)
  | ex c s1 => rw [e] at h; exact fun w' H' l r => h w' σ H' l r
  | no => rw [e] at h; exact h
theorem seqFS {da : DenA} {k : List D → S → SR} {s : S} {H : Hp} {P : V → Hp → Prop} {E : Ends} (R1 : Rel C s w σ H) (h : postS C w E ((da s).st k))
    (q : ∀ xs s1 w1 H1 p vs, w.le w1 → Rel C s1 w1 σ H1 → Loose C w1 p → H1 p = some (.lst vs) → vs.length ≤ sizeLine → DVs C.K w1 xs vs → postS C w1 E (k xs s1) → P (.ref p) H1) : tF C da σ H P := by
  refine ⟨s, w, R1, ?_⟩
  cases e : da s with
  | ok d s1 => rw [e] at h; exact fun w' H' p vs l r lo hp hz dv => q d s1 w' H' p vs l r lo hp hz dv (postS_le l h)
  | ex c s1 => rw [e] at h; exact fun w' H' l r => h w' σ H' l r
  | no => rw [e] at h; exact h
theorem seqTS {da : DenT} {k : Bool → S → SR} {s : S} {H : Hp} {P : Bool → Hp → Prop} {E : Ends} (R1 : Rel C s w σ H) (h : postS C w E ((da s).st k))
    (q : ∀ d s1 w1 H1, w.le w1 → Rel C s1 w1 σ H1 → postS C w1 E (k d s1) → P d H1) : tT C da σ H P := by
  refine ⟨s, w, R1, ?_⟩
  cases e : da s with
  | ok d s1 => rw [e] at h; exact fun w' H' l r => q d s1 w' H' l r (postS_le l h)
  | ex c s1 => rw [e] at h; exact fun w' H' l r => h w' σ H' l r
  | no => rw [e] at h; exact h
theorem dss_nil : DSs C X [] dNext := PSs.imp pss_nil fun D σ H ⟨s, w, r, h⟩ => h w σ H (.refl w) r
theorem dss_cons {st : Stmt} {rest : List Stmt} {a b : SDen} (h1 : DS C X st a) (h2 : DSs C X rest b) : DSs C X (st :: rest) (dSeq a b) :=
  PSs.imp (pss_cons h1 h2) fun D σ H ⟨s, w, r, h⟩ => by
    refine ⟨s, w, r, ?_⟩
    unfold dSeq at h
    cases e : a s with
    | nx s1 => rw [e] at h; exact fun w' σ' H' l r' => ⟨s1, w', r', postS_le l h⟩
    | rt d s1 => rw [e] at h; exact h
    | bk s1 => rw [e] at h; exact h
    | ct s1 => rw [e] at h; exact h
    | ex c s1 => rw [e] at h; exact h
    | no => rw [e] at h; exact h
theorem dss_one {st : Stmt} {a : SDen} (h1 : DS C X st a) : DSs C X [st] a := pss_one h1
theorem dss_frz (i : Nat) {st : List Stmt} {a : SDen} (h : DSs C X st a) : DSs C X st (dFrz i a) := PSs.imp h fun D σ H ⟨s, w, r, h⟩ => by
  unfold dFrz S.frz at h
  split at h
  · rename_i xs e
    obtain ⟨w', l, r'⟩ := r.freeze e
    exact ⟨_, w', r', postS_le l h⟩
  · exact ⟨s, w, r, h⟩
theorem de_frz (i : Nat) {e : Expr} {a : Den} (h : DE C X e a) : DE C X e (dFrzE i a) := PE.imp h fun σ H Q ⟨s, w, r, h⟩ => by
  unfold dFrzE S.frz at h
  split at h
  · rename_i xs e
    obtain ⟨w', l, r'⟩ := r.freeze e
    exact ⟨_, w', r', post_le l h⟩
  · exact ⟨s, w, r, h⟩
theorem ds_pass {pos : Pos} : DS C X (.Pass pos) dNext := PS.imp ps_pass fun D σ H ⟨s, w, r, h⟩ => h w σ H (.refl w) r
theorem ds_doc {x j pos pos'} : DS C X (.Expr (.Constant (.str x) j pos) pos') dNext := PS.imp ps_doc fun D σ H ⟨s, w, r, h⟩ => h w σ H (.refl w) r
theorem ds_break {pos : Pos} : DS C X (.Break pos) dBreak := PS.imp ps_break fun D σ H ⟨s, w, r, h⟩ => h w σ H (.refl w) r
theorem ds_cont {pos : Pos} : DS C X (.Continue pos) dCont := PS.imp ps_continue fun D σ H ⟨s, w, r, h⟩ => h w σ H (.refl w) r
theorem ds_expr {e : Expr} {da : Den} {pos : Pos} (he : DE C X e da) (hs : swapsWith e none pos.line X.env = pure false := by rfl) : DS C X (.Expr e pos) (dExp da) :=
  PS.imp (ps_expr he hs) fun D σ H ⟨s, w, r, h⟩ => seqES r h fun d s1 w1 H1 v l1 r1 d1 h1 => h1 w1 σ H1 (.refl _) r1
theorem ds_ret {e : Expr} {da : Den} {pos : Pos} (he : DE C X e da) : DS C X (.Return (some e) pos) (dRet da) :=
  PS.imp (ps_ret he) fun D σ H ⟨s, w, r, h⟩ => seqES r h fun d s1 w1 H1 v l1 r1 d1 h1 => h1 w1 σ H1 v (.refl _) r1 d1
theorem ds_retN {pos : Pos} : DS C X (.Return none pos) dRetN := PS.imp ps_retN fun D σ H ⟨s, w, r, h⟩ => h w σ H .non (.refl w) r rfl
theorem ds_set {i : Nat} {x : Str} {e : Expr} {da : Den} {pos pos' : Pos} (hN : X.N.Nodup) (hi : X.N[i]? = some x) (hx : Loc X.env.scope x) (he : DE C X e da) (hs : swapsWith e (some (.Name x pos')) pos.line X.env = pure false := by rfl)
    (hf : X.fn x = true ∨ X.env.scope.names.lookup x = some .local := by first | exact .inl rfl | exact .inr rfl | assumption) : DS C X (.Assign [.Name x pos'] e pos) (dSet i da) :=
  PS.imp (ps_set hN hi hx he hs hf) fun D σ H ⟨s, w, r, h⟩ => seqES r h fun d s1 w1 H1 v l1 r1 d1 h1 => h1 w1 _ H1 (.refl _) (r1.set d1)
theorem ds_setO {i : Nat} {x : Str} {e : Expr} {df : DenA} {pos pos' : Pos} (hN : X.N.Nodup) (hi : X.N[i]? = some x) (hx : Loc X.env.scope x) (he : DF C X e df) (hs : swapsWith e (some (.Name x pos')) pos.line X.env = pure false := by rfl)
    (hf : X.fn x = true ∨ X.env.scope.names.lookup x = some .local := by first | exact .inl rfl | exact .inr rfl | assumption) : DS C X (.Assign [.Name x pos'] e pos) (dSetO i df) :=
  PS.imp (ps_set hN hi hx he hs hf) fun D σ H ⟨s, w, r, h⟩ => seqFS r h fun xs s1 w1 H1 p vs l1 r1 lo hp hz d1 h1 => by
    obtain ⟨l2, r2⟩ := r1.own (i := i) (c := .lst xs) lo ⟨vs, hp, hz, d1⟩
    exact h1 _ _ H1 l2 r2
theorem ds_if {c : Expr} {a b : List Stmt} {dt : DenT} {da db : SDen} {pos : Pos} (hc : DT C X c dt) (ha : DSs C X a da) (hb : DSs C X b db) : DS C X (.If c a b pos) (dIfS dt da db) :=
  PS.imp (ps_if hc ha hb) fun D σ H ⟨s, w, r, h⟩ => seqTS r h fun c s1 w1 H1 l1 r1 h1 => by
    cases c with
    | true => rw [if_pos rfl] at h1 ⊢; exact ⟨s1, w1, r1, h1⟩
    | false => rw [if_neg Bool.false_ne_true] at h1 ⊢; exact ⟨s1, w1, r1, h1⟩
/-- code that is never come to -/
def dNever : SDen := fun _ => .no
theorem ds_never {st : Stmt} : DS C X st dNever := PS.imp ps_never fun D σ H ⟨s, w, r, h⟩ => h
theorem dss_never {st : List Stmt} : DSs C X st dNever := PSs.imp pss_never fun D σ H ⟨s, w, r, h⟩ => h

/-! ### while -/
def whileN (t : DenT) (b : SDen) : Nat → S → SR
  | 0, _ => .no
  | n + 1, s => (t s).st fun c s1 => if c = true then (match b s1 with
      | .nx s2 => whileN t b n s2
      | .ct s2 => whileN t b n s2
      | .bk s2 => .nx s2
      | r => r) else .nx s1
def dWhile (n : Nat) (t : DenT) (b : SDen) : SDen := fun s => whileN t b n s
theorem ds_while (n : Nat) {c : Expr} {body : List Stmt} {dt : DenT} {db : SDen} {pos : Pos} (hp : PassesOwn (model X.prog X.w) X.A X.env X.xe) (hc : DT C X c dt) (hb : DSs C X body db) : DS C X (.While c body [] pos) (dWhile n dt db) :=
  PS.imp (ps_while hp hc hb) fun D σ H ⟨s, w, r, h⟩ => by
    refine ⟨fun m σ H => ∃ s w', w.le w' ∧ Rel C s w' σ H ∧ postS C w' D (whileN dt db m s), ⟨n, s, w, .refl w, r, h⟩, fun m σ H ⟨s, w1, l1, r1, h1⟩ => ?_⟩
    cases m with
    | zero => exact h1.elim
    | succ m =>
      unfold whileN at h1
      refine seqTS r1 h1 fun c s2 w2 H2 l2 r2 h2 => ?_
      cases c with
      | false => rw [if_neg Bool.false_ne_true] at h2 ⊢; exact h2 w2 σ H2 (.refl _) r2
      | true =>
        rw [if_pos rfl] at h2 ⊢
        refine ⟨fun σ H => ∃ s w', w.le w' ∧ Rel C s w' σ H ∧ postS C w' D (whileN dt db m s), fun σ' H' q => ⟨m, Nat.lt_succ_self m, q⟩, s2, w2, r2, ?_⟩
        cases e : db s2 with
        | nx s3 => rw [e] at h2; exact fun w' σ' H' l r' => ⟨s3, w', (l1.trans l2).trans l, r', postS_le l h2⟩
        | ct s3 => rw [e] at h2; exact fun w' σ' H' l r' => ⟨s3, w', (l1.trans l2).trans l, r', postS_le l h2⟩
        | bk s3 => rw [e] at h2; exact h2
        | rt d s3 => rw [e] at h2; exact h2
        | ex c s3 => rw [e] at h2; exact h2
        | no => rw [e] at h2; exact h2

/-! ### targets -/
abbrev Tgt := D → S → Option S
def tG (C : Ctx) (g : Tgt) (is : List Nat) : TG := fun v σ H Q => ∃ s w x, Rel C s w σ H ∧ DV C.K w x v ∧ match g x s with
  | some s' => ∀ σ', Rel C s' w σ' H → (∀ j, j ∉ is → σ'[j]? = σ[j]?) → σ'.length = σ.length → Q σ' H
  | none => False
def DG (C : Ctx) (X : Cx) (tg : Expr) (g : Tgt) (is : List Nat) : Prop := PG X tg (tG C g is)
theorem PG.imp {X : Cx} {e : Expr} {t t' : TG} (h : PG X e t) (i : ∀ v σ H Q, t' v σ H Q → t v σ H Q) : PG X e t' := ⟨fun p s σ H v u Q I r q => h.run p s σ H v u Q I r (i v σ H Q q)⟩
theorem PGs.imp {X : Cx} {e : List Expr} {t t' : TGs} (h : PGs X e t) (i : ∀ v σ H Q, t' v σ H Q → t v σ H Q) : PGs X e t' := ⟨fun p s σ H v u Q I r q => h.run p s σ H v u Q I r (i v σ H Q q)⟩
def gN (i : Nat) : Tgt := fun x s => some (s.set i (.d x))
theorem dg_name {i : Nat} {x : Str} {pos : Pos} (hN : X.N.Nodup) (hi : X.N[i]? = some x) (hx : Loc X.env.scope x) (hf : X.fn x = true ∨ X.env.scope.names.lookup x = some .local := by first | exact .inl rfl | exact .inr rfl | assumption) : DG C X (.Name x pos) (gN i) [i] :=
  PG.imp (pg_name hN hi hx hf) fun v σ H Q ⟨s, w, x, r, d, h⟩ => h _ (r.set d) (fun j hj => List.getElem?_set_ne (fun e => hj (by rw [e]; exact List.mem_cons_self))) (List.length_set ..)
abbrev Tgts := List D → S → Option S
def tGs (C : Ctx) (g : Tgts) (is : List Nat) : TGs := fun vs σ H Q => ∃ s w xs, Rel C s w σ H ∧ DVs C.K w xs vs ∧ match g xs s with
  | some s' => ∀ σ', Rel C s' w σ' H → (∀ j, j ∉ is → σ'[j]? = σ[j]?) → σ'.length = σ.length → Q σ' H
  | none => False
def DGs (C : Ctx) (X : Cx) (tg : List Expr) (g : Tgts) (is : List Nat) : Prop := PGs X tg (tGs C g is)
def gsNil : Tgts := fun xs s => match xs with
  | [] => some s
  | _ => none
def gsCons (g : Tgt) (gs : Tgts) : Tgts := fun xs s => match xs with
  | x :: r => match g x s with
    | some s1 => gs r s1
    | none => none
  | [] => none
theorem dgs_nil : DGs C X [] gsNil [] := PGs.imp pgs_nil fun vs σ H Q ⟨s, w, xs, r, d, h⟩ => by
  cases xs with
  | nil => exact ⟨d, h σ r (fun _ _ => rfl) rfl⟩
  | cons x xs => exact h.elim
theorem dgs_cons {e : Expr} {es : List Expr} {g : Tgt} {gs : Tgts} {is js : List Nat} (h1 : DG C X e g is) (h2 : DGs C X es gs js) (hs : (assignEach (e :: es) X.env).map (·.2) = assign e X.env :: (assignEach es X.env).map (·.2) := by rfl) : DGs C X (e :: es) (gsCons g gs) (is ++ js) :=
  PGs.imp (pgs_cons h1 h2 hs) fun vs σ H Q ⟨s, w, xs, r, d, h⟩ => by
    cases xs with
    | nil => exact h.elim
    | cons x xs =>
      obtain ⟨v, vr, e, d1, d2⟩ := (show ∃ v r, vs = v :: r ∧ DV C.K w x v ∧ DVs C.K w xs r from d)
      refine ⟨v, vr, e, s, w, x, r, d1, ?_⟩
      unfold gsCons at h
      cases e1 : g x s with
      | none => simp only [e1] at h
      | some s1 =>
        simp only [e1] at h
        exact fun σ1 r1 k1 z1 => ⟨s1, w, xs, r1, d2, by
          cases e2 : gs xs s1 with
          | none => rw [e2] at h; exact h.elim
          | some s2 =>
            rw [e2] at h
            exact fun σ2 r2 k2 z2 => h σ2 r2 (fun j hj => (k2 j (fun q => hj (List.mem_append_right _ q))).trans (k1 j (fun q => hj (List.mem_append_left _ q)))) (z2.trans z1)⟩
def gT (n : Nat) (gs : Tgts) : Tgt := fun x s => match x with
  | .tup xs => if xs.length = n then gs xs s else none
  | _ => none
theorem dg_tup {es : List Expr} {k : Nat} {gs : Tgts} {is : List Nat} {n : Nat} {pos : Pos} (hc : X.calm = true) (h : DGs C X es gs is) (hn : (assignEach es X.env).length = n := by rfl) (hst : (assignEach es X.env).findIdx? (·.1) = none := by rfl) (hK : X.K = C.K := by rfl) :
    DG C X (.Tuple es k pos) (gT n gs) is := PG.imp (pg_tup hc h hn hst) fun v σ H Q ⟨s, w, x, r, d, h⟩ => by
  cases x with
  | tup xs =>
    obtain ⟨a, vs, e, q, _, t⟩ := (show ∃ a vs, v = .ref a ∧ SqT C.K w.B a vs ∧ vs.length ≤ sizeLine ∧ DVs C.K w xs vs from d)
    unfold gT at h
    simp only at h
    split at h
    · rename_i s' h'
      split at h'
      · rename_i hl
        exact ⟨a, vs, e, by rw [hK]; exact sqT_mono r.hr.sub q, by rw [t.length]; exact hl, s, w, xs, r, t, by rw [h']; exact h⟩
      · cases h'
    · exact h.elim
  | _ => exact h.elim
def dAsg (da : Den) (g : Tgt) : SDen := fun s => (da s).st fun d s1 => match g d s1 with
  | some s2 => .nx s2
  | none => .no
theorem ds_asg {tg e : Expr} {da : Den} {g : Tgt} {is : List Nat} {pos : Pos} (he : DE C X e da) (hg : DG C X tg g is) (hs : swapsWithSole [tg] e pos.line X.env = pure false := by rfl) (hw : swappedStores [tg] e X.env = pure none := by rfl)
    (h1 : (assignEach [tg] X.env).map (·.2) = [assign tg X.env] := by rfl) : DS C X (.Assign [tg] e pos) (dAsg da g) :=
  PS.imp (ps_asg he hg hs hw h1) fun D σ H ⟨s, w, r, h⟩ => seqES r h fun d s1 w1 H1 v l1 r1 d1 h1 => ⟨s1, w1, d, r1, d1, by
    cases e : g d s1 with
    | none => rw [e] at h1; exact h1.elim
    | some s2 => rw [e] at h1; exact fun σ' r' _ _ => h1 w1 σ' H1 (.refl _) r'⟩

/-! ### what is walked -/
def postI (C : Ctx) (w : Wd) (σ : L2.St) (P : It → Hp → Prop) : R (List D) → Prop
  | .ok xs s => xs.length ≤ sizeLine → ∀ w1 H1 J G Y, w.le w1 → Rel C s w1 σ H1 → Walk J xs.length G Y → (∀ s' w' σ' H', w1.le w' → Rel C s' w' σ' H' → G H') →
      (∀ i H v H' s' w' σ', i < xs.length → w1.le w' → Rel C s' w' σ' H → Y i H v H' → ∃ w2 x, w'.le w2 ∧ Rel C s' w2 σ' H' ∧ xs[i]? = some x ∧ DV C.K w2 x v ∧ (∀ b o, H b = some o → H' b = some o) ∧ ∀ p o, Loose C w' p → H p = some o → Loose C w2 p) → P J H1
  | .ex c s => ∀ w' H', w.le w' → Rel C s w' σ H' → C.W (clsOf C c) none σ H'
  | .no => False
def tI (C : Ctx) (src : DenA) : TI := fun σ H R => ∃ s w, Rel C s w σ H ∧ postI C w σ R (src s)
def DI (C : Ctx) (X : Cx) (tg iter : Expr) (src : DenA) : Prop := PI X tg iter (tI C src)
theorem PI.imp {X : Cx} {tg e : Expr} {t t' : TI} (h : PI X tg e t) (i : ∀ σ H Q, t' σ H Q → t σ H Q) : PI X tg e t' := ⟨fun p s σ H R I q => h.run p s σ H R I (i σ H R q)⟩
theorem postI_le {w w' : Wd} {P : It → Hp → Prop} {r : R (List D)} (l : w.le w') (h : postI C w σ P r) : postI C w' σ P r := by
  cases r with
  | ok d s => exact fun z w2 H' J G Y l2 a b c d => h z w2 H' J G Y (l.trans l2) a b c d
  | ex c s => exact fun w2 H' l2 a => h w2 H' (l.trans l2) a
  | no => exact h
def srcD : D → Option (List D)
  | .lst xs => some xs
  | .tup xs => some xs
  | .str z => some (z.cps.toList.map fun c => D.str ⟨#[c]⟩)
  | _ => none
def iSeq (da : Den) : DenA := fun s => (da s).bind fun x s1 => match srcD x with
  | some xs => .ok xs s1
  | none => .no
/-- a list, a tuple, a text, by what it is -/
def wSeq (K : PySem.W.Frag) (tl : TE) : TI := fun σ H R => tl σ H fun x H1 => (∃ a, x = .ref a ∧ (∃ xs, SqL K H1 a xs) ∧ R (Itl K a) H1) ∨ (∃ a, x = .ref a ∧ (∃ xs, SqT K H1 a xs) ∧ R (Itt K a) H1) ∨ ∃ z, x = .str z ∧ R (Its z) H1
theorem wseq_ok {tg l : Expr} {tl : TE} (hl : PE X l tl) : PI X tg l (wSeq X.K tl) := by
  refine ⟨fun pins s σ H R I h => ?_⟩
  refine thn (hl.run pins s σ H _ I h) fun v s1 ⟨x, H1, I1, r1, q1⟩ => ?_
  rcases q1 with ⟨a, e, ⟨xs, hq⟩, q⟩ | ⟨a, e, ⟨xs, hq⟩, q⟩ | ⟨z, e, q⟩
  · subst e
    cases r1
    obtain ⟨its, rv, p, hz⟩ := I1.list hq
    refine wpAny_pyIter_list p.isList ?_
    refine ⟨s1.heap.objs.size, [s1.heap.objs.size], _, _, H1, rfl, I1.kept (t' := s1.toks) fun b o e => Heap.get?_push_of_some _ e, turn_list a _, ⟨_, Heap.get?_push_size _ rfl, rfl, rfl⟩, fun b hb => ?_, q⟩
    have e : b = s1.heap.objs.size := by simpa using hb
    subst e
    exact I1.fpOk (Nat.le_refl _) (I1.hok.fresh (Nat.le_refl _))
  · subst e
    cases r1
    obtain ⟨its, rv, p, hz⟩ := I1.tuple hq
    refine wpAny_pyIter_tuple (show s1.heap.IsTuple a its.toArray from p) ?_
    refine ⟨s1.heap.objs.size, [s1.heap.objs.size], _, _, H1, rfl, I1.kept (t' := s1.toks) fun b o e => Heap.get?_push_of_some _ e, turn_tuple a _, ⟨_, Heap.get?_push_size _ rfl, rfl, rfl⟩, fun b hb => ?_, q⟩
    have e : b = s1.heap.objs.size := by simpa using hb
    subst e
    exact I1.fpOk (Nat.le_refl _) (I1.hok.fresh (Nat.le_refl _))
  · subst e
    obtain ⟨t, rfl⟩ := r1
    cases ha : z.cps.all (· < 128)
    · exact wpAny_pyIter_wide ha (pi_one (tk := s1.toks) I1 _ (turn_str _ z t "str_iterator" (.inr rfl)) ⟨_, Heap.get?_push_size _ rfl, rfl, rfl⟩ q)
    · exact wpAny_pyIter_ascii ha (pi_one (tk := s1.toks) I1 _ (turn_str _ z t "str_ascii_iterator" (.inl rfl)) ⟨_, Heap.get?_push_size _ rfl, rfl, rfl⟩ q)
/-- items that stand in the plain data are told as such -/
theorem yat {w1 : Wd} {xs : List D} {vs : List V} (hv : DVs C.K w1 xs vs) : ∀ (i : Nat) (H : Hp) (v : V) (H' : Hp) (s' : S) (w' : Wd) (σ' : L2.St), i < xs.length → w1.le w' → Rel C s' w' σ' H → YAt vs i H v H' →
    ∃ w2 x, w'.le w2 ∧ Rel C s' w2 σ' H' ∧ xs[i]? = some x ∧ DV C.K w2 x v ∧ (∀ b o, H b = some o → H' b = some o) ∧ ∀ p o, Loose C w' p → H p = some o → Loose C w2 p := fun i H v H' s' w' σ' hi l r y => by
  obtain ⟨rfl, e⟩ := y
  have e1 : xs[i]? = some xs[i] := List.getElem?_eq_getElem hi
  obtain ⟨u, e2, d⟩ := hv.get e1
  rw [e2] at e; cases e
  exact ⟨w', _, .refl w', r, e1, DV.mono l _ _ d, fun _ _ h => h, fun _ _ h _ => h⟩
theorem di_seq {tg e : Expr} {da : Den} (h : DE C X e da) (hK : X.K = C.K := by rfl) : DI C X tg e (iSeq da) := PI.imp (wseq_ok h) fun σ H R ⟨s, w, r, h⟩ =>
  seqE (Z := postI C w σ R) (fun z => z) (fun _ _ z => z) r h fun x s1 w1 H1 v l1 r1 d1 h1 => by
    cases x with
    | lst xs =>
      obtain ⟨a, vs, e, q, z, t⟩ := (show ∃ a vs, v = .ref a ∧ w1.B a = some (.lst vs) ∧ vs.length ≤ sizeLine ∧ DVs C.K w1 xs vs from d1)
      have hl := t.length
      refine .inl ⟨a, e, ⟨vs, SqL.of (r1.hr.sub _ _ q)⟩, h1 (by rw [← hl]; exact z) w1 H1 _ (fun H => SqL X.K H a vs) (YAt vs) l1 r1 (by rw [← hl]; exact walk_list) (fun s' w' σ' H' l r => SqL.of (r.hr.sub _ _ (l.B _ _ q))) (yat t)⟩
    | tup xs =>
      obtain ⟨a, vs, e, q, z, t⟩ := (show ∃ a vs, v = .ref a ∧ SqT C.K w1.B a vs ∧ vs.length ≤ sizeLine ∧ DVs C.K w1 xs vs from d1)
      have hl := t.length
      refine .inr (.inl ⟨a, e, ⟨vs, by rw [hK]; exact sqT_mono r1.hr.sub q⟩, h1 (by rw [← hl]; exact z) w1 H1 _ (fun H => SqT X.K H a vs) (YAt vs) l1 r1 (by rw [← hl]; exact walk_tup) (fun s' w' σ' H' l r => by rw [hK]; exact sqT_mono r.hr.sub (sqT_mono l.B q)) (yat t)⟩)
    | str z =>
      have hlen : ((z.cps.toList.map fun c => D.str ⟨#[c]⟩).length) = z.cps.size := by rw [List.length_map, Array.length_toList]
      refine .inr (.inr ⟨z, d1.1, h1 (by rw [hlen]; exact d1.2.2) w1 H1 _ (fun _ => True) (fun i H v H' => H' = H ∧ ∃ c, z.cps[i]? = some c ∧ v = .str ⟨#[c]⟩) l1 r1 (by rw [hlen]; exact walk_str) (fun _ _ _ _ _ _ => trivial) (fun i H v H' s' w' σ' hi l r y => ?_)⟩)
      obtain ⟨rfl, c, e1, rfl⟩ := y
      refine ⟨w', .str ⟨#[c]⟩, .refl w', r, ?_, ⟨rfl, ?_, (by show 1 ≤ sizeLine; decide)⟩, fun _ _ h => h, fun _ _ h _ => h⟩
      · rw [List.getElem?_map, Array.getElem?_toList, e1]; rfl
      · have hm : c ∈ z.cps := Array.mem_of_getElem? e1
        have := Array.all_eq_true_iff_forall_mem.mp d1.2.1 c hm
        unfold PyData.strOk
        simpa using this
    | _ => exact (show False from h1).elim
end
end DL

set_option maxHeartbeats 4000000
namespace DL
open PySem PySem.Spec PyProof.Rows L2

/-! ### ranges, reversed -/
def nums (lo c : Int) (n : Nat) : List D := (List.range n).map fun i => D.int (lo + (i : Nat) * c)
theorem nums_get {lo c : Int} {n i : Nat} (h : i < n) : (nums lo c n)[i]? = some (.int (lo + (i : Nat) * c)) := by
  unfold nums
  rw [List.getElem?_map, List.getElem?_range h]; rfl
theorem nums_len {lo c : Int} {n : Nat} : (nums lo c n).length = n := by unfold nums; rw [List.length_map, List.length_range]
def listI : List D → Option (List Int)
  | [] => some []
  | .int i :: r => (listI r).map (i :: ·)
  | _ => none
/-- range(j), range(i, j), range(i, j, -1) -/
def rng : Nat → List Int → Option (List D)
  | 1, [j] => if -(cap : Int) ≤ j ∧ j ≤ cap then some (nums 0 1 j.toNat) else none
  | 2, [i, j] => if -(cap : Int) ≤ i ∧ i ≤ cap ∧ -(cap : Int) ≤ j ∧ j ≤ cap then some (nums i 1 (j - i).toNat) else none
  | 3, [i, j, k] => if -(cap : Int) ≤ i ∧ i ≤ cap ∧ -(cap : Int) ≤ j ∧ j ≤ cap ∧ k = -1 then some (nums i (-1) (i - j).toNat) else none
  | _, _ => none
def iRg (k : Nat) (da : DenA) : DenA := fun s => (da s).bind fun xs s1 => match (listI xs).bind (rng k) with
  | some ys => .ok ys s1
  | none => .no
def iRv (da : DenA) : DenA := fun s => (da s).bind fun xs s1 => match xs with
  | [.lst ys] => .ok ys.reverse s1
  | _ => .no
section
variable {C : Ctx} {X : Cx} {s : S} {w : Wd} {σ : L2.St} {H : Hp}
theorem listI_dv : ∀ {xs : List D} {ns : List Int} {vs : List V}, listI xs = some ns → DVs C.K w xs vs → vs = ns.map V.int
  | [], ns, vs, e, d => by
    cases e
    exact d
  | .int i :: r, ns, vs, e, d => by
    obtain ⟨v, t, e1, d1, d2⟩ := (show ∃ v t, vs = v :: t ∧ DV C.K w (.int i) v ∧ DVs C.K w r t from d)
    cases q : listI r with
    | none => simp [listI, q] at e
    | some ms =>
      simp [listI, q] at e
      subst e
      rw [e1, show v = .int i from d1, listI_dv q d2]; rfl
  | .non :: r, ns, vs, e, d => by cases e
  | .bl _ :: r, ns, vs, e, d => by cases e
  | .str _ :: r, ns, vs, e, d => by cases e
  | .tup _ :: r, ns, vs, e, d => by cases e
  | .lst _ :: r, ns, vs, e, d => by cases e
  | .ptr _ :: r, ns, vs, e, d => by cases e
  | .rol _ :: r, ns, vs, e, d => by cases e
  | .dic _ :: r, ns, vs, e, d => by cases e
  | .obj _ _ :: r, ns, vs, e, d => by cases e
theorem yfn {w1 : Wd} {xs : List D} {f : Nat → Int} (hx : ∀ i, i < xs.length → xs[i]? = some (.int (f i))) : ∀ (i : Nat) (H : Hp) (v : V) (H' : Hp) (s' : S) (w' : Wd) (σ' : L2.St), i < xs.length → w1.le w' → Rel C s' w' σ' H → YFn (fun i => .int (f i)) i H v H' →
    ∃ w2 x, w'.le w2 ∧ Rel C s' w2 σ' H' ∧ xs[i]? = some x ∧ DV C.K w2 x v ∧ (∀ b o, H b = some o → H' b = some o) ∧ ∀ p o, Loose C w' p → H p = some o → Loose C w2 p := fun i H v H' s' w' σ' hi l r y => by
  obtain ⟨rfl, rfl⟩ := y
  exact ⟨w', _, .refl w', r, hx i hi, rfl, fun _ _ h => h, fun _ _ h _ => h⟩
theorem rng_use {k : Nat} {σ : L2.St} {P : It → Hp → Prop} {xs : List D} {s1 : S} (h : postI C w σ P (match (listI xs).bind (rng k) with
    | some ys => R.ok ys s1
    | none => .no)) : ∃ ns ys, listI xs = some ns ∧ rng k ns = some ys ∧ postI C w σ P (.ok ys s1) := by
  cases e : listI xs with
  | none => simp only [e, Option.bind_none] at h; exact h.elim
  | some ns =>
    cases e2 : rng k ns with
    | none => simp only [e, Option.bind_some, e2] at h; exact h.elim
    | some ys => simp only [e, Option.bind_some, e2] at h; exact ⟨ns, ys, rfl, e2, h⟩
theorem di_range1 {tg a : Expr} {da : DenA} {p pos : Pos} (hg : Gl X "range") (hm : X.mg "range" = none) (ha : DA C X [a] da) (hs : starEach [a] X.env = [(false, eval a X.env)] := by rfl) : DI C X tg (.Call (.Name "range" p) [a] [] pos) (iRg 1 da) :=
  PI.imp (pi_range1 hg hm ha hs) fun σ H R ⟨s, w, r, h⟩ => by
    refine seqA (Z := postI C w σ R) (fun z => z) (fun _ _ z => z) r h fun xs s1 w1 H1 vs l1 r1 d1 h1 => ?_
    · skip
      obtain ⟨ns, ys, e1, e2, h2⟩ := rng_use h1
      have ev := listI_dv e1 d1
      match ns, e2, ev with
      | [j], e2, ev =>
        simp only [rng] at e2
        split at e2
        · rename_i hc
          have hc' : -1000000 ≤ j ∧ j ≤ 1000000 := hc
          cases e2
          refine ⟨j, ev, by omega, by omega, h2 (by rw [nums_len]; exact cap_le (by omega)) w1 H1 _ (fun _ => True) (YFn fun i => .int (0 + (i : Nat))) l1 r1 (by rw [nums_len]; exact walk_range) (fun _ _ _ _ _ _ => trivial) (yfn fun i hi => ?_)⟩
          rw [nums_len] at hi
          rw [nums_get hi, Int.mul_one]
        · cases e2
theorem di_range2 {tg a b : Expr} {da : DenA} {p pos : Pos} (hg : Gl X "range") (hm : X.mg "range" = none) (ha : DA C X [a, b] da) (hs : starEach [a, b] X.env = [(false, eval a X.env), (false, eval b X.env)] := by rfl) (hs2 : starEach [b] X.env = [(false, eval b X.env)] := by rfl) :
    DI C X tg (.Call (.Name "range" p) [a, b] [] pos) (iRg 2 da) :=
  PI.imp (pi_range2 hg hm ha hs hs2) fun σ H R ⟨s, w, r, h⟩ => by
    refine seqA (Z := postI C w σ R) (fun z => z) (fun _ _ z => z) r h fun xs s1 w1 H1 vs l1 r1 d1 h1 => ?_
    · skip
      obtain ⟨ns, ys, e1, e2, h2⟩ := rng_use h1
      have ev := listI_dv e1 d1
      match ns, e2, ev with
      | [i, j], e2, ev =>
        simp only [rng] at e2
        split at e2
        · rename_i hc
          have hc' : -1000000 ≤ i ∧ i ≤ 1000000 ∧ -1000000 ≤ j ∧ j ≤ 1000000 := hc
          cases e2
          refine ⟨i, j, ev, ⟨by omega, by omega, by omega, by omega⟩, h2 (by rw [nums_len, sizeLine_eq]; omega) w1 H1 _ (fun _ => True) (YFn fun k => .int (i + (k : Nat))) l1 r1 (by rw [nums_len]; exact walk_range) (fun _ _ _ _ _ _ => trivial) (yfn fun k hi => ?_)⟩
          rw [nums_len] at hi
          rw [nums_get hi, Int.mul_one]
        · cases e2
theorem di_range3 {tg a b c : Expr} {da : DenA} {p pos : Pos} (hg : Gl X "range") (hm : X.mg "range" = none) (ha : DA C X [a, b, c] da) (hs : starEach [a, b, c] X.env = (false, eval a X.env) :: starEach [b, c] X.env := by rfl) (hpl : (backTo pos (starEach [b, c] X.env)).any (·.1) = false := by rfl) :
    DI C X tg (.Call (.Name "range" p) [a, b, c] [] pos) (iRg 3 da) :=
  PI.imp (pi_range3 hg hm ha hs hpl) fun σ H R ⟨s, w, r, h⟩ => by
    refine seqA (Z := postI C w σ R) (fun z => z) (fun _ _ z => z) r h fun xs s1 w1 H1 vs l1 r1 d1 h1 => ?_
    · skip
      obtain ⟨ns, ys, e1, e2, h2⟩ := rng_use h1
      have ev := listI_dv e1 d1
      match ns, e2, ev with
      | [i, j, k], e2, ev =>
        simp only [rng] at e2
        split at e2
        · rename_i hc
          have hc' : -1000000 ≤ i ∧ i ≤ 1000000 ∧ -1000000 ≤ j ∧ j ≤ 1000000 ∧ k = -1 := hc
          obtain ⟨_, _, _, _, rfl⟩ := hc'
          cases e2
          refine ⟨i, j, -1, (i - j).toNat, ev, RgC.neg (by omega) (by omega) (by omega) (by omega), h2 (by rw [nums_len, sizeLine_eq]; omega) w1 H1 _ (fun _ => True) (YFn fun k => .int (i + (k : Nat) * (-1))) l1 r1 (by rw [nums_len]; exact walk_rangeC) (fun _ _ _ _ _ _ => trivial) (yfn fun k hi => ?_)⟩
          rw [nums_len] at hi
          rw [nums_get hi]
        · cases e2
theorem di_rev {tg a : Expr} {da : Den} {p pos : Pos} (hg : Gl X "reversed") (hm : X.mg "reversed" = none) (ha : DE C X a da) (hs : starEach [a] X.env = [(false, eval a X.env)] := by rfl) (hK : X.K = C.K := by rfl) : DI C X tg (.Call (.Name "reversed" p) [a] [] pos) (iRv (aCons da aNil)) :=
  PI.imp (pi_reversed hg hm (da_cons ha da_nil hs) hs) fun σ H R ⟨s, w, r, h⟩ =>
    seqA (Z := postI C w σ R) (fun z => z) (fun _ _ z => z) r h fun xs s1 w1 H1 vs l1 r1 d1 h1 => by
      match xs, d1, h1 with
      | [], d1, h1 => exact h1.elim
      | [x], d1, h1 =>
        cases x with
        | lst ys =>
          obtain ⟨v, q, e1, e, tl⟩ := (show ∃ v r, vs = v :: r ∧ DV C.K w1 (.lst ys) v ∧ DVs C.K w1 [] r from d1)
          have tl : q = [] := tl
          subst tl
          obtain ⟨a', us, e2, hq, hz, hv⟩ := (show ∃ a vs, v = .ref a ∧ w1.B a = some (.lst vs) ∧ vs.length ≤ sizeLine ∧ DVs C.K w1 ys vs from e)
          have hl := hv.length
          refine ⟨a', us, by rw [e1, e2], SqL.of (r1.hr.sub _ _ hq), h1 (by rw [List.length_reverse, ← hl]; exact hz) w1 H1 _ (fun H => SqL X.K H a' us) (fun i H x H' => H' = H ∧ us[us.length - 1 - i]? = some x) l1 r1 (by rw [List.length_reverse, ← hl]; exact walk_rev) (fun s' w' σ' H' l r => SqL.of (r.hr.sub _ _ (l.B _ _ hq))) (fun i H v' H' s' w' σ' hi l r y => ?_)⟩
          obtain ⟨rfl, e3⟩ := y
          rw [List.length_reverse] at hi
          have e4 : ys.reverse[i]? = ys[ys.length - 1 - i]? := List.getElem?_reverse hi
          have e5 : ys[ys.length - 1 - i]? = some (ys[ys.length - 1 - i]'(by omega)) := List.getElem?_eq_getElem (by omega)
          obtain ⟨u, e6, dd⟩ := hv.get e5
          rw [hl, e6] at e3; cases e3
          exact ⟨w', _, .refl w', r, by rw [e4, e5], DV.mono l _ _ dd, fun _ _ h => h, fun _ _ h _ => h⟩
        | _ => exact (show False from h1).elim
      | x :: y :: z, d1, h1 => cases x <;> exact (show False from h1).elim
end
end DL

set_option maxHeartbeats 4000000
namespace DL
open PySem PySem.Spec PyProof.Rows L2

/-! ### for -/
def forL (g : Tgt) (b : SDen) : List D → S → SR
  | [], s => .nx s
  | x :: xs, s => match g x s with
    | none => .no
    | some s1 => match b s1 with
      | .nx s2 => forL g b xs s2
      | .ct s2 => forL g b xs s2
      | .bk s2 => .nx s2
      | r => r
def dFor (src : DenA) (g : Tgt) (b : SDen) : SDen := fun s => (src s).st fun xs s1 => if xs.length ≤ sizeLine then forL g b xs s1 else .no
/-! ### comprehensions -/
def wipeS (s : S) : List Nat → S
  | [] => s
  | v :: vs => (wipeS s vs).set v .no
def dOnly : Option Slot → Slot
  | some (.d x) => .d x
  | _ => .no
/-- behind a block: its own names as they were -/
def backS (s0 s : S) : List Nat → S
  | [] => s
  | v :: vs => (backS s0 s vs).set v (dOnly s0.ρ[v]?)
def R.hard {α : Type} : R α → R α
  | .ok a s => .ok a s
  | _ => .no
def compL (vs : List Nat) (g : Tgt) (t : DenT) (e : Den) : List D → S → R (List D)
  | [], s => .ok [] s
  | x :: xs, s => match g x (wipeS s vs) with
    | none => .no
    | some s1 => (t s1).hard.bind fun b s2 => if b = true then ((e s2).hard.bind fun y s3 => (compL vs g t e xs s3).bind fun ys s4 => .ok (y :: ys) s4) else compL vs g t e xs s2
def fLc (src : DenA) (vs : List Nat) (g : Tgt) (t : DenT) (e : Den) : DenA := fun s => (src s).bind fun xs s1 => if xs.length ≤ sizeLine then ((compL vs g t e xs s1).bind fun ys s2 => .ok ys (backS s1 s2 vs)) else .no
def Ctx.blk (C : Ctx) (pin : Addr → Option HO) : Ctx := { C with W := fun _ _ _ _ => False, pin := pin }
def dYes : DenT := fun s => .ok true s
section
variable {C : Ctx} {X : Cx} {s : S} {w : Wd} {σ : L2.St} {H : Hp}
theorem Rel.wish {C' : Ctx} (hK : C'.K = C.K) (hm : C'.mg = C.mg) (hw : C'.w0 = C.w0) (hH : C'.H0 = C.H0) (hp : C'.pin = C.pin) (r : Rel C s w σ H) : Rel C' s w σ H := by
  obtain ⟨K, mg, w0, H0, W, pin⟩ := C
  obtain ⟨K', mg', w0', H0', W', pin'⟩ := C'
  cases hK; cases hm; cases hw; cases hH; cases hp
  exact ⟨r.hr, r.go, r.len, r.env, r.pin⟩
theorem Rel.blk {p : Addr} {o : HO} (r : Rel C s w σ H) (h : Loose C w p) (hp : H p = some o) : Rel (C.blk fun a => if a = p then some o else C.pin a) s w σ H :=
  ⟨r.hr, r.go, r.len, r.env, fun a u e => by
    have e : (if a = p then some o else C.pin a) = some u := e
    split at e
    · rename_i q
      have e : o = u := Option.some.inj e
      rw [q, ← e]
      exact ⟨hp, h.b, h.pl, h.h0⟩
    · exact r.pin a u e⟩
theorem Rel.unblk {p : Addr} {o : HO} (hn : C.pin p = none) (r : Rel (C.blk fun a => if a = p then some o else C.pin a) s w σ H) : Rel C s w σ H ∧ Loose C w p ∧ H p = some o := by
  have q := r.pin p o (by show (if p = p then some o else C.pin p) = some o; rw [if_pos rfl])
  refine ⟨⟨r.hr, r.go, r.len, r.env, fun a u e => r.pin a u ?_⟩, ⟨q.2.2.2, q.2.1, q.2.2.1, hn⟩, q.1⟩
  show (if a = p then some o else C.pin a) = some u
  rw [if_neg (fun z => by rw [z, hn] at e; cases e)]
  exact e
/-- a loose object is written -/
theorem Rel.mutL {p : Addr} {o o' : HO} (r : Rel C s w σ H) (h : Loose C w p) (hp : H p = some o) : Rel C s w σ (upd H p o') := by
  refine r.move (ch := fun _ => False) ⟨.refl w, fun b P e _ => ⟨e, upd_ne (h.ne b P e)⟩⟩ (fun b u e => ?_) (fun b P e => ⟨r.hr.bpl b P e, ?_⟩) rfl (fun b u e _ => ?_) rfl
    (fun n c e => .inl ⟨e, fun z => z, fun _ z => z⟩) (fun b u e q _ => ?_) (fun b u e z => ⟨z, fun q => q⟩) (fun _ _ _ _ => rfl) (fun b u e1 e h1 h2 _ => ⟨by rw [upd_ne (fun q => by rw [q, h.np] at e1; cases e1)]; exact e, h1, h2⟩) r.len (fun i x e => .inl ⟨e, rfl, fun z => z⟩)
  · rw [upd_ne (fun q => by rw [q, h.b] at e; cases e)]; exact r.hr.sub b u e
  · rw [upd_ne (h.ne b P e)]; exact r.hr.plh b P e
  · by_cases q : b = p
    · rw [q]; exact ⟨_, upd_same⟩
    · rw [upd_ne q]; exact ⟨u, e⟩
  · rw [upd_ne (fun z => by
      rw [z, h.h0] at q
      rcases q with q | ⟨_, q⟩ <;> cases q)]; exact e

theorem ds_for {tg iter : Expr} {body : List Stmt} {src : DenA} {g : Tgt} {is : List Nat} {b : SDen} {pos : Pos} (hp : PassesOwn (model X.prog X.w) X.A X.env X.xe) (hc : X.calm = true) (hi : DI C X tg iter src) (hg : DG C X tg g is) (hb : DSs C X body b)
    (hs : ∀ x, foldedSetIterable iter X.env x = pure x := by intro _; rfl) : DS C X (.For tg iter body [] pos) (dFor src g b) :=
  PS.imp (ps_for hp hc hi hg hb hs) fun D σ H ⟨s, w, r, h⟩ => by
    refine ⟨s, w, r, ?_⟩
    unfold dFor at h
    cases e : src s with
    | no => rw [e] at h; exact h
    | ex c s1 => rw [e] at h; exact fun w' H' l r' => h w' σ H' l r'
    | ok xs s1 =>
      rw [e] at h
      intro hz w1 H1 J G Y l1 r1 hW hG hY
      have h : postS C w D (if xs.length ≤ sizeLine then forL g b xs s1 else .no) := h
      rw [if_pos hz] at h
      refine for_it hW (fun i σ H => ∃ s' w', w1.le w' ∧ Rel C s' w' σ H ∧ postS C w' D (forL g b (xs.drop i) s')) ⟨s1, w1, .refl _, r1, by rw [List.drop_zero]; exact postS_le l1 h⟩
        (fun i σ H _ ⟨s', w', l, r', _⟩ => hG s' w' σ H l r') (fun i v σ H H' hi ⟨s', w', l, r', hh⟩ y => ?_) (fun σ H ⟨s', w', l, r', hh⟩ => ?_)
      · obtain ⟨w2, x, l2, r2, e1, dv, _⟩ := hY i H v H' s' w' σ hi l r' y
        have ed : xs.drop i = x :: xs.drop (i + 1) := by
          obtain ⟨h1, h2⟩ := List.getElem?_eq_some_iff.mp e1
          rw [List.drop_eq_getElem_cons h1, h2]
        rw [ed] at hh
        unfold forL at hh
        refine ⟨s', w2, x, r2, dv, ?_⟩
        cases e2 : g x s' with
        | none => rw [e2] at hh; exact hh.elim
        | some s2 =>
          rw [e2] at hh
          intro σ2 r3 _ _
          refine ⟨s2, w2, r3, ?_⟩
          simp only at hh
          cases e3 : b s2 with
          | nx s3 => rw [e3] at hh; exact fun w' σ' H' l' r'' => ⟨s3, w', (l.trans l2).trans l', r'', postS_le (l2.trans l') hh⟩
          | ct s3 => rw [e3] at hh; exact fun w' σ' H' l' r'' => ⟨s3, w', (l.trans l2).trans l', r'', postS_le (l2.trans l') hh⟩
          | bk s3 => rw [e3] at hh; exact fun w' σ' H' l' r'' => hh w' σ' H' (l2.trans l') r''
          | rt d s3 => rw [e3] at hh; exact fun w' σ' H' v l' r'' => hh w' σ' H' v (l2.trans l') r''
          | ex c s3 => rw [e3] at hh; exact fun w' σ' H' l' r'' => hh w' σ' H' (l2.trans l') r''
          | no => rw [e3] at hh; exact hh.elim
      · rw [List.drop_length] at hh
        exact hh w' σ H (.refl _) r'

theorem wipe_rel (r : Rel C s w σ H) : ∀ vs, Rel C (wipeS s vs) w (wipe σ vs) H
  | [] => r
  | v :: vs => by
    have r1 := wipe_rel r vs
    refine ⟨r1.hr, r1.go, ?_, fun j y e => ?_, r1.pin⟩
    · show ((wipe σ vs).set v none).length = ((wipeS s vs).ρ.set v .no).length
      rw [List.length_set, List.length_set]; exact r1.len
    · have e : ((wipeS s vs).ρ.set v .no)[j]? = some y := e
      by_cases hj : j = v
      · subst hj
        obtain ⟨_, h2⟩ := lt_of_set e
        subst h2
        exact trivial
      · rw [List.getElem?_set_ne (Ne.symm hj)] at e
        show SlotR C.K w C.H0 H j y (((wipe σ vs).set v none)[j]?.join)
        rw [List.getElem?_set_ne (Ne.symm hj)]
        exact r1.env j y e
theorem wipe_at {σ : L2.St} : ∀ {vs : List Nat} {j : Nat}, j ∉ vs → (wipe σ vs)[j]? = σ[j]?
  | [], j, _ => rfl
  | v :: vs, j, h => by
    show ((wipe σ vs).set v none)[j]? = σ[j]?
    rw [List.getElem?_set_ne (fun e => h (by rw [e]; exact List.mem_cons_self))]
    exact wipe_at fun q => h (List.mem_cons_of_mem _ q)
theorem wipe_in {σ σ' : L2.St} (hl : σ'.length = σ.length) : ∀ {vs : List Nat} {j : Nat}, j ∈ vs → (wipe σ' vs)[j]? = (wipe σ vs)[j]?
  | v :: vs, j, h => by
    show ((wipe σ' vs).set v none)[j]? = ((wipe σ vs).set v none)[j]?
    by_cases e : v = j
    · subst e
      rw [List.getElem?_set, List.getElem?_set, wipe_length, wipe_length, hl, if_pos rfl, if_pos rfl]
    · rw [List.getElem?_set_ne e, List.getElem?_set_ne e]
      exact wipe_in hl (by rcases List.mem_cons.mp h with q | q; exact absurd q.symm e; exact q)
theorem wipe_eq {σ σ' : L2.St} {vs is : List Nat} (hl : σ'.length = σ.length) (hs : ∀ j, j ∉ is → σ'[j]? = σ[j]?) (hi : ∀ j ∈ is, j ∈ vs) : wipe σ' vs = wipe σ vs := by
  refine List.ext_getElem? fun j => ?_
  by_cases h : j ∈ vs
  · exact wipe_in hl h
  · rw [wipe_at h, wipe_at h, hs j (fun q => h (hi j q))]
theorem wipe_wipe (σ : L2.St) (vs : List Nat) : wipe (wipe σ vs) vs = wipe σ vs := by
  refine List.ext_getElem? fun j => ?_
  by_cases h : j ∈ vs
  · exact wipe_in (wipe_length σ vs) h
  · rw [wipe_at h]
theorem wipeS_at : ∀ {vs : List Nat} {j : Nat}, j ∉ vs → (wipeS s vs).ρ[j]? = s.ρ[j]?
  | [], j, _ => rfl
  | v :: vs, j, h => by
    show ((wipeS s vs).ρ.set v .no)[j]? = s.ρ[j]?
    rw [List.getElem?_set_ne (fun e => h (by rw [e]; exact List.mem_cons_self))]
    exact wipeS_at fun q => h (List.mem_cons_of_mem _ q)
theorem wipeS_len : ∀ vs : List Nat, (wipeS s vs).ρ.length = s.ρ.length
  | [] => rfl
  | v :: vs => by
    show ((wipeS s vs).ρ.set v .no).length = _
    rw [List.length_set, wipeS_len vs]
theorem wipeS_M : ∀ vs : List Nat, (wipeS s vs).M = s.M
  | [] => rfl
  | v :: vs => wipeS_M vs
theorem back_rel {s0 s1 : S} {w0 w1 : Wd} {H0' : Hp} (r0 : Rel C s0 w0 σ H0') (l : w0.le w1) {vs : List Nat} (r : Rel C (wipeS s1 vs) w1 (wipe σ vs) H) : Rel C (backS s0 s1 vs) w1 σ H := by
  have hl : s1.ρ.length = s0.ρ.length := by rw [← wipeS_len (s := s1) vs, ← r.len, wipe_length, r0.len]
  have step : ∀ us : List Nat, (∀ v ∈ us, v ∈ vs) → (backS s0 s1 us).ρ.length = s0.ρ.length ∧ (backS s0 s1 us).M = s1.M ∧ ∀ j y, (backS s0 s1 us).ρ[j]? = some y → (j ∈ us ∧ y = dOnly s0.ρ[j]?) ∨ (j ∉ us ∧ s1.ρ[j]? = some y) := by
    intro us
    induction us with
    | nil => intro _; exact ⟨hl, rfl, fun j y e => .inr ⟨List.not_mem_nil, e⟩⟩
    | cons u us ih =>
      intro hu
      obtain ⟨h1, h2, h3⟩ := ih fun v hv => hu v (List.mem_cons_of_mem _ hv)
      refine ⟨by show ((backS s0 s1 us).ρ.set u _).length = _; rw [List.length_set]; exact h1, h2, fun j y e => ?_⟩
      have e : ((backS s0 s1 us).ρ.set u (dOnly s0.ρ[u]?))[j]? = some y := e
      by_cases hj : j = u
      · subst hj
        obtain ⟨_, q⟩ := lt_of_set e
        exact .inl ⟨List.mem_cons_self, q⟩
      · rw [List.getElem?_set_ne (Ne.symm hj)] at e
        rcases h3 j y e with ⟨a, b⟩ | ⟨a, b⟩
        · exact .inl ⟨List.mem_cons_of_mem _ a, b⟩
        · exact .inr ⟨fun q => (List.mem_cons.mp q).elim hj a, b⟩
  obtain ⟨h1, h2, h3⟩ := step vs fun _ h => h
  refine ⟨by rw [h2, ← wipeS_M (s := s1) vs]; exact r.hr, r.go, by rw [r0.len]; exact h1.symm, fun j y e => ?_, r.pin⟩
  rcases h3 j y e with ⟨a, b⟩ | ⟨a, b⟩
  · subst b
    cases q : s0.ρ[j]? with
    | none => exact trivial
    | some z =>
      cases z with
      | no => exact trivial
      | own _ => exact trivial
      | d x =>
        obtain ⟨v, e1, e2⟩ := (show ∃ v, σ[j]?.join = some v ∧ DV C.K w0 x v from r0.env j _ q)
        exact ⟨v, e1, DV.mono l _ _ e2⟩
  · have q := r.env j y (by rw [wipeS_at a]; exact b)
    rw [wipe_at a] at q
    exact q
theorem postF_le {w w' : Wd} {Q : V → Hp → Prop} {r : R (List D)} (l : w.le w') (h : postF C w σ Q r) : postF C w' σ Q r := by
  cases r with
  | ok d s => exact fun w2 H' p vs l2 a b c d e => h w2 H' p vs (l.trans l2) a b c d e
  | ex c s => exact fun w2 H' l2 a => h w2 H' (l.trans l2) a
  | no => exact h
/-- the conjuncts of a comprehension's tests -/
def DTs (C : Ctx) (X : Cx) (ifs : List Expr) (den : DenT) : Prop := PTs X ifs (tT C den)
theorem PTs.imp {X : Cx} {e : List Expr} {t t' : TT} (h : PTs X e t) (i : ∀ σ H Q, t' σ H Q → t σ H Q) : PTs X e t' := ⟨fun p s σ H Q I q => h.run p s σ H Q I (i σ H Q q)⟩
theorem dts_nil : DTs C X [] dYes := PTs.imp pts_nil fun σ H Q ⟨s, w, r, h⟩ => h w H (.refl w) r
theorem dts_one {c : Expr} {t : DenT} (h : DT C X c t) : DTs C X [c] t := pts_one h
def tDb (C : Ctx) (e : Den) : TE := fun σ H Q => ∃ pin, tD (C.blk pin) e σ H Q
def tTb (C : Ctx) (e : DenT) : TT := fun σ H Q => ∃ pin, tT (C.blk pin) e σ H Q
def tGb (C : Ctx) (g : Tgt) (is : List Nat) : TG := fun v σ H Q => ∃ pin, tG (C.blk pin) g is v σ H Q
theorem lc_use {wi : TI} {src : DenA} {g : Tgt} {is vs : List Nat} {t : DenT} {e : Den} {Q : VK} (hi : ∀ j ∈ is, j ∈ vs) (h : tF C (fLc src vs g t e) σ H Q) :
    tLc (tI C src) (tGb C g is) (tTb C t) (tDb C e) vs σ H Q := by
  obtain ⟨s, w, r, h⟩ := h
  refine ⟨s, w, r, ?_⟩
  unfold fLc at h
  cases e1 : src s with
  | no => rw [e1] at h; exact h
  | ex c s1 => rw [e1] at h; exact fun w' H' l r' => h w' H' l r'
  | ok xs s1 =>
    rw [e1, R.bind_ok] at h
    intro hz w1 H1 J G Y l1 r1 hW hG hY L hL
    rw [if_pos hz] at h
    have lo0 := r1.loose hL
    -- the state while the list at L grows
    refine lc_it hW (fun i H' => ∃ s' w' acc acs, w1.le w' ∧ Rel C (wipeS s' vs) w' (wipe σ vs) H' ∧ Loose C w' L ∧ H' L = some (.lst acs) ∧ acs.length ≤ i ∧ DVs C.K w' acc acs ∧
      postF C w' σ Q ((compL vs g t e (xs.drop i) s').bind fun ys s2 => .ok (acc ++ ys) (backS s1 s2 vs))) ⟨s1, w1, [], [], .refl _, wipe_rel (r1.new hL) vs, lo0, upd_same, Nat.zero_le _, rfl, ?_⟩
      (fun i H' _ ⟨s', w', acc, acs, l, r', _⟩ => hG _ w' _ H' l r') (fun i v H2 H3 hi2 ⟨s', w', acc, acs, l, r', lo, hL2, hn, dv, hh⟩ y => ?_) (fun H' ⟨s', w', acc, acs, l, r', lo, hL2, hn, dv, hh⟩ => ?_)
    · rw [List.drop_zero]
      exact postF_le l1 h
    · obtain ⟨w2, x, l2, r2, e2, dx, hk, hlo⟩ := hY i H2 v H3 _ w' _ hi2 l r' y
      have hL3 := hk L _ hL2
      have lo2 : Loose C w2 L := hlo L _ lo hL2
      have ed : xs.drop i = x :: xs.drop (i + 1) := by
        obtain ⟨h1, h2⟩ := List.getElem?_eq_some_iff.mp e2
        rw [List.drop_eq_getElem_cons h1, h2]
      rw [ed] at hh
      unfold compL at hh
      refine ⟨_, _, w2, x, r2.blk lo2 hL3, dx, ?_⟩
      cases e3 : g x (wipeS s' vs) with
      | none => rw [e3] at hh; exact hh.elim
      | some s3 =>
        rw [e3] at hh
        simp only at hh
        intro σ3 r3 hs3 hl3
        have hw3 : wipe σ3 vs = wipe σ vs := by rw [wipe_eq (hl3) hs3 hi, wipe_wipe]
        refine ⟨hw3, _, s3, w2, r3, ?_⟩
        cases e4 : t s3 with
        | no => rw [e4] at hh; exact hh.elim
        | ex c s4 => rw [e4] at hh; exact hh.elim
        | ok b s4 =>
          rw [e4] at hh
          intro w4 H4 l4 r4
          obtain ⟨r4', lo4, hL4⟩ := Rel.unblk lo2.np r4
          have hh : postF C w' σ Q ((if b = true then ((e s4).hard.bind fun y s3 => (compL vs g t e (xs.drop (i + 1)) s3).bind fun ys s4 => R.ok (y :: ys) s4) else compL vs g t e (xs.drop (i + 1)) s4).bind fun ys s2 => .ok (acc ++ ys) (backS s1 s2 vs)) := hh
          cases b with
          | false =>
            rw [if_neg Bool.false_ne_true] at hh ⊢
            refine ⟨s4, w4, acc, acs, (l.trans l2).trans l4, ?_, lo4, hL4, by omega, DVs.mono (l2.trans l4) _ _ dv, postF_le (l2.trans l4) hh⟩
            rw [← hw3]
            exact wipe_rel r4' vs
          | true =>
            rw [if_pos rfl] at hh ⊢
            refine ⟨_, s4, w4, r4, ?_⟩
            cases e5 : e s4 with
            | no => rw [e5] at hh; exact hh.elim
            | ex c s5 => rw [e5] at hh; exact hh.elim
            | ok y s5 =>
              rw [e5] at hh
              intro w5 H5 vy l5 r5 dy
              obtain ⟨r5', lo5, hL5⟩ := Rel.unblk lo2.np r5
              refine ⟨acs, hL5, by omega, s5, w5, acc ++ [y], acs ++ [vy], ((l.trans l2).trans l4).trans l5, ?_, lo5, upd_same, by rw [List.length_append, List.length_singleton]; omega, (DVs.mono ((l2.trans l4).trans l5) _ _ dv).append ⟨vy, [], rfl, dy, rfl⟩, ?_⟩
              · rw [← hw3]
                exact wipe_rel (r5'.mutL lo5 hL5) vs
              · refine postF_le ((l2.trans l4).trans l5) ?_
                have hh : postF C w' σ Q (((compL vs g t e (xs.drop (i + 1)) s5).bind fun ys s4 => R.ok (y :: ys) s4).bind fun ys s2 => .ok (acc ++ ys) (backS s1 s2 vs)) := hh
                cases e6 : compL vs g t e (xs.drop (i + 1)) s5 with
                | no => rw [e6] at hh; exact hh
                | ex c s6 => rw [e6] at hh; exact hh
                | ok ys s6 =>
                  rw [e6] at hh
                  have hh : postF C w' σ Q (.ok (acc ++ (y :: ys)) (backS s1 s6 vs)) := hh
                  show postF C w' σ Q (.ok ((acc ++ [y]) ++ ys) (backS s1 s6 vs))
                  rw [List.append_assoc]
                  exact hh
    · rw [List.drop_length] at hh
      unfold compL at hh
      rw [R.bind_ok, List.append_nil] at hh
      have rb := back_rel r1 l r'
      exact hh w' H' L acs (.refl _) rb lo hL2 (Nat.le_trans hn hz) dv
end
end DL

set_option maxHeartbeats 4000000
namespace DL
open PySem PySem.Spec PyProof.Rows L2

section
variable {C : Ctx} {X : Cx} {s : S} {w : Wd} {σ : L2.St} {H : Hp}
/-! ### comprehensions, the rules -/
theorem df_lc {elt tg iter : Expr} {ifs : List Expr} {scope : Scope} {own : List (Str × Nat)} {vs : List Nat} {pos : Pos} {src : DenA} {g : Tgt} {is : List Nat} {t : DenT} {e : Den} (hc : X.calm = true) (hN : X.N.Nodup) (hi : DI C X tg iter src) (ok : BlkOk X.N X.env.scope scope own)
    (hg : ∀ (pin : Addr → Option HO) (s : Shared) (H : Hp) (Cc : Addr) (cl : List (Str × Addr)) (fp : List Addr), DG (C.blk pin) (X.blk s H scope (compEnvC scope cl Cc X.env) fp) tg g is) (ht : ∀ (pin : Addr → Option HO) (s : Shared) (H : Hp) (Cc : Addr) (cl : List (Str × Addr)) (fp : List Addr), DTs (C.blk pin) (X.blk s H scope (compEnvC scope cl Cc X.env) fp) ifs t)
    (he : ∀ (pin : Addr → Option HO) (s : Shared) (H : Hp) (Cc : Addr) (cl : List (Str × Addr)) (fp : List Addr), DE (C.blk pin) (X.blk s H scope (compEnvC scope cl Cc X.env) fp) elt e) (hv : own.map (·.2) = vs := by rfl) (hin : ∀ j ∈ is, j ∈ vs := by decide) (hs : ∀ x, foldedSetIterable iter X.env x = pure x := by intro _; rfl) :
    DF C X (.ListComp elt [⟨tg, iter, ifs, 0⟩] scope pos) (fLc src vs g t e) := by
  subst hv
  exact PE.imp (pe_lc (g := tGb C g is) (tt := tTb C t) (te := tDb C e) hc hN hi ok (fun s H Cc cl fp => ⟨fun pins s' σ H' v u Q I r ⟨pin, q⟩ => (hg pin s H Cc cl fp).run pins s' σ H' v u Q I r q⟩)
    (fun s H Cc cl fp => ⟨fun pins s' σ H' Q I ⟨pin, q⟩ => (ht pin s H Cc cl fp).run pins s' σ H' Q I q⟩) (fun s H Cc cl fp => ⟨fun pins s' σ H' Q I ⟨pin, q⟩ => (he pin s H Cc cl fp).run pins s' σ H' Q I q⟩) hs) fun σ H Q h => lc_use (wi := tI C src) hin h
theorem ds_setLc {i : Nat} {y : Str} {py : Pos} {elt tg iter : Expr} {ifs : List Expr} {scope : Scope} {own : List (Str × Nat)} {vs : List Nat} {pos spos : Pos} {src : DenA} {g : Tgt} {is : List Nat} {t : DenT} {e : Den} (hc : X.calm = true) (hN : X.N.Nodup) (hy : X.N[i]? = some y) (hyl : X.env.scope.names.lookup y = some .local)
    (hsw : swapsWith (.ListComp elt [⟨tg, iter, ifs, 0⟩] scope pos) (some (.Name y py)) spos.line X.env = pure true) (hi : DI C X tg iter src) (ok : BlkOk X.N X.env.scope scope own)
    (hg : ∀ (pin : Addr → Option HO) (s : Shared) (H : Hp) (Cc : Addr) (cl : List (Str × Addr)) (fp : List Addr), DG (C.blk pin) (X.blk s H scope (compEnvC scope cl Cc X.env) fp) tg g is) (ht : ∀ (pin : Addr → Option HO) (s : Shared) (H : Hp) (Cc : Addr) (cl : List (Str × Addr)) (fp : List Addr), DTs (C.blk pin) (X.blk s H scope (compEnvC scope cl Cc X.env) fp) ifs t)
    (he : ∀ (pin : Addr → Option HO) (s : Shared) (H : Hp) (Cc : Addr) (cl : List (Str × Addr)) (fp : List Addr), DE (C.blk pin) (X.blk s H scope (compEnvC scope cl Cc X.env) fp) elt e) (hv : own.map (·.2) = vs := by rfl) (hin : ∀ j ∈ is, j ∈ vs := by decide) (hs : ∀ x, foldedSetIterable iter X.env x = pure x := by intro _; rfl) :
    DS C X (.Assign [.Name y py] (.ListComp elt [⟨tg, iter, ifs, 0⟩] scope pos) spos) (dSet i (dLst (fLc src vs g t e))) := by
  subst hv
  exact PS.imp (ps_setLc (g := tGb C g is) (tt := tTb C t) (te := tDb C e) hc hN hy hyl hsw hi ok (fun s H Cc cl fp => ⟨fun pins s' σ H' v u Q I r ⟨pin, q⟩ => (hg pin s H Cc cl fp).run pins s' σ H' v u Q I r q⟩)
    (fun s H Cc cl fp => ⟨fun pins s' σ H' Q I ⟨pin, q⟩ => (ht pin s H Cc cl fp).run pins s' σ H' Q I q⟩) (fun s H Cc cl fp => ⟨fun pins s' σ H' Q I ⟨pin, q⟩ => (he pin s H Cc cl fp).run pins s' σ H' Q I q⟩) hs) fun D σ H ⟨s, w, r, h⟩ => by
    refine lc_use (wi := tI C src) hin ⟨s, w, r, ?_⟩
    unfold dSet dLst at h
    cases q : fLc src (own.map (·.2)) g t e s with
    | no => rw [q] at h; exact h
    | ex c s1 => rw [q] at h; exact fun w' H' l r' => h w' σ H' l r'
    | ok xs s1 =>
      rw [q] at h
      intro w1 H1 p vs l1 r1 lo hp hz d1
      obtain ⟨l2, r2⟩ := r1.adopt lo hp
      exact h _ _ H1 (l1.trans l2) (r2.set (DV.newL hz l2 d1))
theorem ds_setLcO {i : Nat} {y : Str} {py : Pos} {elt tg iter : Expr} {ifs : List Expr} {scope : Scope} {own : List (Str × Nat)} {vs : List Nat} {pos spos : Pos} {src : DenA} {g : Tgt} {is : List Nat} {t : DenT} {e : Den} (hc : X.calm = true) (hN : X.N.Nodup) (hy : X.N[i]? = some y) (hyl : X.env.scope.names.lookup y = some .local)
    (hsw : swapsWith (.ListComp elt [⟨tg, iter, ifs, 0⟩] scope pos) (some (.Name y py)) spos.line X.env = pure true) (hi : DI C X tg iter src) (ok : BlkOk X.N X.env.scope scope own)
    (hg : ∀ (pin : Addr → Option HO) (s : Shared) (H : Hp) (Cc : Addr) (cl : List (Str × Addr)) (fp : List Addr), DG (C.blk pin) (X.blk s H scope (compEnvC scope cl Cc X.env) fp) tg g is) (ht : ∀ (pin : Addr → Option HO) (s : Shared) (H : Hp) (Cc : Addr) (cl : List (Str × Addr)) (fp : List Addr), DTs (C.blk pin) (X.blk s H scope (compEnvC scope cl Cc X.env) fp) ifs t)
    (he : ∀ (pin : Addr → Option HO) (s : Shared) (H : Hp) (Cc : Addr) (cl : List (Str × Addr)) (fp : List Addr), DE (C.blk pin) (X.blk s H scope (compEnvC scope cl Cc X.env) fp) elt e) (hv : own.map (·.2) = vs := by rfl) (hin : ∀ j ∈ is, j ∈ vs := by decide) (hs : ∀ x, foldedSetIterable iter X.env x = pure x := by intro _; rfl) :
    DS C X (.Assign [.Name y py] (.ListComp elt [⟨tg, iter, ifs, 0⟩] scope pos) spos) (dSetO i (fLc src vs g t e)) := by
  subst hv
  exact PS.imp (ps_setLc (g := tGb C g is) (tt := tTb C t) (te := tDb C e) hc hN hy hyl hsw hi ok (fun s H Cc cl fp => ⟨fun pins s' σ H' v u Q I r ⟨pin, q⟩ => (hg pin s H Cc cl fp).run pins s' σ H' v u Q I r q⟩)
    (fun s H Cc cl fp => ⟨fun pins s' σ H' Q I ⟨pin, q⟩ => (ht pin s H Cc cl fp).run pins s' σ H' Q I q⟩) (fun s H Cc cl fp => ⟨fun pins s' σ H' Q I ⟨pin, q⟩ => (he pin s H Cc cl fp).run pins s' σ H' Q I q⟩) hs) fun D σ H ⟨s, w, r, h⟩ => by
    refine lc_use (wi := tI C src) hin ⟨s, w, r, ?_⟩
    unfold dSetO at h
    cases q : fLc src (own.map (·.2)) g t e s with
    | no => rw [q] at h; exact h
    | ex c s1 => rw [q] at h; exact fun w' H' l r' => h w' σ H' l r'
    | ok xs s1 =>
      rw [q] at h
      intro w1 H1 p vs l1 r1 lo hp hz d1
      obtain ⟨l2, r2⟩ := r1.own (i := i) (c := .lst xs) lo ⟨vs, hp, hz, d1⟩
      exact h _ _ H1 (l1.trans l2) r2

/-! ### calls of the text's own defs -/
end
inductive FR where
  | ok (d : D) (M : List Cell) | ex (c : Str) (M : List Cell) | no
abbrev FD := List D → List Cell → FR
def postR (K : PySem.W.Frag) (mg : Str → Option Value) (w : Wd) (H : Hp) (Q : VK) (E : XK) : FR → Prop
  | .ok d M => ∀ w' H' v, Go w H w' H' → HR K mg w' M H' → DV K w' d v → Q v H'
  | .ex c M => ∀ w' H', Go w H w' H' → HR K mg w' M H' → E ((mg c).getD .none) none H'
  | .no => False
def spD (K : PySem.W.Frag) (mg : Str → Option Value) (n : Nat) (f : FD) : Sp := fun vs H Q E => ∃ w M args, args.length = n ∧ HR K mg w M H ∧ DVs K w args vs ∧ postR K mg w H Q E (f args M)
def runF (n : Nat) (b : SDen) : FD := fun args M => match b ⟨args.map Slot.d ++ List.replicate (n - args.length) Slot.no, M⟩ with
  | .rt d s => .ok d s.M
  | .nx s => .ok .non s.M
  | .ex c s => .ex c s.M
  | _ => .no
def useF (r : FR) (s : S) : R D := match r with
  | .ok d M => .ok d ⟨s.ρ, M⟩
  | .ex c M => .ex c ⟨s.ρ, M⟩
  | .no => .no
def dCall (f : FD) (dd : List D) (da : DenA) : Den := fun s => (da s).bind fun xs s1 => useF (f (xs ++ dd) s1.M) s1
section
variable {C : Ctx} {X : Cx} {s : S} {w w' : Wd} {σ : L2.St} {H H' : Hp}
theorem Rel.after {M : List Cell} (r : Rel C s w σ H) (g : Go w H w' H') (h : HR C.K C.mg w' M H') : Rel C ⟨s.ρ, M⟩ w' σ H' := by
  refine ⟨h, r.go.trans g, r.len, fun i x e => ?_, fun a o e => ?_⟩
  · have q := r.env i x e
    cases x with
    | no => exact trivial
    | d y =>
      obtain ⟨v, e1, e2⟩ := (show ∃ v, σ[i]?.join = some v ∧ DV C.K w y v from q)
      exact ⟨v, e1, DV.mono g.le _ _ e2⟩
    | own c =>
      obtain ⟨a, e1, p, z, ho⟩ := (show ∃ a, σ[i]?.join = some (.ref a) ∧ w.pl a = some (.slot i) ∧ C.H0 a = none ∧ OwnR C.K w H a c from q)
      obtain ⟨o, ho'⟩ := r.hr.plh a _ p
      exact ⟨a, e1, by rw [g.slot a o ho' (st_slot p)]; exact p, z, OwnR.mv g.le ((g.keep a o ho' (st_slot p)).trans ho'.symm) ho⟩
  · obtain ⟨h1, h2, h3, h4⟩ := r.pin a o e
    have ns : ¬ w.st a := fun q => by
      unfold Wd.st at q
      rw [h3] at q
      rcases q with ⟨n, q⟩ | ⟨n, f, q⟩ <;> cases q
    exact ⟨g.keep a o h1 ns, (g.new a o h1 ns).2 h2, (g.slot a o h1 ns).trans h3, h4⟩
theorem call_post {f : FR} {Q : VK} (r : Rel C s w σ H) (h : post C (DV C.K) w σ Q (useF f s)) : postR C.K C.mg w H Q (WE C.W σ) f := by
  cases f with
  | ok d M => exact fun w' H' v g hh dv => h w' H' v g.le (r.after g hh) dv
  | ex c M => exact fun w' H' g hh => h w' H' g.le (r.after g hh)
  | no => exact h
abbrev FnD (X : Cx) (C : Ctx) (k : Nat) (f : Addr) (fd : FuncData) (ps : List Str) (den : FD) : Prop := FnOk X.prog X.w X.K X.mg X.base (L2.CX X.prog X.w) k f fd ps (spD C.K C.mg ps.length den)
theorem de_call {k : Nat} {f : Addr} {fd : FuncData} {ps : List Str} {den : FD} {x : Str} {p pos : Pos} {e : Expr} {es : List Expr} {da : DenA} {dvs : List V} {ds : List Value} {dd : List D} (tk : Takes X C.W) (F : FnD X C k f fd ps den) (hr : Room k X.A) (hg : Gl X x) (hm : X.mg x = some (.ref f)) (hk : PySem.W.keepIn X.K (.ref f) = true)
    (hb : Binds X.K fd ps ds) (hd : Vals dvs ds) (hdd : ∀ K w, DVs K w dd dvs) (ha : DA C X (e :: es) da) (hlen : ∀ s xs s', da s = .ok xs s' → (xs ++ dd).length = ps.length)
    (hdb : (x == ("__debug__" : Str)) = false := by decide) (he : starEach (e :: es) X.env = (false, eval e X.env) :: starEach es X.env := by rfl) (hpl : (backTo pos (starEach es X.env)).any (·.1) = false := by rfl) :
    DE C X (.Call (.Name x p) (e :: es) [] pos) (dCall den dd da) :=
  PE.imp (pe_callSD F hr hg hm hk hb hd (fun σ => passAt tk σ) ha hdb he hpl) fun σ H Q ⟨s, w, r, h⟩ => by
    refine ⟨s, w, r, ?_⟩
    unfold dCall at h
    cases e1 : da s with
    | no => rw [e1] at h; exact h
    | ex c s1 => rw [e1] at h; exact h
    | ok xs s1 =>
      rw [e1, R.bind_ok] at h
      intro w1 H1 vs l1 r1 d1
      exact ⟨w1, s1.M, xs ++ dd, hlen s xs s1 e1, r1.hr, d1.append (hdd _ _), call_post r1 (post_le l1 h)⟩
/-- how many arguments -/
theorem len_nil : ∀ s xs s', aNil s = .ok xs s' → xs.length = 0 := fun s xs s' h => by cases h; rfl
theorem len_cons {da : Den} {dr : DenA} {n : Nat} (h : ∀ s xs s', dr s = .ok xs s' → xs.length = n) : ∀ s xs s', aCons da dr s = .ok xs s' → xs.length = n + 1 := fun s xs s' e => by
  unfold aCons at e
  cases e1 : da s with
  | no => rw [e1] at e; cases e
  | ex c s1 => rw [e1] at e; cases e
  | ok x s1 =>
    rw [e1, R.bind_ok] at e
    cases e2 : dr s1 with
    | no => rw [e2] at e; cases e
    | ex c s1 => rw [e2] at e; cases e
    | ok ys s2 =>
      rw [e2, R.bind_ok] at e
      cases e
      rw [List.length_cons, h _ _ _ e2]
theorem len_dd {da : DenA} {n m : Nat} {dd : List D} (h : ∀ s xs s', da s = .ok xs s' → xs.length = n) (hm : n + dd.length = m) : ∀ s xs s', da s = .ok xs s' → (xs ++ dd).length = m := fun s xs s' e => by
  rw [List.length_append, h _ _ _ e, hm]
end
/-- a def is worth what its body is worth -/
theorem fn_d {P : Program} {wd : World} {K : PySem.W.Frag} {mg : Str → Option Value} {base : Heap} {x qual : Str} {st : Stmt} {f : Addr} {fd : FuncData} {N ps : List Str} {k : Nat} {b : SDen} (F : Fun K x qual st f fd) (S0 : FnScope N ps (defScope st))
    (hb : ∀ (cdv : Value) (A : Around) (outer : List Env) (s : Shared) (H : Hp) (E : XK) (w0 : Wd), Room k (A.deeper (envOfC qual (defScope st) s.heap.objs.size f cdv)) →
      Takes (cxOf (L2.CX P wd) P wd K mg base N qual (defScope st) f cdv A outer s H E) (fun cls d _ H' => E cls d H') →
      PassesOwn (model P wd) (A.deeper (envOfC qual (defScope st) s.heap.objs.size f cdv)) (envOfC qual (defScope st) s.heap.objs.size f cdv) (cxOf (L2.CX P wd) P wd K mg base N qual (defScope st) f cdv A outer s H E).xe →
      DSs { K := K, mg := mg, w0 := w0, H0 := H, W := fun cls d _ H' => E cls d H' } (cxOf (L2.CX P wd) P wd K mg base N qual (defScope st) f cdv A outer s H E) (defBody st) b) :
    FnOk P wd K mg base (L2.CX P wd) (k + 1) f fd ps (spD K mg ps.length (runF N.length b)) := by
  refine Fun.okX F S0 (fun vs H Q E ⟨w, M, args, h1, _, h2, _⟩ => by rw [h2.length, h1]) (fun cdv A outer s H vs Q E hr ⟨w, M, args, h1, h2, h3, h4⟩ => ?_)
  have hpl : ps.length ≤ N.length := by
    have := congrArg List.length S0.pre
    rw [List.length_take] at this
    omega
  refine ⟨_, hb cdv A outer s H E w hr (takes_of rfl rfl rfl rfl) (passes_of rfl), ⟨args.map Slot.d ++ List.replicate (N.length - args.length) Slot.no, M⟩, w, ⟨h2, .refl w H, ?_, fun i y e => ?_, fun a o e => nomatch e⟩, ?_⟩
  · show (vs.map some ++ List.replicate (N.length - vs.length) none).length = (args.map Slot.d ++ List.replicate (N.length - args.length) Slot.no).length
    rw [List.length_append, List.length_append, List.length_map, List.length_map, List.length_replicate, List.length_replicate, h3.length]
  · have e : (args.map Slot.d ++ List.replicate (N.length - args.length) Slot.no)[i]? = some y := e
    have hl : args.length = vs.length := h3.length.symm
    by_cases hi : i < args.length
    · rw [List.getElem?_append_left (by rw [List.length_map]; exact hi), List.getElem?_map, List.getElem?_eq_getElem hi] at e
      cases e
      obtain ⟨v, e1, e2⟩ := h3.get (List.getElem?_eq_getElem hi)
      refine ⟨v, ?_, e2⟩
      show ((vs.map some ++ List.replicate (N.length - vs.length) none)[i]?).join = some v
      rw [List.getElem?_append_left (by rw [List.length_map, ← hl]; exact hi), List.getElem?_map, e1]; rfl
    · rw [List.getElem?_append_right (by rw [List.length_map]; omega), List.getElem?_replicate] at e
      split at e
      · cases e; exact trivial
      · cases e
  · unfold runF at h4
    split at h4
    · rename_i d s1 e
      rw [e]
      exact fun w' σ' H' v l r dv => h4 w' H' v r.go r.hr dv
    · rename_i s1 e
      rw [e]
      exact fun w' σ' H' l r => h4 w' H' .non r.go r.hr rfl
    · rename_i c s1 e
      rw [e]
      exact fun w' σ' H' l r => h4 w' H' r.go r.hr
    · exact h4.elim
end DL

set_option maxHeartbeats 4000000
namespace DL
open PySem PySem.Spec PyProof.Rows L2

/-! ### built-ins called -/
section
variable {C : Ctx} {X : Cx} {s : S} {w : Wd} {σ : L2.St} {H : Hp}
theorem one_dvs {x : D} {vs : List V} (h : DVs C.K w [x] vs) : ∃ v, vs = [v] ∧ DV C.K w x v := by
  obtain ⟨v, r, e, d, t⟩ := (show ∃ v r, vs = v :: r ∧ DV C.K w x v ∧ DVs C.K w [] r from h)
  rw [show r = [] from t] at e
  exact ⟨v, e, d⟩
theorem two_dvs {x y : D} {vs : List V} (h : DVs C.K w [x, y] vs) : ∃ v u, vs = [v, u] ∧ DV C.K w x v ∧ DV C.K w y u := by
  obtain ⟨v, r, e, d, t⟩ := (show ∃ v r, vs = v :: r ∧ DV C.K w x v ∧ DVs C.K w [y] r from h)
  obtain ⟨u, e2, d2⟩ := one_dvs t
  exact ⟨v, u, by rw [e, e2], d, d2⟩
def CallF (C : Ctx) (X : Cx) (f : Value) (fd : List D → S → R D) : Prop :=
  ∃ r : List V → Hp → VK → Prop, CallR X f r ∧ ∀ s w σ H xs vs Q, Rel C s w σ H → DVs C.K w xs vs → post C (DV C.K) w σ Q (fd xs s) → r vs H Q
def dCb (fd : List D → S → R D) (da : DenA) : Den := fun s => (da s).bind fd
theorem cb_use {fd : List D → S → R D} {r : List V → Hp → VK → Prop} {da : DenA} {Q : VK} (hf : ∀ s w σ H xs vs Q, Rel C s w σ H → DVs C.K w xs vs → post C (DV C.K) w σ Q (fd xs s) → r vs H Q) (h : tD C (dCb fd da) σ H Q) : tCB r (tA C da) σ H Q := by
  obtain ⟨s, w, R1, h⟩ := h
  exact seqA (Z := post C (DV C.K) w σ Q) (fun z => z) (fun _ _ z => z) R1 h fun xs s1 w1 H1 vs l1 r1 d1 h1 => hf s1 w1 σ H1 xs vs Q r1 d1 (post_le l1 h1)
theorem de_callB {fd : List D → S → R D} {x : Str} {id : String} {p pos : Pos} {e : Expr} {es : List Expr} {da : DenA} (hc : CallF C X (.builtin id) fd) (hg : Gl X x) (hm : X.mg x = none) (hv : bootBuiltins x = some (.builtin id)) (ha : DA C X (e :: es) da) (hn : x ≠ "__name__" := by decide) (hdb : (x == ("__debug__" : Str)) = false := by decide)
    (he : starEach (e :: es) X.env = (false, eval e X.env) :: starEach es X.env := by rfl) (hpl : (backTo pos (starEach es X.env)).any (·.1) = false := by rfl) : DE C X (.Call (.Name x p) (e :: es) [] pos) (dCb fd da) := by
  obtain ⟨r, h1, h2⟩ := hc
  exact PE.imp (pe_callB h1 hg hm hv ha hn hdb he hpl) fun σ H Q h => cb_use h2 h
theorem de_callTy {fd : List D → S → R D} {x : Str} {T : String} {p pos : Pos} {e : Expr} {es : List Expr} {da : DenA} (hc : CallF C X (.type T) fd) (hg : Gl X x) (hm : X.mg x = none) (hv : bootBuiltins x = some (.type T)) (ha : DA C X (e :: es) da) (hn : x ≠ "__name__" := by decide) (hdb : (x == ("__debug__" : Str)) = false := by decide)
    (he : starEach (e :: es) X.env = (false, eval e X.env) :: starEach es X.env := by rfl) (hpl : (backTo pos (starEach es X.env)).any (·.1) = false := by rfl) : DE C X (.Call (.Name x p) (e :: es) [] pos) (dCb fd da) := by
  obtain ⟨r, h1, h2⟩ := hc
  exact PE.imp (pe_callTy h1 hg hm hv ha hn hdb he hpl) fun σ H Q h => cb_use h2 h
def lenD (s : S) : D → Option Nat
  | .str z => some z.length
  | d => (seqOf s d).map List.length
def fLen (xs : List D) (s : S) : R D := match xs with
  | [x] => match lenD s x with
    | some n => .ok (.int n) s
    | none => .no
  | _ => .no
theorem cf_len (hK : X.K = C.K := by rfl) : CallF C X (.builtin "len") fLen := by
  refine ⟨_, call_len, fun s w σ H xs vs Q r d h => ?_⟩
  match xs, d, h with
  | [x], d, h =>
    obtain ⟨v, rfl, dx⟩ := one_dvs d
    unfold fLen at h
    simp only at h
    have sq : ∀ x, DV C.K w x v → post C (DV C.K) w σ Q (match (seqOf s x).map List.length with
        | some n => R.ok (D.int n) s
        | none => .no) → ∃ n, LenV X.K v H n ∧ Q (.int n) H := fun x dx h => by
      cases e : seqOf s x with
      | none => rw [e] at h; exact h.elim
      | some ys =>
        rw [e] at h
        obtain ⟨a, us, rfl, hq, hv⟩ := seqOf_at r dx e
        refine ⟨ys.length, ?_, h w H _ (.refl w) r rfl⟩
        rcases hq with hq | hq
        · exact .inl ⟨us, by rw [hK]; exact hq, hv.length.symm⟩
        · exact .inr ⟨us, by rw [hK]; exact hq, hv.length.symm⟩
    cases x with
    | str z => exact ⟨v, z.length, rfl, by rw [dx.1]; exact ⟨dx.2.2, rfl⟩, h w H _ (.refl w) r rfl⟩
    | _ => obtain ⟨n, h1, h2⟩ := sq _ dx h; exact ⟨v, n, rfl, h1, h2⟩
  | [], d, h => exact h.elim
  | x :: y :: z, d, h => exact (show False from h).elim
def fI2 (p : Int → Int → Int) (xs : List D) (s : S) : R D := match listI xs with
  | some [i, j] => .ok (.int (p i j)) s
  | _ => .no
theorem fI2_use {p : Int → Int → Int} {xs : List D} {vs : List V} {Q : VK} (r : Rel C s w σ H) (d : DVs C.K w xs vs) (h : post C (DV C.K) w σ Q (fI2 p xs s)) : ∃ i j, vs = [.int i, .int j] ∧ Q (.int (p i j)) H := by
  unfold fI2 at h
  cases e : listI xs with
  | none => rw [e] at h; exact h.elim
  | some ns =>
    rw [e] at h
    have ev := listI_dv e d
    match ns, ev, h with
    | [i, j], ev, h => exact ⟨i, j, ev, h w H _ (.refl w) r rfl⟩
    | [], _, h => exact (show False from h).elim
    | [_], _, h => exact (show False from h).elim
    | _ :: _ :: _ :: _, _, h => exact (show False from h).elim
abbrev fMin := fI2 fun i j => if j < i then j else i
abbrev fMax := fI2 fun i j => if j > i then j else i
theorem cf_min (hc : X.calm = true) : CallF C X (.builtin "min") fMin := ⟨_, call_min2 hc, fun s w σ H xs vs Q r d h => fI2_use r d h⟩
theorem cf_max (hc : X.calm = true) : CallF C X (.builtin "max") fMax := ⟨_, call_max2 hc, fun s w σ H xs vs Q r d h => fI2_use r d h⟩
def fInt (xs : List D) (s : S) : R D := match xs with
  | [.int i] => .ok (.int i) s
  | [.bl b] => .ok (.int (if b then 1 else 0)) s
  | _ => .no
theorem cf_int : CallF C X (.type "int") fInt := by
  refine ⟨_, call_int1, fun s w σ H xs vs Q r d h => ?_⟩
  match xs, d, h with
  | [x], d, h =>
    obtain ⟨v, rfl, dx⟩ := one_dvs d
    cases x with
    | int i => exact .inl ⟨i, by rw [show v = .int i from dx], h w H _ (.refl w) r rfl⟩
    | bl b => exact .inr ⟨b, by rw [show v = .bl b from dx], h w H _ (.refl w) r rfl⟩
    | _ => exact (show False from h).elim
  | [], d, h => exact (show False from h).elim
  | x :: y :: z, d, h => cases x <;> exact (show False from h).elim
def fAbs (xs : List D) (s : S) : R D := match xs with
  | [.int i] => .ok (.int (if i < 0 then -i else i)) s
  | _ => .no
theorem cf_abs : CallF C X (.builtin "abs") fAbs := by
  refine ⟨_, call_abs, fun s w σ H xs vs Q r d h => ?_⟩
  match xs, d, h with
  | [x], d, h =>
    obtain ⟨v, rfl, dx⟩ := one_dvs d
    cases x with
    | int i => exact ⟨i, by rw [show v = .int i from dx], h w H _ (.refl w) r rfl⟩
    | _ => exact (show False from h).elim
  | [], d, h => exact (show False from h).elim
  | x :: y :: z, d, h => cases x <;> exact (show False from h).elim
/-- ints in a list, by the list's values -/
theorem listI_vs : ∀ {xs : List D} {ns : List Int} {vs : List V}, listI xs = some ns → DVs C.K w xs vs → vs = ns.map V.int := fun e d => listI_dv e d
def fSum (xs : List D) (s : S) : R D := match xs with
  | [x] => match (listOf s x).bind listI with
    | some ns => .ok (.int ns.sum) s
    | none => .no
  | _ => .no
theorem cf_sum (hc : X.calm = true) (hK : X.K = C.K := by rfl) : CallF C X (.builtin "sum") fSum := by
  refine ⟨_, cr_sum hc, fun s w σ H xs vs Q r d h => ?_⟩
  match xs, d, h with
  | [x], d, h =>
    obtain ⟨v, rfl, dx⟩ := one_dvs d
    unfold fSum at h
    simp only at h
    cases e : listOf s x with
    | none => rw [e] at h; exact h.elim
    | some ys =>
      cases e2 : listI ys with
      | none => rw [e, Option.bind_some, e2] at h; exact h.elim
      | some ns =>
        rw [e, Option.bind_some, e2] at h
        obtain ⟨a, us, rfl, h1, h2, h3⟩ := listOf_at r dx e
        have := listI_dv e2 h3
        subst this
        exact ⟨a, ns, rfl, SqL.of h1, h w H _ (.refl w) r rfl⟩
  | [], d, h => exact h.elim
  | x :: y :: z, d, h => exact (show False from h).elim
/-- list(x) -/
def fList (xs : List D) (s : S) : R (List D) := match xs with
  | [x] => match seqOf s x with
    | some ys => lim ys s
    | none => .no
  | _ => .no
theorem df_list {x : Str} {p pos : Pos} {e : Expr} {es : List Expr} {da : DenA} (hg : Gl X x) (hm : X.mg x = none) (hv : bootBuiltins x = some (.type "list")) (ha : DA C X (e :: es) da) (hn : x ≠ "__name__" := by decide) (hdb : (x == ("__debug__" : Str)) = false := by decide)
    (he : starEach (e :: es) X.env = (false, eval e X.env) :: starEach es X.env := by rfl) (hpl : (backTo pos (starEach es X.env)).any (·.1) = false := by rfl) (hK : X.K = C.K := by rfl) : DF C X (.Call (.Name x p) (e :: es) [] pos) (fun s => (da s).bind fList) :=
  PE.imp (pe_callTy call_list_of hg hm hv ha hn hdb he hpl) fun σ H Q ⟨s, w, r, h⟩ =>
    seqA (Z := postF C w σ Q) (fun z => z) (fun _ _ z => z) r h fun xs s1 w1 H1 vs l1 r1 d1 h1 => by
      match xs, d1, h1 with
      | [x], d1, h1 =>
        obtain ⟨v, rfl, dx⟩ := one_dvs d1
        unfold fList at h1
        simp only at h1
        cases e : seqOf s1 x with
        | none => rw [e] at h1; exact h1.elim
        | some ys =>
          rw [e] at h1
          unfold lim at h1
          simp only at h1
          obtain ⟨a, us, rfl, hq, hv⟩ := seqOf_at r1 dx e
          split at h1
          · rename_i hc
            have hz : us.length ≤ sizeLine := cap_le (by rw [hv.length]; exact hc)
            exact ⟨a, us, rfl, by rw [hK]; exact hq, fun l hl => h1 w1 _ l us l1 (r1.new hl) (r1.loose hl) upd_same hz hv⟩
          · exact h1.elim
      | [], d1, h1 => exact h1.elim
      | x :: y :: z, d1, h1 => exact (show False from h1).elim
/-- isinstance(e, T), T a built-in class -/
def tyD : D → Option String
  | .non => some "NoneType"
  | .bl _ => some "bool"
  | .int _ => some "int"
  | .str _ => some "str"
  | .tup _ => some "tuple"
  | .lst _ => some "list"
  | _ => none
def isiB (a T : String) : Bool := a == T || (a == "bool" && T == "int")
def fIsi (T : String) (x : D) (s : S) : R D := match tyD x with
  | some a => .ok (.bl (isiB a T)) s
  | none => .no
def isiOk (T : String) : Bool := ["NoneType", "bool", "int", "str", "tuple", "list"].all fun a => kitB a T == some (isiB a T)
theorem tyD_at (r : Rel C s w σ H) {x : D} {v : V} {a : String} (hK : X.K = C.K) (h : DV C.K w x v) (e : tyD x = some a) : TyX X.K H v (.type a) := by
  cases x with
  | non => cases e; rw [show v = .non from h]; exact .base .non
  | bl b => cases e; rw [show v = .bl b from h]; exact .base (.bl b)
  | int i => cases e; rw [show v = .int i from h]; exact .base (.int i)
  | str x => cases e; rw [h.1]; exact .base (.str x)
  | tup xs =>
    cases e
    obtain ⟨a, vs, rfl, q, _, _⟩ := (show ∃ a vs, v = .ref a ∧ SqT C.K w.B a vs ∧ vs.length ≤ sizeLine ∧ DVs C.K w xs vs from h)
    rcases q with q | ⟨o, its, n, h1, h2, _⟩
    · rcases rd_mono r.hr.sub q with q | ⟨o, q⟩
      · exact .base (.tup q)
      · exact .fTuple q
    · exact .kTuple (by rw [hK]; exact h1) h2
  | lst xs =>
    cases e
    obtain ⟨a, vs, rfl, q, _, _⟩ := (show ∃ a vs, v = .ref a ∧ w.B a = some (.lst vs) ∧ vs.length ≤ sizeLine ∧ DVs C.K w xs vs from h)
    exact .base (.lst (r.hr.sub _ _ q))
  | _ => cases e
theorem de_isi {x y : Str} {T : String} {p p2 pos : Pos} {e : Expr} {da : Den} (ok : isiOk T = true) (hg : Gl X x) (hm : X.mg x = none) (hv : bootBuiltins x = some (.builtin "isinstance")) (ha : DE C X e da) (hg2 : Gl X y) (hm2 : X.mg y = none) (hv2 : bootBuiltins y = some (.type T))
    (hn : x ≠ "__name__" := by decide) (hdb : (x == ("__debug__" : Str)) = false := by decide) (hn2 : y ≠ "__name__" := by decide) (hdb2 : (y == ("__debug__" : Str)) = false := by decide)
    (he : starEach (e :: [.Name y p2]) X.env = (false, eval e X.env) :: starEach [.Name y p2] X.env := by rfl) (he2 : starEach (.Name y p2 :: []) X.env = (false, eval (.Name y p2) X.env) :: starEach [] X.env := by rfl) (hpl : (backTo pos (starEach [.Name y p2] X.env)).any (·.1) = false := by rfl) (hK : X.K = C.K := by rfl) :
    DE C X (.Call (.Name x p) [e, .Name y p2] [] pos) (dUn (fIsi T) da) :=
  PE.imp (pe_callB call_isi hg hm hv (pa_cons ha (pa_cons (pe_bltn (v := .ty T) hg2 hm2 hv2 rfl hn2 hdb2) pa_nil he2) he) hn hdb he hpl) fun σ H Q ⟨s, w, r, h⟩ =>
    seqE (Z := post C (DV C.K) w σ Q) (fun z => z) (fun _ _ z => z) r h fun x s1 w1 H1 v l1 r1 d1 h1 => by
      unfold fIsi at h1
      cases q : tyD x with
      | none => rw [q] at h1; exact h1.elim
      | some a =>
        rw [q] at h1
        refine ⟨v, .ty T, .type a, .type T, isiB a T, rfl, .ty T, tyD_at r1 hK d1 q, kit_ty ?_, h1 w1 H1 _ l1 r1 rfl⟩
        have hm : a ∈ ["NoneType", "bool", "int", "str", "tuple", "list"] := by
          cases x <;> first | (cases q; simp) | cases q
        have := List.all_eq_true.mp ok a hm
        exact eq_of_beq this

/-! ### a list at a slot: of its own, or a cell that is handed about -/
def getL (s : S) (i : Nat) : Option (List D) := match s.ρ[i]? with
  | some (.own (.lst xs)) => some xs
  | some (.d (.ptr n)) => match s.M[n]? with
    | some (.own (.lst xs)) => some xs
    | _ => none
  | _ => none
def setL (s : S) (i : Nat) (xs : List D) : S := match s.ρ[i]? with
  | some (.own _) => s.set i (.own (.lst xs))
  | some (.d (.ptr n)) => ⟨s.ρ, s.M.set n (.own (.lst xs))⟩
  | _ => s
theorem some_join {i : Nat} {v : V} (e : σ[i]?.join = some v) : σ[i]? = some (some v) := by
  cases q : σ[i]? with
  | none => rw [q] at e; cases e
  | some o => rw [q] at e; cases o with
    | none => cases e
    | some u => cases e; rfl
theorem getL_at {i : Nat} {xs : List D} (r : Rel C s w σ H) (e : getL s i = some xs) : ∃ a vs, σ[i]? = some (some (.ref a)) ∧ H a = some (.lst vs) ∧ vs.length ≤ sizeLine ∧ DVs C.K w xs vs ∧
    ∀ xs' vs', vs'.length ≤ sizeLine → DVs C.K w xs' vs' → Rel C (setL s i xs') w σ (upd H a (.lst vs')) := by
  unfold getL at e
  unfold setL
  cases q : s.ρ[i]? with
  | none => rw [q] at e; cases e
  | some y =>
    rw [q] at e
    cases y with
    | no => cases e
    | own o =>
      cases o with
      | lst ys =>
        cases e
        obtain ⟨a, e1, p, z, vs, h1, h2, h3⟩ := (show ∃ a, σ[i]?.join = some (.ref a) ∧ w.pl a = some (.slot i) ∧ C.H0 a = none ∧ ∃ vs, H a = some (.lst vs) ∧ vs.length ≤ sizeLine ∧ DVs C.K w xs vs from r.env i _ q)
        exact ⟨a, vs, some_join e1, h1, h2, h3, fun xs' vs' hz hv => r.mutS q e1 h1 ⟨vs', upd_same, hz, hv⟩⟩
      | dk _ => cases e
      | dt _ => cases e
    | d x =>
      cases x with
      | ptr n =>
        simp only at e
        cases q2 : s.M[n]? with
        | none => rw [q2] at e; cases e
        | some c =>
          rw [q2] at e
          cases c with
          | own o =>
            cases o with
            | lst ys =>
              cases e
              obtain ⟨v, e1, a, e2, h1⟩ := (show ∃ v, σ[i]?.join = some v ∧ ∃ a, v = .ref a ∧ w.ι n = some a from r.env i _ q)
              subst e2
              obtain ⟨a', q1, p, vs, h2, h3, h4⟩ := r.hr.cell n _ q2
              rw [h1] at q1; cases q1
              exact ⟨a, vs, some_join e1, h2, h3, h4, fun xs' vs' hz hv => r.mutC q2 h1 ⟨vs', upd_same, hz, hv⟩⟩
            | dk _ => cases e
            | dt _ => cases e
          | obj _ _ => cases e
          | dead => cases e
      | _ => cases e
/-- a method that reads and writes the list at a slot -/
abbrev MD := List D → List D → Option (D × List D)
def MutF (C : Ctx) (X : Cx) (id : String) (f : MD) : Prop :=
  ∃ r : V → List V → Hp → VK → Prop, MtR X id r ∧ ∀ (w : Wd) (H : Hp) a vs xs us ys d xs' (Q : VK), H a = some (.lst vs) → vs.length ≤ sizeLine → DVs C.K w xs vs → DVs C.K w ys us → f xs ys = some (d, xs') →
    (∀ v vs', DV C.K w d v → DVs C.K w xs' vs' → vs'.length ≤ sizeLine → Q v (upd H a (.lst vs'))) → r (.ref a) us H Q
def dMut (i : Nat) (f : MD) (da : DenA) : Den := fun s => match getL s i with
  | none => .no
  | some _ => (da s).bind fun ys s1 => match getL s1 i with
    | none => .no
    | some xs => match f xs ys with
      | none => .no
      | some (d, xs') => .ok d (setL s1 i xs')
theorem mut_use {i : Nat} {id : String} {f : MD} {r : V → List V → Hp → VK → Prop} {da : DenA} {Q : VK} (hK : X.K = C.K)
    (hf : ∀ (w : Wd) (H : Hp) a vs xs us ys d xs' (Q : VK), H a = some (.lst vs) → vs.length ≤ sizeLine → DVs C.K w xs vs → DVs C.K w ys us → f xs ys = some (d, xs') →
      (∀ v vs', DV C.K w d v → DVs C.K w xs' vs' → vs'.length ≤ sizeLine → Q v (upd H a (.lst vs'))) → r (.ref a) us H Q)
    (h : tD C (dMut i f da) σ H Q) : tBM X.K "list" r (tVar i) (tA C da) σ H Q := by
  obtain ⟨s, w, R1, h⟩ := h
  unfold dMut at h
  cases e : getL s i with
  | none => rw [e] at h; exact h.elim
  | some xs0 =>
    rw [e] at h
    obtain ⟨a, vs, e1, h1, _⟩ := getL_at R1 e
    refine ⟨.ref a, e1, .inl ⟨rfl, _, SqL.of h1⟩, ?_⟩
    refine seqA (Z := post C (DV C.K) w σ Q) (fun z => z) (fun _ _ z => z) R1 h fun ys s1 w1 H1 us l1 r1 d1 h2 => ?_
    cases e2 : getL s1 i with
    | none => rw [e2] at h2; exact h2.elim
    | some xs =>
      rw [e2] at h2
      simp only at h2
      cases e3 : f xs ys with
      | none => rw [e3] at h2; exact h2.elim
      | some p =>
        obtain ⟨d, xs'⟩ := p
        rw [e3] at h2
        obtain ⟨a', vs', e4, g1, g2, g3, g4⟩ := getL_at r1 e2
        rw [e1] at e4; cases e4
        exact hf w1 H1 a vs' xs us ys d xs' Q g1 g2 g3 d1 e3 fun v vs2 dv hv hz => h2 w1 _ v l1 (g4 xs' vs2 hz hv) dv
theorem de_mut {i : Nat} {x : Str} {px : Pos} {e : Expr} {es : List Expr} {name : Str} {apos cpos : Pos} {id : String} {f : MD} {da : DenA} (slot : PySem.Slot "list" name id) (hty : typeOf (.builtin id) = pure (.type "method_descriptor")) (hm : MutF C X id f) (ho : PE X (.Name x px) (tVar i)) (ha : DA C X (e :: es) da)
    (hbase : attributeBase (.Name x px) name X.env (eval (.Name x px) X.env) = eval (.Name x px) X.env := by rfl)
    (hfew : ((backTo cpos (starEach (e :: es) X.env)).all (fun x => !x.1) && (backToKw cpos (keywordEach [] X.env)).all (fun x => x.1.isSome)
      && decide ((e :: es).length + ([] : List Keyword).length + (if ([] : List Keyword).isEmpty then 0 else 1) < 30)) = true := by rfl)
    (hline : (apos.endLine == cpos.line) = true := by rfl) (hs : starEach (e :: es) X.env = (false, eval e X.env) :: starEach es X.env := by rfl) (hplain : (backTo cpos (starEach es X.env)).any (·.1) = false := by rfl) (hK : X.K = C.K := by rfl) :
    DE C X (.Call (.Attribute (.Name x px) name apos) (e :: es) [] cpos) (dMut i f da) := by
  obtain ⟨r, h1, h2⟩ := hm
  exact PE.imp (pe_bm PySem.F.plainAttrs_list slot hty h1 ho ha hbase hfew hline hs hplain) fun σ H Q h => mut_use (id := id) hK h2 h
theorem de_mut0 {i : Nat} {x : Str} {px : Pos} {name : Str} {apos cpos : Pos} {id : String} {f : MD} (slot : PySem.Slot "list" name id) (hty : typeOf (.builtin id) = pure (.type "method_descriptor")) (hm : MutF C X id f) (ho : PE X (.Name x px) (tVar i))
    (hbase : attributeBase (.Name x px) name X.env (eval (.Name x px) X.env) = eval (.Name x px) X.env := by rfl) (hline : (apos.endLine == cpos.line) = true := by rfl) (hK : X.K = C.K := by rfl) :
    DE C X (.Call (.Attribute (.Name x px) name apos) [] [] cpos) (dMut i f aNil) := by
  obtain ⟨r, h1, h2⟩ := hm
  refine PE.imp (pe_bm0 PySem.F.plainAttrs_list slot hty h1 ho hbase hline) fun σ H Q h => ?_
  obtain ⟨x, e1, h3, h4⟩ := mut_use (id := id) hK h2 h
  obtain ⟨s, w, r', h5⟩ := h4
  exact ⟨x, e1, h3, h5 w H [] (.refl w) r' rfl⟩
def mApp : MD := fun xs ys => match ys with
  | [y] => if xs.length < cap then some (.non, xs ++ [y]) else none
  | _ => none
theorem mf_append : MutF C X "list.append" mApp := by
  refine ⟨_, mt_append, fun w H a vs xs us ys d xs' Q h1 h2 h3 h4 e q => ?_⟩
  match ys, h4, e with
  | [y], h4, e =>
    obtain ⟨u, rfl, dy⟩ := one_dvs h4
    unfold mApp at e
    simp only at e
    split at e
    · rename_i hc
      cases e
      have hc' : vs.length < 1000000 := by rw [h3.length]; exact hc
      have hl : (vs ++ [u]).length ≤ sizeLine := by rw [List.length_append, List.length_singleton, sizeLine_eq]; omega
      exact ⟨a, vs, u, rfl, rfl, h1, by rw [sizeLine_eq]; omega, q .non (vs ++ [u]) rfl (h3.append h4) hl⟩
    · cases e
  | [], _, e => cases e
  | _ :: _ :: _, _, e => cases e
/-- pop() -/
def mPop : MD := fun xs ys => match ys with
  | [] => match xs.getLast? with
    | some y => some (y, xs.dropLast)
    | none => none
  | [.int i] => match seqIndex? i xs.length with
    | some k => match xs[k]? with
      | some y => if -(2 ^ 63) ≤ i ∧ i < 2 ^ 63 then some (y, xs.eraseIdx k) else none
      | none => none
    | none => none
  | _ => none
theorem DVs.dropLast {w : Wd} {xs : List D} {vs : List V} (h : DVs C.K w xs vs) : DVs C.K w xs.dropLast vs.dropLast := by
  rw [List.dropLast_eq_take, List.dropLast_eq_take, h.length]
  exact h.take _
theorem mf_pop : MutF C X "list.pop" mPop := by
  refine ⟨_, MtR.or mt_pop mt_popAt, fun w H a vs xs us ys d xs' Q h1 h2 h3 h4 e q => ?_⟩
  match ys, h4, e with
  | [], h4, e =>
    have hu : us = [] := h4
    subst hu
    unfold mPop at e
    simp only at e
    cases e1 : xs.getLast? with
    | none => rw [e1] at e; cases e
    | some y =>
      rw [e1] at e
      cases e
      rw [List.getLast?_eq_getElem?] at e1
      obtain ⟨v, e2, dv⟩ := h3.get e1
      refine .inl ⟨a, vs, v, rfl, rfl, h1, by rw [h3.length]; exact e2, q v _ dv h3.dropLast (Nat.le_trans ?_ h2)⟩
      rw [List.length_dropLast]; omega
  | [y], h4, e =>
    obtain ⟨u, rfl, dy⟩ := one_dvs h4
    cases y with
    | int i =>
      unfold mPop at e
      simp only at e
      cases e1 : seqIndex? i xs.length with
      | none => rw [e1] at e; cases e
      | some k =>
        rw [e1] at e
        simp only at e
        cases e2 : xs[k]? with
        | none => rw [e2] at e; cases e
        | some y =>
          rw [e2] at e
          simp only at e
          split at e
          · rename_i hc
            cases e
            obtain ⟨v, e3, dv⟩ := h3.get e2
            refine .inr ⟨a, vs, i, k, v, rfl, by rw [show u = .int i from dy], h1, hc.1, hc.2, by rw [h3.length]; exact e1, e3, q v _ dv (h3.erase k) (Nat.le_trans ?_ h2)⟩
            rw [List.length_eraseIdx]; split <;> omega
          · cases e
    | _ => cases e
  | y1 :: _ :: _, _, e => cases y1 <;> cases e
def mIns : MD := fun xs ys => match ys with
  | [.int i, y] => if xs.length < cap ∧ 0 ≤ i ∧ i < 2 ^ 63 then some (.non, xs.take i.toNat ++ [y] ++ xs.drop i.toNat) else none
  | _ => none
theorem mf_insert : MutF C X "list.insert" mIns := by
  refine ⟨_, mt_insert, fun w H a vs xs us ys d xs' Q h1 h2 h3 h4 e q => ?_⟩
  match ys, h4, e with
  | [x, y], h4, e =>
    obtain ⟨u1, u2, rfl, d1, d2⟩ := two_dvs h4
    cases x with
    | int i =>
      unfold mIns at e
      simp only at e
      split at e
      · rename_i hc
        cases e
        have hc' : vs.length < 1000000 := by rw [h3.length]; exact hc.1
        have hd : DVs C.K w [y] [u2] := ⟨u2, [], rfl, d2, rfl⟩
        refine ⟨a, vs, i, u2, rfl, by rw [show u1 = .int i from d1], h1, by rw [sizeLine_eq]; omega, hc.2.1, hc.2.2, q .non _ rfl (((h3.take _).append hd).append (h3.drop _)) ?_⟩
        rw [List.length_append, List.length_append, List.length_take, List.length_drop, List.length_singleton, sizeLine_eq]; omega
      · cases e
    | _ => cases e
  | [], _, e => cases e
  | [x], _, e => cases x <;> cases e
  | x :: _ :: _ :: _, _, e => cases x <;> cases e
/-- o[i] = e, o[i] += e for the list at a slot -/
def setAt (s : S) (i : Nat) (k v : D) : Option S := match k with
  | .int j => match getL s i with
    | some xs => match ixN xs.length j with
      | some m => some (setL s i (xs.set m v))
      | none => none
    | none => none
  | _ => none
def dSetIx (i : Nat) (dk da : Den) : SDen := fun s => (da s).st fun v s1 => match getL s1 i with
  | none => .no
  | some _ => (dk s1).st fun k s2 => match setAt s2 i k v with
    | some s3 => .nx s3
    | none => .no
theorem setAt_use {i : Nat} {k v : D} {s3 : S} {a : Addr} {vk vv : V} {Q : Hp → Prop} (r : Rel C s w σ H) (ha : σ[i]? = some (some (.ref a))) (dk : DV C.K w k vk) (dv : DV C.K w v vv) (e : setAt s i k v = some s3) (q : ∀ H', Rel C s3 w σ H' → Q H') : rSetL (.ref a) vk vv H Q := by
  unfold setAt at e
  cases k with
  | int j =>
    simp only at e
    cases e1 : getL s i with
    | none => rw [e1] at e; cases e
    | some xs =>
      rw [e1] at e
      simp only at e
      cases e2 : ixN xs.length j with
      | none => rw [e2] at e; cases e
      | some m =>
        rw [e2] at e
        cases e
        obtain ⟨a', vs, e3, h1, h2, h3, h4⟩ := getL_at r e1
        rw [ha] at e3; cases e3
        exact ⟨a, vs, j, m, rfl, dk, h1, by rw [h3.length]; exact e2, q _ (h4 _ _ (by rw [List.length_set]; exact h2) (h3.set m dv))⟩
  | _ => cases e
theorem ds_setIx {i : Nat} {x : Str} {px : Pos} {b e : Expr} {dk da : Den} {p pos : Pos} (he : DE C X e da) (ho : PE X (.Name x px) (tVar i)) (hk : DE C X b dk)
    (ha : ∀ v, assign (.Subscript (.Name x px) b p) X.env v = (do
      let ov ← holding [v] (eval (.Name x px) X.env)
      let iv ← holding [v, ov] (eval b X.env)
      standAt p
      holding [v, ov, iv] (setItem ov iv v)
      release [v, ov, iv] []) := by intro _; rfl)
    (hs : swapsWithSole [.Subscript (.Name x px) b p] e pos.line X.env = pure false := by rfl) (hw : swappedStores [.Subscript (.Name x px) b p] e X.env = pure none := by rfl)
    (h1 : (assignEach [.Subscript (.Name x px) b p] X.env).map (·.2) = [assign (.Subscript (.Name x px) b p) X.env] := by rfl) : DS C X (.Assign [.Subscript (.Name x px) b p] e pos) (dSetIx i dk da) :=
  PS.imp (ps_asg he (pg_sub ho hk set_list ha) hs hw h1) fun D σ H ⟨s, w, r, h⟩ => seqES r h fun v s1 w1 H1 vv l1 r1 d1 h1 => by
    cases e : getL s1 i with
    | none => rw [e] at h1; exact h1.elim
    | some xs =>
      rw [e] at h1
      obtain ⟨a, vs, e1, _⟩ := getL_at r1 e
      refine ⟨.ref a, e1, seqES r1 h1 fun k s2 w2 H2 vk l2 r2 d2 h2 => ?_⟩
      cases e2 : setAt s2 i k v with
      | none => rw [e2] at h2; exact h2.elim
      | some s3 =>
        rw [e2] at h2
        exact setAt_use r2 e1 d2 (DV.mono l2 _ _ d1) e2 fun H' r3 => h2 w2 σ H' (.refl _) r3
def rGetL (K : PySem.W.Frag) : V → V → Hp → VK → Prop := rIxL K
theorem get_list : PGet X (rIxL X.K) := by
  intro pins s σ H x y v u Q I rx ry h
  obtain ⟨p, xs, i, z, rfl, rfl, hq, he, q⟩ := h
  cases rx
  obtain ⟨t, rfl⟩ := ry
  obtain ⟨its, r, pl, hz⟩ := I.list hq
  obtain ⟨j, h1, h2, h3, h4, h5⟩ := atI_get he
  obtain ⟨w, ew, rw'⟩ := r.get h2
  have hl := r.length
  have hn := line63
  have fin : EP X pins σ Q w s := ⟨z, H, I, rw', q⟩
  by_cases h0 : 0 ≤ i
  · have hj : i.toNat = j := by
      rw [seqIndex_of h0 h5] at h1
      exact Option.some.inj h1
    exact wpAny_getItem_list pl.isList h0 (by omega) (by rw [hj]; simpa using ew) fin
  · have hj : (i + (its.toArray.size : Int)).toNat = j := by
      rw [seqIndex_neg (by omega) h4] at h1
      rw [List.size_toArray, ← hl]
      exact Option.some.inj h1
    exact wpAny_getItem_list_neg pl.isList (by omega) (by rw [List.size_toArray] <;> omega) (by omega) (by rw [hj]; simpa using ew) fin
/-- o[k] += e of whole numbers -/
def dAugIx (i : Nat) (dk da : Den) : SDen := fun s => match getL s i with
  | none => .no
  | some _ => (dk s).st fun k s1 => match k, getL s1 i with
    | .int j, some xs => match atI xs j with
      | some (.int n) => (da s1).st fun v s2 => match v with
        | .int m => match setAt s2 i (.int j) (.int (n + m)) with
          | some s3 => .nx s3
          | none => .no
        | _ => .no
      | _ => .no
    | _, _ => .no
theorem ds_augIx {i : Nat} {x : Str} {px : Pos} {b e : Expr} {dk da : Den} {p pos : Pos} (ho : PE X (.Name x px) (tVar i)) (hk : DE C X b dk) (he : DE C X e da)
    (ha : ∀ ov iv new, augStore b ov iv new = (do holding [new, ov, iv] (setItem ov iv new); release [new, ov, iv] []; pure .next) := by intros; rfl) (hK : X.K = C.K := by rfl) : DS C X (.AugAssign (.Subscript (.Name x px) b p) .Add e pos) (dAugIx i dk da) :=
  PS.imp (ps_augS ho hk get_list he ip_add set_list ha) fun D σ H ⟨s, w, r, h⟩ => by
    unfold dAugIx at h
    cases e0 : getL s i with
    | none => rw [e0] at h; exact h.elim
    | some xs0 =>
      rw [e0] at h
      obtain ⟨a, _, e1, _⟩ := getL_at r e0
      refine ⟨.ref a, e1, seqES r h fun k s1 w1 H1 vk l1 r1 d1 h1 => ?_⟩
      cases k with
      | int j =>
        cases e2 : getL s1 i with
        | none => rw [e2] at h1; exact h1.elim
        | some xs =>
          rw [e2] at h1
          simp only at h1
          obtain ⟨a', vs, e3, g1, g2, g3, _⟩ := getL_at r1 e2
          rw [e1] at e3; cases e3
          cases e4 : atI xs j with
          | none => rw [e4] at h1; exact h1.elim
          | some y =>
            rw [e4] at h1
            cases y with
            | int n =>
              simp only at h1
              obtain ⟨u, q1, q2⟩ := atI_dv g3 e4
              refine ⟨a, vs, j, u, rfl, d1, SqL.of g1, q1, seqES r1 h1 fun v s2 w2 H2 vv l2 r2 d2 h2 => ?_⟩
              cases v with
              | int m =>
                simp only at h2
                cases e5 : setAt s2 i (.int j) (.int (n + m)) with
                | none => rw [e5] at h2; exact h2.elim
                | some s3 =>
                  rw [e5] at h2
                  exact ⟨n, m, q2, d2, setAt_use (k := .int j) (v := .int (n + m)) r2 e1 d1 rfl e5 fun H' r3 => h2 w2 σ H' (.refl _) r3⟩
              | _ => exact (show False from h2).elim
            | _ => exact (show False from h1).elim
      | _ => exact (show False from h1).elim
/-- what is read of the list at a slot: its length, an item -/
def rdL (s : S) (i : Nat) : Option (List D) := match s.ρ[i]? with
  | some (.own (.lst xs)) => some xs
  | some (.d x) => listOf s x
  | _ => none
theorem rdL_at {i : Nat} {xs : List D} (r : Rel C s w σ H) (e : rdL s i = some xs) : ∃ a vs, σ[i]? = some (some (.ref a)) ∧ H a = some (.lst vs) ∧ vs.length ≤ sizeLine ∧ DVs C.K w xs vs := by
  unfold rdL at e
  cases q : s.ρ[i]? with
  | none => rw [q] at e; cases e
  | some y =>
    rw [q] at e
    cases y with
    | no => cases e
    | own o =>
      cases o with
      | lst ys =>
        cases e
        obtain ⟨a, e1, p, z, vs, h1, h2, h3⟩ := (show ∃ a, σ[i]?.join = some (.ref a) ∧ w.pl a = some (.slot i) ∧ C.H0 a = none ∧ ∃ vs, H a = some (.lst vs) ∧ vs.length ≤ sizeLine ∧ DVs C.K w xs vs from r.env i _ q)
        exact ⟨a, vs, some_join e1, h1, h2, h3⟩
      | dk _ => cases e
      | dt _ => cases e
    | d x =>
      obtain ⟨v, e1, dv⟩ := (show ∃ v, σ[i]?.join = some v ∧ DV C.K w x v from r.env i _ q)
      obtain ⟨a, vs, rfl, h1, h2, h3⟩ := listOf_at r dv e
      exact ⟨a, vs, some_join e1, h1, h2, h3⟩
def dLenO (i : Nat) : Den := fun s => match rdL s i with
  | some xs => .ok (.int xs.length) s
  | none => .no
theorem de_lenO {i : Nat} {x y : Str} {p px pos : Pos} (ho : PE X (.Name y px) (tVar i)) (hg : Gl X x) (hm : X.mg x = none) (hv : bootBuiltins x = some (.builtin "len")) (hn : x ≠ "__name__" := by decide) (hdb : (x == ("__debug__" : Str)) = false := by decide)
    (he : starEach (.Name y px :: []) X.env = (false, eval (.Name y px) X.env) :: starEach [] X.env := by rfl) (hpl : (backTo pos (starEach [] X.env)).any (·.1) = false := by rfl) (hK : X.K = C.K := by rfl) : DE C X (.Call (.Name x p) [.Name y px] [] pos) (dLenO i) :=
  PE.imp (pe_callB call_len hg hm hv (pa_cons ho pa_nil he) hn hdb he hpl) fun σ H Q ⟨s, w, r, h⟩ => by
    unfold dLenO at h
    cases e : rdL s i with
    | none => rw [e] at h; exact h.elim
    | some xs =>
      rw [e] at h
      obtain ⟨a, vs, e1, h1, _, h3⟩ := rdL_at r e
      exact ⟨.ref a, e1, .ref a, xs.length, rfl, .inl ⟨vs, SqL.of h1, h3.length.symm⟩, h w H _ (.refl w) r rfl⟩
def dIxO (i : Nat) (dk : Den) : Den := fun s => match rdL s i with
  | none => .no
  | some _ => (dk s).bind fun k s1 => match k, rdL s1 i with
    | .int j, some xs => match atI xs j with
      | some y => .ok y s1
      | none => .no
    | _, _ => .no
theorem de_ixO {i : Nat} {y : Str} {px pos : Pos} {b : Expr} {dk : Den} (ho : PE X (.Name y px) (tVar i)) (hk : DE C X b dk) (hs : PlainIx b := by exact fun _ _ => rfl) (hK : X.K = C.K := by rfl) : DE C X (.Subscript (.Name y px) b pos) (dIxO i dk) :=
  PE.imp (pe_ix ix_list ho hk hs) fun σ H Q ⟨s, w, r, h⟩ => by
    unfold dIxO at h
    cases e : rdL s i with
    | none => rw [e] at h; exact h.elim
    | some xs0 =>
      rw [e] at h
      obtain ⟨a, _, e1, _⟩ := rdL_at r e
      refine ⟨.ref a, e1, seqE (Z := post C (DV C.K) w σ Q) (fun z => z) (fun _ _ z => z) r h fun k s1 w1 H1 vk l1 r1 d1 h1 => ?_⟩
      cases k with
      | int j =>
        cases e2 : rdL s1 i with
        | none => rw [e2] at h1; exact h1.elim
        | some xs =>
          rw [e2] at h1
          simp only at h1
          obtain ⟨a', vs, e3, g1, g2, g3⟩ := rdL_at r1 e2
          rw [e1] at e3; cases e3
          cases e4 : atI xs j with
          | none => rw [e4] at h1; exact h1.elim
          | some y =>
            rw [e4] at h1
            obtain ⟨u, q1, q2⟩ := atI_dv g3 e4
            exact ⟨a, vs, j, u, rfl, d1, SqL.of g1, q1, h1 w1 H1 u l1 r1 q2⟩
      | _ => exact (show False from h1).elim
end
end DL

set_option maxHeartbeats 4000000
namespace DL
open PySem PySem.Spec PyProof.Rows L2

/-! ### raise, try -/
def dRaise (c : Str) : SDen := fun s => .ex c s
def SR.hard : SR → SR
  | .ex _ _ => .no
  | r => r
def dTry (tbl : List (Str × Bool)) (b h : SDen) : SDen := fun s => match b s with
  | .ex c s1 => match tbl.lookup c with
    | some true => (h s1).hard
    | some false => .ex c s1
    | none => .no
  | r => r
section
variable {C : Ctx} {X : Cx} {s : S} {w : Wd} {σ : L2.St} {H : Hp}
theorem ds_raise {e : Expr} {pos : Pos} {c : Str} {Ca : Addr} (hc : X.calm = true) (tk : Takes X C.W) (he : PMk X e (fun _ H Q => Q (.ref Ca) none H)) (hm : C.mg c = some (.ref Ca)) : DS C X (.Raise (some e) none pos) (dRaise c) :=
  PS.imp (ps_raise hc tk he) fun D σ H ⟨s, w, r, h⟩ => by
    have q := h w σ H (.refl w) r
    unfold clsOf at q
    rw [hm] at q
    exact q
abbrev Ctx.wish (C : Ctx) (W : WX) : Ctx := { C with W := W }
theorem Rel.wish2 {W W' : WX} (r : Rel { C with W := W } s w σ H) : Rel { C with W := W' } s w σ H := ⟨r.hr, r.go, r.len, r.env, r.pin⟩
/-- what is known of the classes: each one's answer to «is it caught» -/
def TblOk (K : PySem.W.Frag) (mg : Str → Option Value) (c : Value) (tbl : List (Str × Bool)) : Prop := ∀ x b, tbl.lookup x = some b → PySem.W.exmOne K ((mg x).getD .none) c = some b
theorem tbl_nil {K mg c} : TblOk K mg c [] := fun x b h => by cases h
theorem tbl_cons {K mg c} {x : Str} {b : Bool} {u : Value} {tbl : List (Str × Bool)} (hm : mg x = some u) (h : PySem.W.exmOne K u c = some b) (ht : TblOk K mg c tbl) : TblOk K mg c ((x, b) :: tbl) := fun y b' e => by
  rw [List.lookup_cons] at e
  cases q : y == x with
  | true =>
    rw [q] at e
    have e : some b = some b' := e
    cases e
    rw [eq_of_beq q, hm]; exact h
  | false =>
    rw [q] at e
    exact ht y b' e
theorem ds_try {x : Str} {c : Value} {body suite : List Stmt} {b₀ : Stmt} {np pos pos' : Pos} {tbl : List (Str × Bool)} {db dh : SDen} (hs : X.stack = X.env :: X.outer) (hf : X.env.frame = some X.env.locals) (hc : Names X x c) (tk : Takes X C.W) (ht : TblOk X.K C.mg c tbl)
    (hb : ∀ (W : WX) (pn : List (Addr × Obj)) (xe : Value → Shared → Prop), Takes (X.tr pn xe) W → PassesOwn (model X.prog X.w) X.A X.env xe → DSs { C with W := W } (X.tr pn xe) body db)
    (hsu : ∀ (a : Addr) (oe : Obj) (pn : List (Addr × Obj)), DSs { C with W := fun _ _ _ _ => False } (X.suite a ((a, oe) :: pn)) (b₀ :: suite) dh) :
    DS C X (.Try body [.ExceptHandler (some (.Name x np)) none (b₀ :: suite) pos'] [] [] pos) (dTry tbl db dh) :=
  PS.imp (ps_try_only (tb := fun W => tS { C with W := W } db) (ts := fun _ _ _ => tS { C with W := fun _ _ _ _ => False } dh) hs hf hc tk (fun W pn xe tk' po => hb W pn xe tk' po) (fun a oe cls d pn _ _ => hsu a oe pn)) fun D σ H ⟨s, w, r, h⟩ => by
    refine ⟨s, w, r.wish2, ?_⟩
    unfold dTry at h
    cases e : db s with
    | nx s1 => rw [e] at h; exact fun w' σ' H' l r' => h w' σ' H' l r'.wish2
    | rt d s1 => rw [e] at h; exact fun w' σ' H' v l r' dv => h w' σ' H' v l r'.wish2 dv
    | bk s1 => rw [e] at h; exact fun w' σ' H' l r' => h w' σ' H' l r'.wish2
    | ct s1 => rw [e] at h; exact fun w' σ' H' l r' => h w' σ' H' l r'.wish2
    | no => rw [e] at h; exact h
    | ex x s1 =>
      rw [e] at h
      intro w' σ' H' l r'
      simp only at h
      cases e2 : tbl.lookup x with
      | none => rw [e2] at h; exact h.elim
      | some b =>
        rw [e2] at h
        refine ⟨b, ht x b e2, fun hb1 a _ => ?_, fun hb1 => ?_⟩
        · subst hb1
          refine ⟨s1, w', r'.wish2, ?_⟩
          have h : postS C w D (dh s1).hard := h
          cases e3 : dh s1 with
          | nx s1 => rw [e3] at h; exact fun w2 σ' H' l2 r' => h w2 σ' H' (l.trans l2) r'.wish2
          | rt d s1 => rw [e3] at h; exact fun w2 σ' H' v l2 r' dv => h w2 σ' H' v (l.trans l2) r'.wish2 dv
          | bk s1 => rw [e3] at h; exact fun w2 σ' H' l2 r' => h w2 σ' H' (l.trans l2) r'.wish2
          | ct s1 => rw [e3] at h; exact fun w2 σ' H' l2 r' => h w2 σ' H' (l.trans l2) r'.wish2
          | no => rw [e3] at h; exact h
          | ex c s2 => rw [e3] at h; exact h.elim
        · subst hb1
          exact h w' σ' H' l r'.wish2
/-! ### the law's end -/
def spL (K : PySem.W.Frag) (n : Nat) : Sp := fun vs H Q _ => ∃ (a : Addr) (ns : List Int), vs = [.ref a] ∧ SqL K H a (ns.map V.int) ∧ ns.length ≤ n ∧ ∀ H', Q (.bl true) H'
theorem law_of {P : Program} {wd : World} {K : PySem.W.Frag} {mg : Str → Option Value} {base : Heap} {k n : Nat} {f : Addr} {fd : FuncData} {ps : List Str} {fn : FD} (F : FnOk P wd K mg base (L2.CX P wd) k f fd ps (spD K mg 1 fn)) (h : ∀ ns, ns.length ≤ n → ∃ M, fn [.rol ns] [] = .ok (.bl true) M) :
    FnOk P wd K mg base (L2.CX P wd) k f fd ps (spL K n) := F.imp fun vs H Q E ⟨a, ns, e, hS, hl, q⟩ => by
  obtain ⟨M, h⟩ := h ns hl
  refine ⟨⟨fun _ => none, H, fun _ => none⟩, [], [.rol ns], rfl, ⟨fun _ _ e => e, (fun _ _ e => nomatch e), (fun _ _ e => nomatch e), (fun _ _ e => nomatch e), (fun n c e => by cases e)⟩, by rw [e]; exact ⟨.ref a, [], rfl, ⟨a, rfl, hS⟩, rfl⟩, ?_⟩
  rw [h]
  intro w' H' v _ _ dv
  rw [show v = .bl true from dv]
  exact q H'
theorem cx_none {P : Program} {w : World} {H : Hp} {s : Shared} {e : Value} {s' : Shared} (h : L2.CX P w [] H s (fun _ _ _ => False) e s') : False := by
  obtain ⟨_, _, _, _, _, _, _, _, _, _, _, _, z⟩ := h
  exact z.elim
end
end DL

set_option maxHeartbeats 4000000
namespace DL
open PySem PySem.Spec PyProof.Rows L2

theorem exm_by {K : PySem.W.Frag} {S : Addr} {t : Value} {b : Bool} (h1 : PySem.W.subIn K (.ref S) (.type "BaseException") = some true) (h2 : PySem.W.isClsIn K S = true) (h3 : PySem.W.typeIn K (.ref S) = some (.type "type")) (h4 : PySem.W.subIn K t (.ref S) = some b) :
    PySem.W.exmOne K t (.ref S) = some b := by
  have e1 : (PySem.W.subIn K (.ref S) (.type "BaseException") == some true) = true := by rw [h1] <;> rfl
  have e2 : ((PySem.W.clsIn K S).isSome && PySem.W.typeIn K (.ref S) == some (.type "type")) = true := by
    have h2' : (PySem.W.clsIn K S).isSome = true := h2
    rw [h2', h3] <;> rfl
  show (if (PySem.W.subIn K (.ref S) (.type "BaseException") == some true) = true then (if ((PySem.W.clsIn K S).isSome && PySem.W.typeIn K (.ref S) == some (.type "type")) = true then PySem.W.subIn K t (.ref S) else none) else none) = some b
  rw [if_pos e1, if_pos e2]
  exact h4
/-! ### a list that is handed about: a cell -/
def dSetC (i : Nat) (df : DenA) : SDen := fun s => (df s).st fun xs s1 => .nx ⟨s1.ρ.set i (.d (.ptr s1.M.length)), s1.M ++ [.own (.lst xs)]⟩
section
variable {C : Ctx} {X : Cx} {s : S} {w : Wd} {σ : L2.St} {H : Hp}
def Wd.cell (w : Wd) (n : Nat) (p : Addr) : Wd := { ι := fun m => if m = n then some p else w.ι m, B := w.B, pl := fun a => if a = p then some (.cell n) else w.pl a }
theorem cell_pl {n : Nat} {p : Addr} : (w.cell n p).pl p = some (.cell n) := by unfold Wd.cell; simp
theorem cell_ne {n : Nat} {p a : Addr} (h : a ≠ p) : (w.cell n p).pl a = w.pl a := by unfold Wd.cell; simp [h]
theorem Rel.cell {p : Addr} {vs : List V} {xs : List D} (r : Rel C s w σ H) (h : Loose C w p) (hp : H p = some (.lst vs)) (hz : vs.length ≤ sizeLine) (hv : DVs C.K w xs vs) :
    w.le (w.cell s.M.length p) ∧ Rel C ⟨s.ρ, s.M ++ [.own (.lst xs)]⟩ (w.cell s.M.length p) σ H := by
  have hn : w.ι s.M.length = none := by
    cases e : w.ι s.M.length with
    | none => rfl
    | some a => exact absurd (r.hr.dom _ _ e) (Nat.lt_irrefl _)
  have l : w.le (w.cell s.M.length p) := ⟨fun n a e => by
    show (if n = s.M.length then some p else w.ι n) = some a
    rw [if_neg (fun q => by rw [q, hn] at e; cases e)]; exact e, fun _ _ e => e⟩
  have m : Mv w H (w.cell s.M.length p) H (fun _ => False) := ⟨l, fun b P e _ => ⟨by rw [cell_ne (h.ne b P e)]; exact e, rfl⟩⟩
  have h0 : ∀ a u, C.H0 a = some u → a ≠ p := fun a u e q => by rw [q, h.h0] at e; cases e
  refine ⟨l, ⟨⟨r.hr.sub, fun a P e => ?_, fun a P e => ?_, fun n a e => ?_, fun n c e => ?_⟩, r.go.trans' l (fun a o _ e => e) (fun a o e => ⟨o, e⟩) (fun a u e => cell_ne (h0 a u e)) (fun a u e z => z), r.len, fun i x e => SlotR.mv m (fun z => z) (r.env i x e), fun a o e => ?_⟩⟩
  · by_cases q : a = p
    · rw [q]; exact h.b
    · rw [cell_ne q] at e; exact r.hr.bpl a P e
  · by_cases q : a = p
    · rw [q]; exact ⟨_, hp⟩
    · rw [cell_ne q] at e; exact r.hr.plh a P e
  · have e : (if n = s.M.length then some p else w.ι n) = some a := e
    rw [List.length_append, List.length_singleton]
    split at e
    · omega
    · have := r.hr.dom n a e; omega
  · by_cases q : n < s.M.length
    · have e : (s.M ++ [.own (.lst xs)])[n]? = some c := e
      rw [List.getElem?_append_left q] at e
      obtain ⟨a, e1, e2⟩ := r.hr.cell n c e
      refine ⟨a, ?_, CellR.mv m (fun z => z) (fun _ z => z) e2⟩
      show (if n = s.M.length then some p else w.ι n) = some a
      rw [if_neg (by omega)]; exact e1
    · have e : (s.M ++ [.own (.lst xs)])[n]? = some c := e
      rw [List.getElem?_append_right (by omega)] at e
      have hnn : n = s.M.length := by
        cases q2 : n - s.M.length with
        | zero => omega
        | succ k => rw [q2] at e; cases e
      subst hnn
      rw [Nat.sub_self] at e
      cases e
      refine ⟨p, ?_, cell_pl, vs, hp, hz, DVs.mono l _ _ hv⟩
      show (if s.M.length = s.M.length then some p else w.ι s.M.length) = some p
      rw [if_pos rfl]
  · obtain ⟨h1, h2, h3, h4⟩ := r.pin a o e
    exact ⟨h1, h2, by rw [cell_ne (fun q => by rw [q, h.np] at e; cases e)]; exact h3, h4⟩
theorem ds_setC {i : Nat} {x : Str} {e : Expr} {df : DenA} {pos pos' : Pos} (hN : X.N.Nodup) (hi : X.N[i]? = some x) (hx : Loc X.env.scope x) (he : DF C X e df) (hs : swapsWith e (some (.Name x pos')) pos.line X.env = pure false := by rfl)
    (hf : X.fn x = true ∨ X.env.scope.names.lookup x = some .local := by first | exact .inl rfl | exact .inr rfl | assumption) : DS C X (.Assign [.Name x pos'] e pos) (dSetC i df) :=
  PS.imp (ps_set hN hi hx he hs hf) fun D σ H ⟨s, w, r, h⟩ => seqFS r h fun xs s1 w1 H1 p vs l1 r1 lo hp hz d1 h1 => by
    obtain ⟨l2, r2⟩ := r1.cell lo hp hz d1
    refine h1 _ _ H1 l2 (r2.set (x := .ptr s1.M.length) ⟨p, rfl, ?_⟩)
    show (if s1.M.length = s1.M.length then some p else w1.ι s1.M.length) = some p
    rw [if_pos rfl]
theorem fn_no {P : Program} {wd : World} {K : PySem.W.Frag} {mg : Str → Option Value} {base : Heap} {CX : CXT} {k : Nat} {f : Addr} {fd : FuncData} {ps : List Str} : FnOk P wd K mg base CX k f fd ps (spD K mg ps.length fun _ _ => .no) :=
  ⟨fun vs H Q E ⟨w, M, args, _, _, _, h⟩ => h.elim, fun A outer s H args us vs Q E _ _ _ _ ⟨w, M, args', _, _, _, h⟩ => h.elim⟩
end
end DL

set_option maxHeartbeats 4000000
namespace DL
open PySem L2

/-! ### reckoning with what the pieces mean -/
theorem set_def {ρ : List Slot} {M : List Cell} {i : Nat} {x : Slot} : S.set ⟨ρ, M⟩ i x = ⟨ρ.set i x, M⟩ := rfl
/-- a while, by an invariant and a measure -/
theorem while_inv {t : DenT} {b : SDen} (I : S → Prop) (m : S → Nat) (hs : ∀ s, I s → ∃ c, t s = .ok c s ∧ (c = true → ∃ s2, b s = .nx s2 ∧ I s2 ∧ m s2 < m s)) : ∀ (fuel : Nat) (s : S), m s < fuel → I s → ∃ s', whileN t b fuel s = .nx s' ∧ I s' ∧ t s' = .ok false s'
  | 0, s, h, _ => absurd h (Nat.not_lt_zero _)
  | fuel + 1, s, h, hi => by
    obtain ⟨c, e, hc⟩ := hs s hi
    unfold whileN
    rw [e]
    cases c with
    | false => exact ⟨s, rfl, hi, e⟩
    | true =>
      obtain ⟨s2, e2, i2, m2⟩ := hc rfl
      obtain ⟨s', e3, i3, t3⟩ := while_inv I m hs fuel s2 (by omega) i2
      refine ⟨s', ?_, i3, t3⟩
      show (match b s with
        | .nx s2 => whileN t b fuel s2
        | .ct s2 => whileN t b fuel s2
        | .bk s2 => .nx s2
        | r => r) = _
      rw [e2]
      exact e3
/-- a for whose turns go on, by an invariant -/
theorem for_inv {g : Tgt} {b : SDen} (xs : List D) (I : Nat → S → Prop) (hs : ∀ i x s, xs[i]? = some x → I i s → ∃ s1, g x s = some s1 ∧ ∃ s2, (b s1 = .nx s2 ∨ b s1 = .ct s2) ∧ I (i + 1) s2) : ∀ (s : S), I 0 s → ∃ s', forL g b xs s = .nx s' ∧ I xs.length s' := by
  have go : ∀ (ys : List D) (k : Nat) (s : S), xs.drop k = ys → k ≤ xs.length → I k s → ∃ s', forL g b ys s = .nx s' ∧ I xs.length s' := by
    intro ys
    induction ys with
    | nil =>
      intro k s e hk hi
      have : k = xs.length := by
        have := congrArg List.length e
        rw [List.length_drop, List.length_nil] at this
        omega
      subst this
      exact ⟨s, rfl, hi⟩
    | cons y ys ih =>
      intro k s e hk hi
      have hk2 : k < xs.length := by
        have := congrArg List.length e
        rw [List.length_drop, List.length_cons] at this
        omega
      rw [List.drop_eq_getElem_cons hk2] at e
      injection e with e1 e2
      obtain ⟨s1, g1, s2, b1, i2⟩ := hs k y s (by rw [List.getElem?_eq_getElem hk2, e1]) hi
      obtain ⟨s', f1, f2⟩ := ih (k + 1) s2 e2 hk2 i2
      refine ⟨s', ?_, f2⟩
      unfold forL
      rw [g1]
      simp only
      rcases b1 with b1 | b1 <;> (rw [b1]; exact f1)
  exact fun s h => go xs 0 s rfl (Nat.zero_le _) h
theorem dfor_inv {src : DenA} {g : Tgt} {b : SDen} {s s1 : S} {xs : List D} (e : src s = .ok xs s1) (hl : xs.length ≤ cap) (I : Nat → S → Prop) (h0 : I 0 s1) (hs : ∀ i x s, xs[i]? = some x → I i s → ∃ s1, g x s = some s1 ∧ ∃ s2, (b s1 = .nx s2 ∨ b s1 = .ct s2) ∧ I (i + 1) s2) :
    ∃ s', dFor src g b s = .nx s' ∧ I xs.length s' := by
  obtain ⟨s', h1, h2⟩ := for_inv xs I hs s1 h0
  refine ⟨s', ?_, h2⟩
  unfold dFor
  rw [e]
  show (if xs.length ≤ sizeLine then forL g b xs s1 else .no) = _
  rw [if_pos (cap_le hl), h1]
/-- a comprehension, by an invariant: ys what it has made so far -/
theorem comp_inv {vs : List Nat} {g : Tgt} {t : DenT} {e : Den} (xs : List D) (I : Nat → List D → S → Prop) (hs : ∀ i x ys s, xs[i]? = some x → I i ys s → ∃ s1, g x (wipeS s vs) = some s1 ∧ ∃ c s2, t s1 = .ok c s2 ∧ (c = true → ∃ y s3, e s2 = .ok y s3 ∧ I (i + 1) (ys ++ [y]) s3) ∧ (c = false → I (i + 1) ys s2)) : ∀ (s : S), I 0 [] s → ∃ ys s', compL vs g t e xs s = .ok ys s' ∧ I xs.length ys s' := by
  have go : ∀ (zs : List D) (k : Nat) (acc : List D) (s : S), xs.drop k = zs → k ≤ xs.length → I k acc s → ∃ ys s', compL vs g t e zs s = .ok ys s' ∧ I xs.length (acc ++ ys) s' := by
    intro zs
    induction zs with
    | nil =>
      intro k acc s eq hk hi
      have : k = xs.length := by
        have := congrArg List.length eq
        rw [List.length_drop, List.length_nil] at this
        omega
      subst this
      exact ⟨[], s, rfl, by rw [List.append_nil]; exact hi⟩
    | cons y zs ih =>
      intro k acc s eq hk hi
      have hk2 : k < xs.length := by
        have := congrArg List.length eq
        rw [List.length_drop, List.length_cons] at this
        omega
      rw [List.drop_eq_getElem_cons hk2] at eq
      injection eq with e1 e2
      obtain ⟨s1, g1, c, s2, t1, hc1, hc0⟩ := hs k y acc s (by rw [List.getElem?_eq_getElem hk2, e1]) hi
      unfold compL
      rw [g1]
      simp only [t1, R.hard, R.bind_ok]
      cases c with
      | false =>
        obtain ⟨ys, s', f1, f2⟩ := ih (k + 1) acc s2 e2 hk2 (hc0 rfl)
        exact ⟨ys, s', by rw [if_neg Bool.false_ne_true]; exact f1, f2⟩
      | true =>
        obtain ⟨z, s3, e3, i3⟩ := hc1 rfl
        obtain ⟨ys, s', f1, f2⟩ := ih (k + 1) (acc ++ [z]) s3 e2 hk2 i3
        refine ⟨z :: ys, s', ?_, by rw [List.append_cons]; exact f2⟩
        rw [if_pos rfl, e3]
        simp only [R.bind_ok, f1]
  exact fun s h => by
    obtain ⟨ys, s', h1, h2⟩ := go xs 0 [] s rfl (Nat.zero_le _) h
    exact ⟨ys, s', h1, by simpa using h2⟩
theorem flc_inv {src : DenA} {vs : List Nat} {g : Tgt} {t : DenT} {e : Den} {s s1 : S} {xs : List D} (he : src s = .ok xs s1) (hl : xs.length ≤ cap) (I : Nat → List D → S → Prop) (h0 : I 0 [] s1)
    (hs : ∀ i x ys s, xs[i]? = some x → I i ys s → ∃ s1, g x (wipeS s vs) = some s1 ∧ ∃ c s2, t s1 = .ok c s2 ∧ (c = true → ∃ y s3, e s2 = .ok y s3 ∧ I (i + 1) (ys ++ [y]) s3) ∧ (c = false → I (i + 1) ys s2)) :
    ∃ ys s', fLc src vs g t e s = .ok ys (backS s1 s' vs) ∧ I xs.length ys s' := by
  obtain ⟨ys, s', h1, h2⟩ := comp_inv xs I hs s1 h0
  refine ⟨ys, s', ?_, h2⟩
  unfold fLc
  rw [he, R.bind_ok, if_pos (cap_le hl), h1, R.bind_ok]
/-- slots outside vs as in s0, the same cells -/
def Agr (vs : List Nat) (s0 s : S) : Prop := wipeS s vs = wipeS s0 vs
theorem wipeS_set {vs : List Nat} {s : S} {v : Nat} {x : Slot} (h : v ∈ vs) : wipeS (s.set v x) vs = wipeS s vs := by
  have key : ∀ vs : List Nat, v ∈ vs → wipeS (s.set v x) vs = wipeS s vs := by
    intro vs
    induction vs with
    | nil => intro h; cases h
    | cons u us ih =>
      intro h
      by_cases hu : v ∈ us
      · show (wipeS (s.set v x) us).set u .no = (wipeS s us).set u .no
        rw [ih hu]
      · have e : v = u := by rcases List.mem_cons.mp h with q | q; exact q; exact absurd q hu
        subst e
        have comm : ∀ ws : List Nat, v ∉ ws → wipeS (s.set v x) ws = (wipeS s ws).set v x := by
          intro ws
          induction ws with
          | nil => intro _; rfl
          | cons w ws ih2 =>
            intro hw
            show (wipeS (s.set v x) ws).set w .no = ((wipeS s ws).set w .no).set v x
            rw [ih2 fun q => hw (List.mem_cons_of_mem _ q)]
            unfold S.set
            have : w ≠ v := fun q => hw (by rw [q]; exact List.mem_cons_self)
            rw [List.set_comm _ _ this.symm]
        show (wipeS (s.set v x) us).set v .no = (wipeS s us).set v .no
        rw [comm us hu]
        unfold S.set
        rw [List.set_set]
  exact key vs h
theorem wipeS_idem {s : S} : ∀ vs : List Nat, wipeS (wipeS s vs) vs = wipeS s vs := by
  have key : ∀ us vs : List Nat, (∀ u ∈ us, u ∈ vs) → wipeS (wipeS s us) vs = wipeS s vs := by
    intro us
    induction us with
    | nil => intro vs _; rfl
    | cons u us ih =>
      intro vs h
      show wipeS ((wipeS s us).set u .no) vs = _
      rw [wipeS_set (h u List.mem_cons_self), ih vs fun v hv => h v (List.mem_cons_of_mem _ hv)]
  exact fun vs => key vs vs fun _ h => h
theorem backS_agr {s0 s : S} {vs : List Nat} (h : wipeS s vs = wipeS s0 vs) : backS s0 s vs = backS s0 s0 vs := by
  have key : ∀ us : List Nat, wipeS (backS s0 s us) us = wipeS s us := by
    intro us
    induction us with
    | nil => rfl
    | cons u us ih =>
      show wipeS ((backS s0 s us).set u _) (u :: us) = _
      rw [wipeS_set List.mem_cons_self]
      show (wipeS (backS s0 s us) us).set u .no = (wipeS s us).set u .no
      rw [ih]
  have at_ : ∀ (s : S) (us : List Nat) (j : Nat), j ∈ us → ∀ y, (backS s0 s us).ρ[j]? = some y → y = dOnly s0.ρ[j]? := by
    intro s us
    induction us with
    | nil => intro j h; cases h
    | cons u us ih =>
      intro j hj y e
      have e : ((backS s0 s us).ρ.set u (dOnly s0.ρ[u]?))[j]? = some y := e
      by_cases q : j = u
      · subst q; exact (lt_of_set e).2
      · rw [List.getElem?_set_ne (Ne.symm q)] at e
        exact ih j (by rcases List.mem_cons.mp hj with z | z; exact absurd z q; exact z) y e
  have out : ∀ (s : S) (us : List Nat) (j : Nat), j ∉ us → (backS s0 s us).ρ[j]? = s.ρ[j]? := by
    intro s us
    induction us with
    | nil => intro j _; rfl
    | cons u us ih =>
      intro j hj
      show ((backS s0 s us).ρ.set u _)[j]? = _
      rw [List.getElem?_set_ne (fun q => hj (by rw [q]; exact List.mem_cons_self)), ih j fun q => hj (List.mem_cons_of_mem _ q)]
  have len : ∀ (s : S) (us : List Nat), (backS s0 s us).ρ.length = s.ρ.length := by
    intro s us
    induction us with
    | nil => rfl
    | cons u us ih => show ((backS s0 s us).ρ.set u _).length = _; rw [List.length_set, ih]
  have bM : ∀ (s : S) (us : List Nat), (backS s0 s us).M = s.M := by
    intro s us
    induction us with
    | nil => rfl
    | cons u us ih => exact ih
  have hl : s.ρ.length = s0.ρ.length := by rw [← wipeS_len (s := s) vs, h, wipeS_len]
  have hM : s.M = s0.M := by rw [← wipeS_M (s := s) vs, h, wipeS_M]
  have e1 : (backS s0 s vs).ρ = (backS s0 s0 vs).ρ := by
    refine List.ext_getElem? fun j => ?_
    by_cases hj : j ∈ vs
    · cases q1 : (backS s0 s vs).ρ[j]? with
      | none =>
        have := List.getElem?_eq_none_iff.mp q1
        rw [len, hl] at this
        exact (List.getElem?_eq_none_iff.mpr (by rw [len]; exact this)).symm
      | some y =>
        obtain ⟨h1, _⟩ := List.getElem?_eq_some_iff.mp q1
        rw [len, hl] at h1
        have q2 : (backS s0 s0 vs).ρ[j]? = some ((backS s0 s0 vs).ρ[j]'(by rw [len]; exact h1)) := List.getElem?_eq_getElem _
        rw [q2, at_ s vs j hj y q1, ← at_ s0 vs j hj _ q2]
    · rw [out s vs j hj, out s0 vs j hj, ← wipeS_at (s := s) hj, h, wipeS_at hj]
  have e2 : (backS s0 s vs).M = (backS s0 s0 vs).M := by rw [bM, bM, hM]
  calc backS s0 s vs = ⟨(backS s0 s vs).ρ, (backS s0 s vs).M⟩ := rfl
    _ = ⟨(backS s0 s0 vs).ρ, (backS s0 s0 vs).M⟩ := by rw [e1, e2]
    _ = backS s0 s0 vs := rfl
/-- a comprehension that changes nothing -/
theorem flc_pure {src : DenA} {vs : List Nat} {g : Tgt} {t : DenT} {e : Den} {s : S} {xs : List D} (p : D → Bool) (f : D → D) (he : src s = .ok xs s) (hl : xs.length ≤ cap)
    (hs : ∀ x ∈ xs, ∃ s1, g x (wipeS s vs) = some s1 ∧ wipeS s1 vs = wipeS s vs ∧ t s1 = .ok (p x) s1 ∧ (p x = true → e s1 = .ok (f x) s1)) : fLc src vs g t e s = .ok ((xs.filter p).map f) (backS s s vs) := by
  have key : ∀ (ys : List D), (∀ y ∈ ys, y ∈ xs) → ∀ s', wipeS s' vs = wipeS s vs → ∃ s2, compL vs g t e ys s' = .ok ((ys.filter p).map f) s2 ∧ wipeS s2 vs = wipeS s vs := by
    intro ys
    induction ys with
    | nil => intro _ s' h; exact ⟨s', rfl, h⟩
    | cons y ys ih =>
      intro hy s' h
      obtain ⟨s1, g1, w1, t1, e1⟩ := hs y (hy y List.mem_cons_self)
      obtain ⟨s2, c2, w2⟩ := ih (fun z hz => hy z (List.mem_cons_of_mem _ hz)) s1 w1
      refine ⟨s2, ?_, w2⟩
      unfold compL
      rw [h, g1]
      simp only [t1, R.hard, R.bind_ok]
      cases q : p y with
      | true => 
        rw [if_pos rfl, e1 q, List.filter_cons_of_pos q]
        simp only [R.bind_ok, c2, List.map_cons]
      | false =>
        rw [if_neg Bool.false_ne_true, List.filter_cons_of_neg (by rw [q]; exact Bool.false_ne_true), c2]
  obtain ⟨s2, c2, w2⟩ := key xs (fun _ h => h) s rfl
  unfold fLc
  rw [he, R.bind_ok, if_pos (cap_le hl), c2, R.bind_ok, backS_agr w2]
end DL

set_option maxHeartbeats 4000000
namespace DL
open PySem L2
def b_next : SDen :=
 (dSeq (dIfS (dAnd (dB (dOp fEq (dIxO 0 (dC (.int 2))) (dC (.int 0)))) (dB (dOp fLt (dIxO 0 (dC (.int 1))) (dCb fLen (aCons (dIxO 0 (dC (.int 0))) aNil)))))
 (dSeq (dSet 2 (dOp fIx (dIxO 0 (dC (.int 0))) (dIxO 0 (dC (.int 1)))))
 (dSeq (dAugIx 0 (dC (.int 1)) (dC (.int 1)))
 (dIfS (dB (dOp fGe (dVar 2) (dOp fPow (dC (.int 10)) (dC (.int 18)))))
 (dSetIx 0 (dC (.int 2)) (dVar 2))
 (dSetIx 0 (dC (.int 3)) (dOp fMod (dCb fInt (aCons (dOp fAdd (dOp fAdd (dOp fMul (dIxO 0 (dC (.int 3))) (dC (.int 48271))) (dOp fMod (dCb fInt (aCons (dVar 2) aNil)) (dC (.int 2147483647)))) (dC (.int 7))) aNil)) (dC (.int 2147483647)))))))
 dNext)
 (dSeq (dIfS (dB (dOp fGt (dIxO 0 (dC (.int 2))) (dC (.int 0))))
 (dSeq (dSet 3 (dOp fMod (dCb fInt (aCons (dIxO 0 (dC (.int 2))) aNil)) (dVar 1)))
 (dSeq (dSetIx 0 (dC (.int 2)) (dOp fDiv (dIxO 0 (dC (.int 2))) (dVar 1)))
 (dRet (dVar 3))))
 dNext)
 (dSeq (dSetIx 0 (dC (.int 3)) (dOp fMod (dCb fInt (aCons (dOp fAdd (dOp fMul (dIxO 0 (dC (.int 3))) (dC (.int 69621))) (dC (.int 12345))) aNil)) (dC (.int 2147483647))))
 (dRet (dOp fMod (dCb fInt (aCons (dOp fDiv (dIxO 0 (dC (.int 3))) (dC (.int 7))) aNil)) (dVar 1))))))
def f_next : FD := runF 4 b_next
def b_same (rec_ : FD) : SDen :=
 (dSeq (dIfS (dB (dOp fIs (dVar 1) (dC .non)))
 (dRet (dOp fIs (dVar 0) (dC .non)))
 dNext)
 (dSeq (dIfS (dTru (dUn (fIsi "bool") (dVar 1)))
 (dRet (vAnd (dUn (fIsi "bool") (dVar 0)) (dOp fEq (dVar 0) (dVar 1))))
 dNext)
 (dSeq (dIfS (dTru (dUn (fIsi "int") (dVar 1)))
 (dRet (vAnd (dUn (fIsi "int") (dVar 0)) (vAnd (vNot (dUn (fIsi "bool") (dVar 0))) (dOp fEq (dVar 0) (dVar 1)))))
 dNext)
 (dSeq (dIfS (dTru (dUn (fIsi "str") (dVar 1)))
 (dRet (vAnd (dUn (fIsi "str") (dVar 0)) (dOp fEq (dVar 0) (dVar 1))))
 dNext)
 (dSeq (dIfS (dAnd (dTru (dUn (fIsi "tuple") (dVar 1))) (dNot (dTru (dUn (fIsi "tuple") (dVar 0)))))
 (dRet (dC (.bl false)))
 dNext)
 (dSeq (dIfS (dAnd (dTru (dUn (fIsi "list") (dVar 1))) (dNot (dTru (dUn (fIsi "list") (dVar 0)))))
 (dRet (dC (.bl false)))
 dNext)
 (dSeq (dIfS (dB (dOp fNe (dCb fLen (aCons (dVar 0) aNil)) (dCb fLen (aCons (dVar 1) aNil))))
 (dRet (dC (.bl false)))
 dNext)
 (dSeq (dFor (iRg 1 (aCons (dCb fLen (aCons (dVar 1) aNil)) aNil)) (gN 2)
 (dIfS (dNot (dTru (dCall rec_ [] (aCons (dOp fIx (dVar 0) (dVar 2)) (aCons (dOp fIx (dVar 1) (dVar 2)) aNil)))))
 (dRet (dC (.bl false)))
 dNext))
 (dRet (dC (.bl true)))))))))))
def r_same : Nat → FD
  | 0 => fun _ _ => .no
  | n + 1 => runF 3 (b_same (r_same n))
def f_same : FD := r_same 8

/-! ### what is drawn -/
structure RSt where
  ns : List Int
  pos : Int
  big : Int
  small : Int
def RSt.cell (r : RSt) : Cell := .own (.lst [.lst (r.ns.map .int), .int r.pos, .int r.big, .int r.small])
structure RSt.Ok (r : RSt) : Prop where
  pos : 0 ≤ r.pos
  big : 0 ≤ r.big
  small : 0 ≤ r.small ∧ r.small < 2147483647
theorem atI2 {α : Type} {a b c d : α} : atI [a, b, c, d] 2 = some c := rfl
theorem atI1 {α : Type} {a b c d : α} : atI [a, b, c, d] 1 = some b := rfl
theorem atI0 {α : Type} {a b c d : α} : atI [a, b, c, d] 0 = some a := rfl
theorem atI3 {α : Type} {a b c d : α} : atI [a, b, c, d] 3 = some d := rfl
theorem ixN4_1 : ixN 4 1 = some 1 := rfl
theorem ixN4_2 : ixN 4 2 = some 2 := rfl
theorem ixN4_3 : ixN 4 3 = some 3 := rfl
theorem deq_int (i j : Int) : deq (.int i) (.int j) = decide (i = j) := by
  unfold deq
  simp only [py, PyData.eqv]
  exact Bool.beq_eq_decide_eq i j
theorem eqOk_int (i j : Int) : eqOk (.int i) (.int j) = true := rfl
theorem mulOk_r {i j : Int} (h : -18446744073709551616 < j) (h2 : j < 18446744073709551616) : mulOk i j = true := by
  unfold mulOk
  rw [decide_eq_true h, decide_eq_true h2]; rfl
theorem mulOk_l {i j : Int} (h : -18446744073709551616 < i) (h2 : i < 18446744073709551616) : mulOk i j = true := by
  unfold mulOk
  rw [decide_eq_true h, decide_eq_true h2]
  simp
/-- the second half of a draw: from what lies ready, or else reckoned -/
def b_next2 : SDen := (dSeq (dIfS (dB (dOp fGt (dIxO 0 (dC (.int 2))) (dC (.int 0))))
 (dSeq (dSet 3 (dOp fMod (dCb fInt (aCons (dIxO 0 (dC (.int 2))) aNil)) (dVar 1)))
 (dSeq (dSetIx 0 (dC (.int 2)) (dOp fDiv (dIxO 0 (dC (.int 2))) (dVar 1)))
 (dRet (dVar 3))))
 dNext)
 (dSeq (dSetIx 0 (dC (.int 3)) (dOp fMod (dCb fInt (aCons (dOp fAdd (dOp fMul (dIxO 0 (dC (.int 3))) (dC (.int 69621))) (dC (.int 12345))) aNil)) (dC (.int 2147483647))))
 (dRet (dOp fMod (dCb fInt (aCons (dOp fDiv (dIxO 0 (dC (.int 3))) (dC (.int 7))) aNil)) (dVar 1)))))
theorem set_self {M : List Cell} {n : Nat} {c d : Cell} (h : M[n]? = some c) : (M.set n d)[n]? = some d := List.getElem?_set_self (List.getElem?_eq_some_iff.mp h).1
theorem next2 {r : RSt} (ok : r.Ok) {M : List Cell} {n : Nat} (h : M[n]? = some r.cell) {L : Int} (hL : 0 < L) (hL2 : L < 18446744073709551616) (x : Slot) (y : Slot) :
    ∃ (v : Int) (r' : RSt) (s' : List Slot), b_next2 ⟨[.d (.ptr n), .d (.int L), x, y], M⟩ = .rt (.int v) ⟨s', M.set n r'.cell⟩ ∧ 0 ≤ v ∧ v < L ∧ r'.Ok ∧ r'.ns = r.ns := by
  unfold RSt.cell at h
  have hs := fun d => set_self (d := d) h
  by_cases hb : 0 < r.big
  · refine ⟨r.big % L, ⟨r.ns, r.pos, r.big / L, r.small⟩, [.d (.ptr n), .d (.int L), x, .d (.int (r.big % L))], ?_, Int.emod_nonneg _ (by omega), Int.emod_lt_of_pos _ hL, ⟨ok.pos, Int.ediv_nonneg ok.big (by omega), ok.small⟩, rfl⟩
    simp [b_next2, RSt.cell, h, hs, hb, hL, hL2, atI2, atI1, atI0, atI3, ixN4_2, ixN4_3, dSeq, dIfS, dAnd, dOr, dNot, dB, dTru, tru, dOp, dUn, dC, dVar, dCb, aNil, aCons, dSet, dSetO, dRet, dRetN, dExp, dNext, dIxO, dLenO, rdL, getL, setL, setAt, dAugIx, dSetIx, dMut, mApp, mPop, mIns, R.bind, R.st, toB, fEq, fNe, fLt, fLe, fGt, fGe, fI, fA, fSub, fDiv, fMod, fPow, pSub, pDiv, pMod, pPow, fAdd, fMul, fIx, fLen, lenD, seqOf, listOf, fInt, fIs, fIsNot, isN, fIsi, tyD, fNeg, vAnd, vOr, vNot, dChain, dIf, dTup, dLst, fDisp, lim, dCall, useF, S.set, iSeq, srcD, dFrz, S.frz, dLst]
  · have h0 := ok.small
    refine ⟨((r.small * 69621 + 12345) % 2147483647) / 7 % L, ⟨r.ns, r.pos, r.big, (r.small * 69621 + 12345) % 2147483647⟩, [.d (.ptr n), .d (.int L), x, y], ?_, Int.emod_nonneg _ (by omega), Int.emod_lt_of_pos _ hL, ⟨ok.pos, ok.big, Int.emod_nonneg _ (by omega), Int.emod_lt_of_pos _ (by omega)⟩, rfl⟩
    simp [b_next2, RSt.cell, h, hs, hb, hL, hL2, atI2, atI1, atI0, atI3, ixN4_2, ixN4_3, mulOk_r, dSeq, dIfS, dAnd, dOr, dNot, dB, dTru, tru, dOp, dUn, dC, dVar, dCb, aNil, aCons, dSet, dSetO, dRet, dRetN, dExp, dNext, dIxO, dLenO, rdL, getL, setL, setAt, dAugIx, dSetIx, dMut, mApp, mPop, mIns, R.bind, R.st, toB, fEq, fNe, fLt, fLe, fGt, fGe, fI, fA, fSub, fDiv, fMod, fPow, pSub, pDiv, pMod, pPow, fAdd, fMul, fIx, fLen, lenD, seqOf, listOf, fInt, fIs, fIsNot, isN, fIsi, tyD, fNeg, vAnd, vOr, vNot, dChain, dIf, dTup, dLst, fDisp, lim, dCall, useF, S.set, iSeq, srcD, dFrz, S.frz, dLst]
def b_next1 : SDen := (dIfS (dAnd (dB (dOp fEq (dIxO 0 (dC (.int 2))) (dC (.int 0)))) (dB (dOp fLt (dIxO 0 (dC (.int 1))) (dCb fLen (aCons (dIxO 0 (dC (.int 0))) aNil)))))
 (dSeq (dSet 2 (dOp fIx (dIxO 0 (dC (.int 0))) (dIxO 0 (dC (.int 1)))))
 (dSeq (dAugIx 0 (dC (.int 1)) (dC (.int 1)))
 (dIfS (dB (dOp fGe (dVar 2) (dOp fPow (dC (.int 10)) (dC (.int 18)))))
 (dSetIx 0 (dC (.int 2)) (dVar 2))
 (dSetIx 0 (dC (.int 3)) (dOp fMod (dCb fInt (aCons (dOp fAdd (dOp fAdd (dOp fMul (dIxO 0 (dC (.int 3))) (dC (.int 48271))) (dOp fMod (dCb fInt (aCons (dVar 2) aNil)) (dC (.int 2147483647)))) (dC (.int 7))) aNil)) (dC (.int 2147483647)))))))
 dNext)
theorem next_eq : b_next = dSeq b_next1 b_next2 := rfl
theorem atI_map {ns : List Int} {p : Int} (h0 : 0 ≤ p) (h1 : p < ns.length) : ∃ c, atI (ns.map D.int) p = some (.int c) := by
  refine ⟨ns[p.toNat]'(by omega), ?_⟩
  unfold atI ixN
  rw [List.length_map, if_pos h0, if_pos h1, Option.bind_some, List.getElem?_map, List.getElem?_eq_getElem (by omega)]
  rfl
theorem set_set' {M : List Cell} {n : Nat} {c d : Cell} : (M.set n c).set n d = M.set n d := List.set_set ..
theorem next1 {r : RSt} (ok : r.Ok) {M : List Cell} {n : Nat} (h : M[n]? = some r.cell) (L : Int) :
    ∃ (r' : RSt) (x : Slot) (M' : List Cell), b_next1 ⟨[.d (.ptr n), .d (.int L), .no, .no], M⟩ = .nx ⟨[.d (.ptr n), .d (.int L), x, .no], M'⟩ ∧ r'.Ok ∧ r'.ns = r.ns ∧ M'[n]? = some r'.cell ∧ ∀ c, M'.set n c = M.set n c := by
  have h' := h
  unfold RSt.cell at h
  have hs := fun d => set_self (d := d) h
  by_cases h1 : r.big = 0
  · by_cases h2 : r.pos < r.ns.length
    · obtain ⟨c, hc⟩ := atI_map ok.pos h2
      by_cases h3 : 1000000000000000000 ≤ c
      · refine ⟨⟨r.ns, r.pos + 1, c, r.small⟩, .d (.int c), M.set n (RSt.cell ⟨r.ns, r.pos + 1, c, r.small⟩), ?_, ⟨by have := ok.pos; show 0 ≤ r.pos + 1; omega, by show 0 ≤ c; omega, ok.small⟩, rfl, hs _, fun d => set_set'⟩
        simp [b_next1, RSt.cell, h, hs, h1, h2, h3, hc, atI2, atI1, atI0, atI3, ixN4_1, ixN4_2, ixN4_3, deq_int, eqOk_int, dSeq, dIfS, dAnd, dOr, dNot, dB, dTru, tru, dOp, dUn, dC, dVar, dCb, aNil, aCons, dSet, dSetO, dRet, dRetN, dExp, dNext, dIxO, dLenO, rdL, getL, setL, setAt, dAugIx, dSetIx, dMut, mApp, mPop, mIns, R.bind, R.st, toB, fEq, fNe, fLt, fLe, fGt, fGe, fI, fA, fSub, fDiv, fMod, fPow, pSub, pDiv, pMod, pPow, fAdd, fMul, fIx, fLen, lenD, seqOf, listOf, fInt, fIs, fIsNot, isN, fIsi, tyD, fNeg, vAnd, vOr, vNot, dChain, dIf, dTup, dLst, fDisp, lim, dCall, useF, S.set, iSeq, srcD, dFrz, S.frz, dLst]
      · have h0 := ok.small
        have hv := Int.emod_nonneg c (b := 2147483647) (by omega)
        refine ⟨⟨r.ns, r.pos + 1, 0, (r.small * 48271 + c % 2147483647 + 7) % 2147483647⟩, .d (.int c), M.set n (RSt.cell ⟨r.ns, r.pos + 1, 0, (r.small * 48271 + c % 2147483647 + 7) % 2147483647⟩), ?_, ⟨by have := ok.pos; show 0 ≤ r.pos + 1; omega, Int.le_refl 0, Int.emod_nonneg _ (by omega), Int.emod_lt_of_pos _ (by omega)⟩, rfl, hs _, fun d => set_set'⟩
        simp [b_next1, RSt.cell, h, hs, h1, h2, h3, hc, atI2, atI1, atI0, atI3, ixN4_1, ixN4_2, ixN4_3, deq_int, eqOk_int, mulOk_r, dSeq, dIfS, dAnd, dOr, dNot, dB, dTru, tru, dOp, dUn, dC, dVar, dCb, aNil, aCons, dSet, dSetO, dRet, dRetN, dExp, dNext, dIxO, dLenO, rdL, getL, setL, setAt, dAugIx, dSetIx, dMut, mApp, mPop, mIns, R.bind, R.st, toB, fEq, fNe, fLt, fLe, fGt, fGe, fI, fA, fSub, fDiv, fMod, fPow, pSub, pDiv, pMod, pPow, fAdd, fMul, fIx, fLen, lenD, seqOf, listOf, fInt, fIs, fIsNot, isN, fIsi, tyD, fNeg, vAnd, vOr, vNot, dChain, dIf, dTup, dLst, fDisp, lim, dCall, useF, S.set, iSeq, srcD, dFrz, S.frz, dLst]
    · refine ⟨r, .no, M, ?_, ok, rfl, h', fun _ => rfl⟩
      simp [b_next1, RSt.cell, h, hs, h1, h2, atI2, atI1, atI0, atI3, deq_int, eqOk_int, dSeq, dIfS, dAnd, dOr, dNot, dB, dTru, tru, dOp, dUn, dC, dVar, dCb, aNil, aCons, dSet, dSetO, dRet, dRetN, dExp, dNext, dIxO, dLenO, rdL, getL, setL, setAt, dAugIx, dSetIx, dMut, mApp, mPop, mIns, R.bind, R.st, toB, fEq, fNe, fLt, fLe, fGt, fGe, fI, fA, fSub, fDiv, fMod, fPow, pSub, pDiv, pMod, pPow, fAdd, fMul, fIx, fLen, lenD, seqOf, listOf, fInt, fIs, fIsNot, isN, fIsi, tyD, fNeg, vAnd, vOr, vNot, dChain, dIf, dTup, dLst, fDisp, lim, dCall, useF, S.set, iSeq, srcD, dFrz, S.frz, dLst]
  · refine ⟨r, .no, M, ?_, ok, rfl, h', fun _ => rfl⟩
    simp [b_next1, RSt.cell, h, hs, h1, atI2, atI1, atI0, atI3, deq_int, eqOk_int, dSeq, dIfS, dAnd, dOr, dNot, dB, dTru, tru, dOp, dUn, dC, dVar, dCb, aNil, aCons, dSet, dSetO, dRet, dRetN, dExp, dNext, dIxO, dLenO, rdL, getL, setL, setAt, dAugIx, dSetIx, dMut, mApp, mPop, mIns, R.bind, R.st, toB, fEq, fNe, fLt, fLe, fGt, fGe, fI, fA, fSub, fDiv, fMod, fPow, pSub, pDiv, pMod, pPow, fAdd, fMul, fIx, fLen, lenD, seqOf, listOf, fInt, fIs, fIsNot, isN, fIsi, tyD, fNeg, vAnd, vOr, vNot, dChain, dIf, dTup, dLst, fDisp, lim, dCall, useF, S.set, iSeq, srcD, dFrz, S.frz, dLst]
/-- a draw below L -/
theorem next_ok {r : RSt} (ok : r.Ok) {M : List Cell} {n : Nat} (h : M[n]? = some r.cell) {L : Int} (hL : 0 < L) (hL2 : L < 18446744073709551616) :
    ∃ (v : Int) (r' : RSt), f_next [.ptr n, .int L] M = .ok (.int v) (M.set n r'.cell) ∧ 0 ≤ v ∧ v < L ∧ r'.Ok ∧ r'.ns = r.ns := by
  obtain ⟨r1, x, M1, e1, ok1, n1, h1, s1⟩ := next1 ok h L
  obtain ⟨v, r2, s', e2, v1, v2, ok2, n2⟩ := next2 ok1 h1 hL hL2 x .no
  refine ⟨v, r2, ?_, v1, v2, ok2, n2.trans n1⟩
  have e : b_next ⟨[.d (.ptr n), .d (.int L), .no, .no], M⟩ = .rt (.int v) ⟨s', M.set n r2.cell⟩ := by
    rw [next_eq]
    show (match b_next1 ⟨[.d (.ptr n), .d (.int L), .no, .no], M⟩ with
      | .nx s1 => b_next2 s1
      | r => r) = _
    rw [e1]
    show b_next2 _ = _
    rw [e2, s1]
  show (match b_next ⟨[.d (.ptr n), .d (.int L), .no, .no], M⟩ with
    | .rt d s => FR.ok d s.M
    | .nx s => .ok .non s.M
    | .ex c s => .ex c s.M
    | _ => .no) = _
  rw [e]

/-! ### the same of one kind all through -/
/-- no pointers, not deeper than n, nothing too long -/
inductive Sm : Nat → D → Prop where
  | non {n} : Sm n .non
  | bl {n b} : Sm n (.bl b)
  | int {n i} : Sm n (.int i)
  | str {n x} (h : x.length ≤ cap) : Sm n (.str x)
  | tup {n xs} (h : xs.length ≤ cap) (t : ∀ x ∈ xs, Sm n x) : Sm (n + 1) (.tup xs)
  | lst {n xs} (h : xs.length ≤ cap) (t : ∀ x ∈ xs, Sm n x) : Sm (n + 1) (.lst xs)
theorem Sm.dp : ∀ {n : Nat} {d : D}, Sm n d → DL.dp d ≤ n
  | n, .non, _ => by simp [DL.dp]
  | n, .bl _, _ => by simp [DL.dp]
  | n, .int _, _ => by simp [DL.dp]
  | n, .str _, _ => by simp [DL.dp]
  | n + 1, .tup xs, .tup h t => by
    have : ∀ ys : List D, (∀ y ∈ ys, y ∈ xs) → dps ys ≤ n := by
      intro ys
      induction ys with
      | nil => intro _; simp [dps]
      | cons y ys ih =>
        intro hy
        have h1 := Sm.dp (t y (hy y List.mem_cons_self))
        have h2 := ih fun z hz => hy z (List.mem_cons_of_mem _ hz)
        simp only [dps]; omega
    have := this xs fun _ h => h
    simp only [DL.dp]; omega
  | n + 1, .lst xs, .lst h t => by
    have : ∀ ys : List D, (∀ y ∈ ys, y ∈ xs) → dps ys ≤ n := by
      intro ys
      induction ys with
      | nil => intro _; simp [dps]
      | cons y ys ih =>
        intro hy
        have h1 := Sm.dp (t y (hy y List.mem_cons_self))
        have h2 := ih fun z hz => hy z (List.mem_cons_of_mem _ hz)
        simp only [dps]; omega
    have := this xs fun _ h => h
    simp only [DL.dp]; omega
theorem beq_self_str (x : Str) : (x == x) = true := beq_self_eq_true x
mutual
theorem eqv_self : ∀ d : D, DL.dp d ≤ 64 → PyData.eqv (py d) (py d) = true
  | .non, _ => rfl
  | .bl b, _ => by simp [py, PyData.eqv]
  | .int i, _ => by simp [py, PyData.eqv]
  | .str x, _ => by simp [py, PyData.eqv]
  | .tup xs, h => by
    simp only [DL.dp] at h
    simp only [py, PyData.eqv]
    exact eqv_selfs xs (by omega)
  | .lst xs, h => by
    simp only [DL.dp] at h
    simp only [py, PyData.eqv]
    exact eqv_selfs xs (by omega)
  | .ptr _, h => by simp [DL.dp] at h
  | .rol ns, _ => by
    simp only [py, PyData.eqv]
    have : ∀ ns : List Int, PyData.eqvAll (ns.map PyData.int) (ns.map PyData.int) = true := fun ns => by
      induction ns with
      | nil => rfl
      | cons n ns ih => simp only [List.map_cons, PyData.eqvAll, PyData.eqv, beq_self_eq_true, Bool.true_and]; exact ih
    exact this ns
  | .dic _, h => by simp [DL.dp] at h
  | .obj _ _, h => by simp [DL.dp] at h
theorem eqv_selfs : ∀ ds : List D, dps ds ≤ 64 → PyData.eqvAll (pys ds) (pys ds) = true
  | [], _ => rfl
  | d :: ds, h => by
    simp only [dps] at h
    simp only [pys, PyData.eqvAll, eqv_self d (by omega), eqv_selfs ds (by omega), Bool.and_self]
end
theorem deq_self {d : D} (h : DL.dp d ≤ 64) : deq d d = true := eqv_self d h
theorem atI_nat' {α : Type} {xs : List α} {j : Nat} (h : j < xs.length) : atI xs (j : Int) = some xs[j] := atI_nat (List.getElem?_eq_getElem h)
def b_tail (rec_ : FD) : SDen := (dSeq (dFor (iRg 1 (aCons (dCb fLen (aCons (dVar 1) aNil)) aNil)) (gN 2)
 (dIfS (dNot (dTru (dCall rec_ [] (aCons (dOp fIx (dVar 0) (dVar 2)) (aCons (dOp fIx (dVar 1) (dVar 2)) aNil)))))
 (dRet (dC (.bl false)))
 dNext))
 (dRet (dC (.bl true))))
theorem same_eq (rec_ : FD) : b_same rec_ =  (dSeq (dIfS (dB (dOp fIs (dVar 1) (dC .non)))
 (dRet (dOp fIs (dVar 0) (dC .non)))
 dNext)
 (dSeq (dIfS (dTru (dUn (fIsi "bool") (dVar 1)))
 (dRet (vAnd (dUn (fIsi "bool") (dVar 0)) (dOp fEq (dVar 0) (dVar 1))))
 dNext)
 (dSeq (dIfS (dTru (dUn (fIsi "int") (dVar 1)))
 (dRet (vAnd (dUn (fIsi "int") (dVar 0)) (vAnd (vNot (dUn (fIsi "bool") (dVar 0))) (dOp fEq (dVar 0) (dVar 1)))))
 dNext)
 (dSeq (dIfS (dTru (dUn (fIsi "str") (dVar 1)))
 (dRet (vAnd (dUn (fIsi "str") (dVar 0)) (dOp fEq (dVar 0) (dVar 1))))
 dNext)
 (dSeq (dIfS (dAnd (dTru (dUn (fIsi "tuple") (dVar 1))) (dNot (dTru (dUn (fIsi "tuple") (dVar 0)))))
 (dRet (dC (.bl false)))
 dNext)
 (dSeq (dIfS (dAnd (dTru (dUn (fIsi "list") (dVar 1))) (dNot (dTru (dUn (fIsi "list") (dVar 0)))))
 (dRet (dC (.bl false)))
 dNext)
 (dSeq (dIfS (dB (dOp fNe (dCb fLen (aCons (dVar 0) aNil)) (dCb fLen (aCons (dVar 1) aNil))))
 (dRet (dC (.bl false)))
 dNext) (b_tail rec_)))))))) := rfl
theorem same_tail {rec_ : FD} {d : D} {xs : List D} {M : List Cell} (hl : xs.length ≤ cap) (hd : seqOf ⟨[.d d, .d d, .no], M⟩ d = some xs) (hs : ∀ i : Nat, i < xs.length → ∀ s : S, s.M = M → fIx d (.int i) s = match xs[i]? with
      | some y => .ok y s
      | none => .no) (hlen : ∀ s : S, s.M = M → lenD s d = some xs.length) (hr : ∀ x ∈ xs, rec_ [x, x] M = .ok (.bl true) M) : ∃ s, b_tail rec_ ⟨[.d d, .d d, .no], M⟩ = .rt (.bl true) s ∧ s.M = M := by
  obtain ⟨s', hf, x, rfl⟩ := dfor_inv (src := iRg 1 (aCons (dCb fLen (aCons (dVar 1) aNil)) aNil)) (g := gN 2) (b := dIfS (dNot (dTru (dCall rec_ [] (aCons (dOp fIx (dVar 0) (dVar 2)) (aCons (dOp fIx (dVar 1) (dVar 2)) aNil))))) (dRet (dC (.bl false))) dNext)
      (s := ⟨[.d d, .d d, .no], M⟩) (s1 := ⟨[.d d, .d d, .no], M⟩) (xs := nums 0 1 xs.length) (by
        have h1 : (xs.length : Int) ≤ 1000000 := by unfold cap at *; omega
        have h2 : -1000000 ≤ (xs.length : Int) := by omega
        simp only [iRg, aCons, aNil, dCb, fLen, dVar, R.bind, List.getElem?_cons_succ, List.getElem?_cons_zero, hlen ⟨[.d d, .d d, .no], M⟩ rfl, listI, Option.map_some, Option.bind_some, rng]
        rw [if_pos (by unfold cap; omega), Int.toNat_natCast]) (by rw [nums_len]; exact hl) (fun _ s => ∃ x, s = ⟨[.d d, .d d, x], M⟩) ⟨_, rfl⟩ (by
        rintro i y s hy ⟨x, rfl⟩
        have hi : i < xs.length := by
          have := (List.getElem?_eq_some_iff.mp hy).1
          rw [nums_len] at this; exact this
        rw [nums_get hi] at hy
        cases hy
        refine ⟨_, rfl, ⟨[.d d, .d d, .d (.int i)], M⟩, .inl ?_, _, rfl⟩
        have e := hr xs[i] (List.getElem_mem hi)
        have e2 := hs i hi ⟨[.d d, .d d, .d (.int i)], M⟩ rfl
        rw [List.getElem?_eq_getElem hi] at e2
        have e0 : (0 : Int) + (i : Int) * 1 = i := by omega
        simp only [gN, S.set, List.set_cons_succ, List.set_cons_zero, e0, dIfS, dNot, dTru, dCall, aCons, aNil, dOp, dVar, R.bind, R.st, List.getElem?_cons_succ, List.getElem?_cons_zero, e2, List.append_nil, e, useF, tru, Bool.not_true, dNext]
        rfl)
  refine ⟨⟨[.d d, .d d, x], M⟩, ?_, rfl⟩
  unfold b_tail dSeq
  rw [hf]
  rfl
theorem rt_run {b : SDen} {n : Nat} {args : List D} {M : List Cell} {d : D} {s : S} (h : b ⟨args.map Slot.d ++ List.replicate (n - args.length) Slot.no, M⟩ = .rt d s) (hM : s.M = M) : runF n b args M = .ok d M := by
  unfold runF
  rw [h]
  show FR.ok d s.M = _
  rw [hM]
theorem same_ok : ∀ (n : Nat) (d : D) (M : List Cell), Sm n d → n ≤ 63 → r_same (n + 1) [d, d] M = .ok (.bl true) M
  | n, .non, M, _, _ => by simp [r_same, runF, b_same, dSeq, dIfS, dAnd, dOr, dNot, dB, dTru, tru, dOp, dUn, dC, dVar, dCb, aNil, aCons, dSet, dSetO, dRet, dRetN, dExp, dNext, dIxO, dLenO, rdL, getL, setL, setAt, dAugIx, dSetIx, dMut, mApp, mPop, mIns, R.bind, R.st, toB, fEq, fNe, fLt, fLe, fGt, fGe, fI, fA, fSub, fDiv, fMod, fPow, pSub, pDiv, pMod, pPow, fAdd, fMul, fIx, fLen, lenD, seqOf, listOf, fInt, fIs, fIsNot, isN, fIsi, tyD, fNeg, vAnd, vOr, vNot, dChain, dIf, dTup, dLst, fDisp, lim, dCall, useF, S.set, iSeq, srcD, dFrz, S.frz, dLst]
  | n, .bl b, M, _, _ => by simp [r_same, runF, b_same, isiB, eqOk, DL.dp, deq_self (d := .bl b) (by simp [DL.dp]), dSeq, dIfS, dAnd, dOr, dNot, dB, dTru, tru, dOp, dUn, dC, dVar, dCb, aNil, aCons, dSet, dSetO, dRet, dRetN, dExp, dNext, dIxO, dLenO, rdL, getL, setL, setAt, dAugIx, dSetIx, dMut, mApp, mPop, mIns, R.bind, R.st, toB, fEq, fNe, fLt, fLe, fGt, fGe, fI, fA, fSub, fDiv, fMod, fPow, pSub, pDiv, pMod, pPow, fAdd, fMul, fIx, fLen, lenD, seqOf, listOf, fInt, fIs, fIsNot, isN, fIsi, tyD, fNeg, vAnd, vOr, vNot, dChain, dIf, dTup, dLst, fDisp, lim, dCall, useF, S.set, iSeq, srcD, dFrz, S.frz, dLst]
  | n, .int i, M, _, _ => by simp [r_same, runF, b_same, isiB, eqOk, DL.dp, deq_self (d := .int i) (by simp [DL.dp]), dSeq, dIfS, dAnd, dOr, dNot, dB, dTru, tru, dOp, dUn, dC, dVar, dCb, aNil, aCons, dSet, dSetO, dRet, dRetN, dExp, dNext, dIxO, dLenO, rdL, getL, setL, setAt, dAugIx, dSetIx, dMut, mApp, mPop, mIns, R.bind, R.st, toB, fEq, fNe, fLt, fLe, fGt, fGe, fI, fA, fSub, fDiv, fMod, fPow, pSub, pDiv, pMod, pPow, fAdd, fMul, fIx, fLen, lenD, seqOf, listOf, fInt, fIs, fIsNot, isN, fIsi, tyD, fNeg, vAnd, vOr, vNot, dChain, dIf, dTup, dLst, fDisp, lim, dCall, useF, S.set, iSeq, srcD, dFrz, S.frz, dLst]
  | n, .str x, M, _, _ => by simp [r_same, runF, b_same, isiB, eqOk, DL.dp, deq_self (d := .str x) (by simp [DL.dp]), dSeq, dIfS, dAnd, dOr, dNot, dB, dTru, tru, dOp, dUn, dC, dVar, dCb, aNil, aCons, dSet, dSetO, dRet, dRetN, dExp, dNext, dIxO, dLenO, rdL, getL, setL, setAt, dAugIx, dSetIx, dMut, mApp, mPop, mIns, R.bind, R.st, toB, fEq, fNe, fLt, fLe, fGt, fGe, fI, fA, fSub, fDiv, fMod, fPow, pSub, pDiv, pMod, pPow, fAdd, fMul, fIx, fLen, lenD, seqOf, listOf, fInt, fIs, fIsNot, isN, fIsi, tyD, fNeg, vAnd, vOr, vNot, dChain, dIf, dTup, dLst, fDisp, lim, dCall, useF, S.set, iSeq, srcD, dFrz, S.frz, dLst]
  | n + 1, .tup xs, M, .tup hl t, hn => by
    have hr : ∀ x ∈ xs, r_same (n + 1) [x, x] M = .ok (.bl true) M := fun x hx => same_ok n x M (t x hx) (by omega)
    obtain ⟨s, e, hM⟩ := same_tail (rec_ := r_same (n + 1)) (d := .tup xs) hl rfl (fun i hi s _ => by simp [fIx, seqOf, atI_nat' hi, List.getElem?_eq_getElem hi]) (fun s _ => rfl) hr
    refine rt_run (s := s) ?_ hM
    rw [← e, same_eq]
    simp [isiB, eqOk_int, deq_int, dSeq, dIfS, dAnd, dOr, dNot, dB, dTru, tru, dOp, dUn, dC, dVar, dCb, aNil, aCons, dSet, dSetO, dRet, dRetN, dExp, dNext, dIxO, dLenO, rdL, getL, setL, setAt, dAugIx, dSetIx, dMut, mApp, mPop, mIns, R.bind, R.st, toB, fEq, fNe, fLt, fLe, fGt, fGe, fI, fA, fSub, fDiv, fMod, fPow, pSub, pDiv, pMod, pPow, fAdd, fMul, fIx, fLen, lenD, seqOf, listOf, fInt, fIs, fIsNot, isN, fIsi, tyD, fNeg, vAnd, vOr, vNot, dChain, dIf, dTup, dLst, fDisp, lim, dCall, useF, S.set, iSeq, srcD, dFrz, S.frz, dLst]
  | n + 1, .lst xs, M, .lst hl t, hn => by
    have hr : ∀ x ∈ xs, r_same (n + 1) [x, x] M = .ok (.bl true) M := fun x hx => same_ok n x M (t x hx) (by omega)
    obtain ⟨s, e, hM⟩ := same_tail (rec_ := r_same (n + 1)) (d := .lst xs) hl rfl (fun i hi s _ => by simp [fIx, seqOf, listOf, atI_nat' hi, List.getElem?_eq_getElem hi]) (fun s _ => rfl) hr
    refine rt_run (s := s) ?_ hM
    rw [← e, same_eq]
    simp [isiB, eqOk_int, deq_int, dSeq, dIfS, dAnd, dOr, dNot, dB, dTru, tru, dOp, dUn, dC, dVar, dCb, aNil, aCons, dSet, dSetO, dRet, dRetN, dExp, dNext, dIxO, dLenO, rdL, getL, setL, setAt, dAugIx, dSetIx, dMut, mApp, mPop, mIns, R.bind, R.st, toB, fEq, fNe, fLt, fLe, fGt, fGe, fI, fA, fSub, fDiv, fMod, fPow, pSub, pDiv, pMod, pPow, fAdd, fMul, fIx, fLen, lenD, seqOf, listOf, fInt, fIs, fIsNot, isN, fIsi, tyD, fNeg, vAnd, vOr, vNot, dChain, dIf, dTup, dLst, fDisp, lim, dCall, useF, S.set, iSeq, srcD, dFrz, S.frz, dLst]
theorem Sm.mono : ∀ {n m : Nat} {d : D}, Sm n d → n ≤ m → Sm m d
  | n, m, .non, _, _ => .non
  | n, m, .bl _, _, _ => .bl
  | n, m, .int _, _, _ => .int
  | n, m, .str _, .str h, _ => .str h
  | n + 1, m + 1, .tup xs, .tup h t, hm => .tup h fun x hx => Sm.mono (t x hx) (by omega)
  | n + 1, m + 1, .lst xs, .lst h t, hm => .lst h fun x hx => Sm.mono (t x hx) (by omega)
/-- the law's own look: the same is the same -/
theorem f_same_ok {n : Nat} {d : D} (M : List Cell) (h : Sm n d) (hn : n ≤ 7) : f_same [d, d] M = .ok (.bl true) M := same_ok 7 d M (h.mono hn) (by decide)

end DL

set_option maxHeartbeats 8000000
namespace K15
open PySem DL
/-! ### what each def means -/
def tbl_InvalidPaper : List (Str × Bool) := [("DeskError", false), ("InvalidPaper", true)]
def whileMax : Nat := 1000000
def b_steps_between : SDen :=
 (dSeq (dSet 2 (dC (.int 0)))
 (dSeq (dWhile whileMax (dAnd (dB (dOp fLt (dVar 2) (dCb fLen (aCons (dVar 0) aNil)))) (dAnd (dB (dOp fLt (dVar 2) (dCb fLen (aCons (dVar 1) aNil)))) (dB (dOp fEq (dOp fIx (dVar 0) (dVar 2)) (dOp fIx (dVar 1) (dVar 2))))))
 (dSet 2 (dOp fAdd (dVar 2) (dC (.int 1)))))
 (dSeq (dSet 3 (dC (.int 0)))
 (dSeq (dWhile whileMax (dAnd (dB (dOp fLt (dVar 3) (dOp fSub (dCb fLen (aCons (dVar 0) aNil)) (dVar 2)))) (dAnd (dB (dOp fLt (dVar 3) (dOp fSub (dCb fLen (aCons (dVar 1) aNil)) (dVar 2)))) (dB (dOp fEq (dOp fIx (dVar 0) (dOp fSub (dUn fNeg (dC (.int 1))) (dVar 3))) (dOp fIx (dVar 1) (dOp fSub (dUn fNeg (dC (.int 1))) (dVar 3)))))))
 (dSet 3 (dOp fAdd (dVar 3) (dC (.int 1)))))
 (dSeq (dSet 4 (dLst (fLc (iRg 3 (aCons (dOp fSub (dOp fSub (dCb fLen (aCons (dVar 0) aNil)) (dVar 3)) (dC (.int 1))) (aCons (dOp fSub (dVar 2) (dC (.int 1))) (aCons (dUn fNeg (dC (.int 1))) aNil)))) [5] (gN 5) dYes (dTup (aCons (dC (.str "out")) (aCons (dVar 5) (aCons (dOp fIx (dVar 0) (dVar 5)) aNil)))))))
 (dRet (dOp fAdd (dVar 4) (dLst (fLc (iRg 2 (aCons (dVar 2) (aCons (dOp fSub (dCb fLen (aCons (dVar 1) aNil)) (dVar 3)) aNil))) [5] (gN 5) dYes (dTup (aCons (dC (.str "in")) (aCons (dVar 5) (aCons (dOp fIx (dVar 1) (dVar 5)) aNil)))))))))))))
def f_steps_between : FD := runF 6 b_steps_between
def b_stepped : SDen :=
 (dSeq (dSetO 2 (fun s => ((aCons (dVar 0) aNil) s).bind fList))
 (dSeq (dFor (iSeq (dVar 1)) (gT 3 (gsCons (gN 3) (gsCons (gN 4) (gsCons (gN 5) gsNil))))
 (dSeq (dIfS (dOr (dTru (dUn (fIsi "bool") (dVar 4))) (dOr (dNot (dTru (dUn (fIsi "int") (dVar 4)))) (dNot (dB (dChain fLe fLe (dC (.int 0)) (dVar 4) (dLenO 2))))))
 (dRaise "InvalidPaper")
 dNext)
 (dIfS (dB (dOp fEq (dVar 3) (dC (.str "in"))))
 (dExp (dMut 2 mIns (aCons (dVar 4) (aCons (dVar 5) aNil))))
 (dIfS (dAnd (dB (dOp fEq (dVar 3) (dC (.str "out")))) (dAnd (dB (dOp fLt (dVar 4) (dLenO 2))) (dB (dOp fEq (dIxO 2 (dVar 4)) (dVar 5)))))
 (dExp (dMut 2 mPop (aCons (dVar 4) aNil)))
 (dRaise "InvalidPaper")))))
 (dFrz 2 (dRet (dVar 2)))))
def f_stepped : FD := runF 6 b_stepped
def b_turned : SDen :=
 (dRet (dLst (fLc (iRv (aCons (dVar 0) aNil)) [1, 2, 3] (gT 3 (gsCons (gN 1) (gsCons (gN 2) (gsCons (gN 3) gsNil)))) dYes (dTup (aCons (dIf (dB (dOp fEq (dVar 1) (dC (.str "out")))) (dC (.str "in")) (dC (.str "out"))) (aCons (dVar 2) (aCons (dVar 3) aNil)))))))
def f_turned : FD := runF 4 b_turned
def b_folded : SDen :=
 (dSeq (dSet 2 (dLst (fun s => ((aCons (dVar 0) aNil) s).bind fList)))
 (dSeq (dFor (iSeq (dVar 1)) (gN 3)
 (dSet 2 (dCall f_stepped [] (aCons (dVar 2) (aCons (dVar 3) aNil)))))
 (dRet (dVar 2))))
def f_folded : FD := runF 4 b_folded
def b__law_next : SDen :=
 (dSeq (dIfS (dAnd (dB (dOp fEq (dIxO 0 (dC (.int 2))) (dC (.int 0)))) (dB (dOp fLt (dIxO 0 (dC (.int 1))) (dCb fLen (aCons (dIxO 0 (dC (.int 0))) aNil)))))
 (dSeq (dSet 2 (dOp fIx (dIxO 0 (dC (.int 0))) (dIxO 0 (dC (.int 1)))))
 (dSeq (dAugIx 0 (dC (.int 1)) (dC (.int 1)))
 (dIfS (dB (dOp fGe (dVar 2) (dOp fPow (dC (.int 10)) (dC (.int 18)))))
 (dSetIx 0 (dC (.int 2)) (dVar 2))
 (dSetIx 0 (dC (.int 3)) (dOp fMod (dCb fInt (aCons (dOp fAdd (dOp fAdd (dOp fMul (dIxO 0 (dC (.int 3))) (dC (.int 48271))) (dOp fMod (dCb fInt (aCons (dVar 2) aNil)) (dC (.int 2147483647)))) (dC (.int 7))) aNil)) (dC (.int 2147483647)))))))
 dNext)
 (dSeq (dIfS (dB (dOp fGt (dIxO 0 (dC (.int 2))) (dC (.int 0))))
 (dSeq (dSet 3 (dOp fMod (dCb fInt (aCons (dIxO 0 (dC (.int 2))) aNil)) (dVar 1)))
 (dSeq (dSetIx 0 (dC (.int 2)) (dOp fDiv (dIxO 0 (dC (.int 2))) (dVar 1)))
 (dRet (dVar 3))))
 dNext)
 (dSeq (dSetIx 0 (dC (.int 3)) (dOp fMod (dCb fInt (aCons (dOp fAdd (dOp fMul (dIxO 0 (dC (.int 3))) (dC (.int 69621))) (dC (.int 12345))) aNil)) (dC (.int 2147483647))))
 (dRet (dOp fMod (dCb fInt (aCons (dOp fDiv (dIxO 0 (dC (.int 3))) (dC (.int 7))) aNil)) (dVar 1))))))
def f__law_next : FD := runF 4 b__law_next
def b__law_same (rec_ : FD) : SDen :=
 (dSeq (dIfS (dB (dOp fIs (dVar 1) (dC .non)))
 (dRet (dOp fIs (dVar 0) (dC .non)))
 dNext)
 (dSeq (dIfS (dTru (dUn (fIsi "bool") (dVar 1)))
 (dRet (vAnd (dUn (fIsi "bool") (dVar 0)) (dOp fEq (dVar 0) (dVar 1))))
 dNext)
 (dSeq (dIfS (dTru (dUn (fIsi "int") (dVar 1)))
 (dRet (vAnd (dUn (fIsi "int") (dVar 0)) (vAnd (vNot (dUn (fIsi "bool") (dVar 0))) (dOp fEq (dVar 0) (dVar 1)))))
 dNext)
 (dSeq (dIfS (dTru (dUn (fIsi "str") (dVar 1)))
 (dRet (vAnd (dUn (fIsi "str") (dVar 0)) (dOp fEq (dVar 0) (dVar 1))))
 dNext)
 (dSeq (dIfS (dAnd (dTru (dUn (fIsi "tuple") (dVar 1))) (dNot (dTru (dUn (fIsi "tuple") (dVar 0)))))
 (dRet (dC (.bl false)))
 dNext)
 (dSeq (dIfS (dAnd (dTru (dUn (fIsi "list") (dVar 1))) (dNot (dTru (dUn (fIsi "list") (dVar 0)))))
 (dRet (dC (.bl false)))
 dNext)
 (dSeq (dIfS (dB (dOp fNe (dCb fLen (aCons (dVar 0) aNil)) (dCb fLen (aCons (dVar 1) aNil))))
 (dRet (dC (.bl false)))
 dNext)
 (dSeq (dFor (iRg 1 (aCons (dCb fLen (aCons (dVar 1) aNil)) aNil)) (gN 2)
 (dIfS (dNot (dTru (dCall rec_ [] (aCons (dOp fIx (dVar 0) (dVar 2)) (aCons (dOp fIx (dVar 1) (dVar 2)) aNil)))))
 (dRet (dC (.bl false)))
 dNext))
 (dRet (dC (.bl true)))))))))))
def r__law_same : Nat → FD
  | 0 => fun _ _ => .no
  | n + 1 => runF 3 (b__law_same (r__law_same n))
def f__law_same : FD := r__law_same 8
def b__law_steps : SDen :=
 (dSeq (dSet 2 (dCb fLen (aCons (dLst (fLc (iRg 1 (aCons (dCb fMin (aCons (dCb fLen (aCons (dVar 0) aNil)) (aCons (dCb fLen (aCons (dVar 1) aNil)) aNil))) aNil)) [6] (gN 6) (dB (dOp fEq (dSl (dVar 0) oNo (oPart (dOp fAdd (dVar 6) (dC (.int 1))))) (dSl (dVar 1) oNo (oPart (dOp fAdd (dVar 6) (dC (.int 1))))))) (dVar 6))) aNil)))
 (dSeq (dSet 3 (dOp fSub (dCb fMin (aCons (dCb fLen (aCons (dVar 0) aNil)) (aCons (dCb fLen (aCons (dVar 1) aNil)) aNil))) (dVar 2)))
 (dSeq (dSet 4 (dCb fLen (aCons (dLst (fLc (iRg 2 (aCons (dC (.int 1)) (aCons (dOp fAdd (dVar 3) (dC (.int 1))) aNil))) [6] (gN 6) (dB (dOp fEq (dSl (dVar 0) (oPart (dOp fSub (dCb fLen (aCons (dVar 0) aNil)) (dVar 6))) oNo) (dSl (dVar 1) (oPart (dOp fSub (dCb fLen (aCons (dVar 1) aNil)) (dVar 6))) oNo))) (dVar 6))) aNil)))
 (dSeq (dSet 5 (dLst (fLc (iRg 2 (aCons (dVar 2) (aCons (dOp fSub (dCb fLen (aCons (dVar 0) aNil)) (dVar 4)) aNil))) [6] (gN 6) dYes (dTup (aCons (dC (.str "out")) (aCons (dVar 6) (aCons (dOp fIx (dVar 0) (dVar 6)) aNil)))))))
 (dRet (dOp fAdd (dUn fRev (dVar 5)) (dLst (fLc (iRg 2 (aCons (dVar 2) (aCons (dOp fSub (dCb fLen (aCons (dVar 1) aNil)) (dVar 4)) aNil))) [6] (gN 6) dYes (dTup (aCons (dC (.str "in")) (aCons (dVar 6) (aCons (dOp fIx (dVar 1) (dVar 6)) aNil))))))))))))
def f__law_steps : FD := runF 7 b__law_steps
def b__law_is_unfit : SDen :=
 (dSeq (dTry tbl_InvalidPaper (dExp (dCall f_stepped [] (aCons (dVar 0) (aCons (dVar 1) aNil)))) (dRet (dC (.bl true))))
 (dRet (dC (.bl false))))
def f__law_is_unfit : FD := runF 2 b__law_is_unfit
def b_law : SDen :=
 (dSeq (dSetC 1 (fDisp (aCons (dLst (fun s => ((aCons (dVar 0) aNil) s).bind fList)) (aCons (dC (.int 0)) (aCons (dC (.int 0)) (aCons (dC (.int 1)) aNil))))))
 (dSeq (dSet 2 (dLst (fDisp (aCons (dTup (aCons (dC (.str "a")) (aCons (dC (.int 1)) aNil))) (aCons (dTup (aCons (dC (.str "b")) (aCons (dC (.int 2)) aNil))) (aCons (dTup (aCons (dC (.str "a")) (aCons (dC (.int 2)) aNil))) aNil))))))
 (dSeq (dSetO 3 (fDisp (aCons (dLst (fLc (iRg 1 (aCons (dCall f__law_next [] (aCons (dVar 1) (aCons (dC (.int 13)) aNil))) aNil)) [6] (gN 6) dYes (dOp fIx (dVar 2) (dCall f__law_next [] (aCons (dVar 1) (aCons (dC (.int 3)) aNil)))))) aNil)))
 (dSeq (dFor (iRg 1 (aCons (dOp fAdd (dC (.int 1)) (dCall f__law_next [] (aCons (dVar 1) (aCons (dC (.int 4)) aNil)))) aNil)) (gN 4)
 (dSeq (dSet 5 (dLst (fun s => ((aCons (dIxO 3 (dUn fNeg (dC (.int 1)))) aNil) s).bind fList)))
 (dSeq (dFor (iRg 1 (aCons (dCall f__law_next [] (aCons (dVar 1) (aCons (dC (.int 3)) aNil))) aNil)) (gN 6)
 (dSeq (dSet 7 (dCall f__law_next [] (aCons (dVar 1) (aCons (dOp fAdd (dCb fLen (aCons (dVar 5) aNil)) (dC (.int 1))) aNil))))
 (dIfS (dB (dOp fEq (dCall f__law_next [] (aCons (dVar 1) (aCons (dC (.int 2)) aNil))) (dC (.int 0))))
 (dSet 5 (dOp fAdd (dOp fAdd (dSl (dVar 5) oNo (oPart (dVar 7))) (dLst (fDisp (aCons (dOp fIx (dVar 2) (dCall f__law_next [] (aCons (dVar 1) (aCons (dC (.int 3)) aNil)))) aNil)))) (dSl (dVar 5) (oPart (dVar 7)) oNo)))
 (dSet 5 (dOp fAdd (dSl (dVar 5) oNo (oPart (dVar 7))) (dSl (dVar 5) (oPart (dOp fAdd (dVar 7) (dC (.int 1)))) oNo))))))
 (dExp (dMut 3 mApp (aCons (dVar 5) aNil))))))
 (dFrz 3 (dSeq (dFor (iSeq (dVar 3)) (gN 8)
 (dSeq (dIfS (dNot (dTru (dCall f__law_same [] (aCons (dCall f_steps_between [] (aCons (dVar 8) (aCons (dVar 8) aNil))) (aCons (dLst (fDisp aNil)) aNil)))))
 (dRet (dC (.bl false)))
 dNext)
 (dFrz 3 (dFor (iSeq (dVar 3)) (gN 9)
 (dSeq (dSet 10 (dCall f_steps_between [] (aCons (dVar 8) (aCons (dVar 9) aNil))))
 (dSeq (dIfS (dOr (dNot (dTru (dCall f__law_same [] (aCons (dVar 10) (aCons (dCall f__law_steps [] (aCons (dVar 8) (aCons (dVar 9) aNil))) aNil))))) (dOr (dNot (dTru (dCall f__law_same [] (aCons (dCall f_stepped [] (aCons (dVar 8) (aCons (dVar 10) aNil))) (aCons (dVar 9) aNil))))) (dNot (dTru (dCall f__law_same [] (aCons (dCall f_stepped [] (aCons (dVar 9) (aCons (dCall f_turned [] (aCons (dVar 10) aNil)) aNil))) (aCons (dVar 8) aNil)))))))
 (dRet (dC (.bl false)))
 dNext)
 (dSeq (dIfS (dOr (dNot (dTru (dCall f__law_same [] (aCons (dCall f_turned [] (aCons (dCall f_turned [] (aCons (dVar 10) aNil)) aNil)) (aCons (dVar 10) aNil))))) (dB (dOp fNe (dCb fLen (aCons (dCall f_turned [] (aCons (dVar 10) aNil)) aNil)) (dCb fLen (aCons (dVar 10) aNil)))))
 (dRet (dC (.bl false)))
 dNext)
 (dSeq (dSet 11 (dOp fMul (dLst (fDisp (aCons (dTup (aCons (dC (.str "x")) (aCons (dC (.int 9)) aNil))) aNil))) (dCall f__law_next [] (aCons (dVar 1) (aCons (dC (.int 3)) aNil)))))
 (dSeq (dSet 12 (dOp fMul (dLst (fDisp (aCons (dTup (aCons (dC (.str "y")) (aCons (dC (.int 9)) aNil))) aNil))) (dCall f__law_next [] (aCons (dVar 1) (aCons (dC (.int 3)) aNil)))))
 (dSeq (dSet 13 (dLst (fLc (iSeq (dVar 10)) [18, 19, 20] (gT 3 (gsCons (gN 18) (gsCons (gN 19) (gsCons (gN 20) gsNil)))) dYes (dTup (aCons (dVar 18) (aCons (dOp fAdd (dVar 19) (dCb fLen (aCons (dVar 11) aNil))) (aCons (dVar 20) aNil)))))))
 (dSeq (dIfS (dNot (dTru (dCall f__law_same [] (aCons (dCall f_steps_between [] (aCons (dOp fAdd (dOp fAdd (dVar 11) (dVar 8)) (dVar 12)) (aCons (dOp fAdd (dOp fAdd (dVar 11) (dVar 9)) (dVar 12)) aNil))) (aCons (dVar 13) aNil)))))
 (dRet (dC (.bl false)))
 dNext)
 (dFrz 3 (dFor (iSeq (dVar 3)) (gN 14)
 (dIfS (dNot (dTru (dCall f__law_same [] (aCons (dCall f_folded [] (aCons (dVar 8) (aCons (dLst (fDisp (aCons (dVar 10) (aCons (dCall f_steps_between [] (aCons (dVar 9) (aCons (dVar 14) aNil))) aNil)))) aNil))) (aCons (dVar 14) aNil)))))
 (dRet (dC (.bl false)))
 dNext))))))))))))))
 (dSeq (dSet 15 (dLst (fLc (iRg 1 (aCons (dOp fSub (dLenO 3) (dC (.int 1))) aNil)) [6] (gN 6) dYes (dCall f_steps_between [] (aCons (dIxO 3 (dVar 6)) (aCons (dIxO 3 (dOp fAdd (dVar 6) (dC (.int 1)))) aNil))))))
 (dSeq (dIfS (dOr (dNot (dTru (dCall f__law_same [] (aCons (dCall f_folded [] (aCons (dIxO 3 (dC (.int 0))) (aCons (dVar 15) aNil))) (aCons (dIxO 3 (dUn fNeg (dC (.int 1)))) aNil))))) (dNot (dTru (dCall f__law_same [] (aCons (dCall f_folded [] (aCons (dIxO 3 (dC (.int 0))) (aCons (dLst (fDisp aNil)) aNil))) (aCons (dIxO 3 (dC (.int 0))) aNil))))))
 (dRet (dC (.bl false)))
 dNext)
 (dSeq (dIfS (dNot (dTru (dCall f__law_same [] (aCons (dCall f_folded [] (aCons (dIxO 3 (dUn fNeg (dC (.int 1)))) (aCons (dLst (fLc (iSeq (dUn fRev (dVar 15))) [10] (gN 10) dYes (dCall f_turned [] (aCons (dVar 10) aNil)))) aNil))) (aCons (dIxO 3 (dC (.int 0))) aNil)))))
 (dRet (dC (.bl false)))
 dNext)
 (dSeq (dSet 5 (dIxO 3 (dUn fNeg (dC (.int 1)))))
 (dSeq (dSet 16 (dLst (fDisp (aCons (dLst (fDisp (aCons (dTup (aCons (dC (.str "out")) (aCons (dCb fLen (aCons (dVar 5) aNil)) (aCons (dTup (aCons (dC (.str "a")) (aCons (dC (.int 1)) aNil))) aNil)))) aNil))) (aCons (dLst (fDisp (aCons (dTup (aCons (dC (.str "in")) (aCons (dOp fAdd (dCb fLen (aCons (dVar 5) aNil)) (dC (.int 1))) (aCons (dTup (aCons (dC (.str "a")) (aCons (dC (.int 1)) aNil))) aNil)))) aNil))) (aCons (dLst (fDisp (aCons (dTup (aCons (dC (.str "in")) (aCons (dUn fNeg (dC (.int 1))) (aCons (dTup (aCons (dC (.str "a")) (aCons (dC (.int 1)) aNil))) aNil)))) aNil))) (aCons (dLst (fDisp (aCons (dTup (aCons (dC (.str "out")) (aCons (dC (.int 0)) (aCons (dTup (aCons (dC (.str "z")) (aCons (dC (.int 0)) aNil))) aNil)))) aNil))) (aCons (dLst (fDisp (aCons (dTup (aCons (dC (.str "off")) (aCons (dC (.int 0)) (aCons (dTup (aCons (dC (.str "a")) (aCons (dC (.int 1)) aNil))) aNil)))) aNil))) aNil))))))))
 (dSeq (dSet 17 (dLst (fun s => ((aCons (dVar 5) aNil) s).bind fList)))
 (dRet (vAnd (dOp fEq (dLst (fLc (iSeq (dVar 16)) [10] (gN 10) (dNot (dTru (dCall f__law_is_unfit [] (aCons (dVar 5) (aCons (dVar 10) aNil))))) (dVar 10))) (dLst (fDisp aNil))) (vAnd (dOp fEq (dVar 5) (dVar 17)) (dOp fEq (dCall f_stepped [] (aCons (dVar 5) (aCons (dLst (fDisp (aCons (dTup (aCons (dC (.str "in")) (aCons (dCb fLen (aCons (dVar 5) aNil)) (aCons (dTup (aCons (dC (.str "a")) (aCons (dC (.int 1)) aNil))) aNil)))) aNil))) aNil))) (dOp fAdd (dVar 5) (dLst (fDisp (aCons (dTup (aCons (dC (.str "a")) (aCons (dC (.int 1)) aNil))) aNil))))))))))))))))))))
def f_law : FD := runF 21 b_law
end K15

set_option maxHeartbeats 4000000
namespace K15
open PySem DL

/-! ### rows and steps, plainly -/
abbrev Row := Str × Int
def rowD (r : Row) : D := .tup [.str r.1, .int r.2]
abbrev Stp := Bool × Nat × Row
def stepD (t : Stp) : D := .tup [.str (if t.1 then "in" else "out"), .int t.2.1, rowD t.2.2]
abbrev rl (xs : List Row) : D := .lst (xs.map rowD)
abbrev sl (xs : List Stp) : D := .lst (xs.map stepD)

theorem eqOk_row (r q : Row) : eqOk (rowD r) (rowD q) = true := by simp [eqOk, rowD, dp, dps]
theorem eqv_row (r q : Row) : PyData.eqv (py (rowD r)) (py (rowD q)) = decide (r = q) := by
  obtain ⟨a, i⟩ := r
  obtain ⟨b, j⟩ := q
  simp only [rowD, py, pys, PyData.eqv, PyData.eqvAll, Bool.and_true, Prod.mk.injEq]
  rw [Bool.decide_and]
  rfl
theorem deq_row (r q : Row) : deq (rowD r) (rowD q) = decide (r = q) := eqv_row r q
theorem eqvs_row : ∀ xs ys : List Row, PyData.eqvAll (pys (xs.map rowD)) (pys (ys.map rowD)) = decide (xs = ys)
  | [], [] => by simp [pys, PyData.eqvAll]
  | [], y :: ys => by simp [pys, PyData.eqvAll]
  | x :: xs, [] => by simp [pys, PyData.eqvAll]
  | x :: xs, y :: ys => by
    simp only [List.map_cons, pys, PyData.eqvAll, eqv_row, eqvs_row xs ys, List.cons.injEq]
    rw [Bool.decide_and]
theorem deq_rl (xs ys : List Row) : deq (rl xs) (rl ys) = decide (xs = ys) := by
  unfold deq
  simp only [py, PyData.eqv]
  exact eqvs_row xs ys
theorem dps_row : ∀ xs : List Row, dps (xs.map rowD) ≤ 1
  | [] => by simp [dps]
  | x :: xs => by
    have := dps_row xs
    simp only [List.map_cons, dps]
    have : dp (rowD x) = 1 := by simp [rowD, dp, dps]
    omega
theorem eqOk_rl (xs ys : List Row) : eqOk (rl xs) (rl ys) = true := by
  have h1 := dps_row xs
  have h2 := dps_row ys
  have e : ∀ zs : List Row, dp (rl zs) = dps (zs.map rowD) + 1 := fun _ => by simp [rl, dp]
  unfold eqOk
  rw [e, e, decide_eq_true (by omega), decide_eq_true (by omega)]; rfl

/-- the longest shared beginning -/
def lcp : List Row → List Row → Nat
  | x :: xs, y :: ys => if x = y then lcp xs ys + 1 else 0
  | _, _ => 0
theorem lcp_nil_r (xs : List Row) : lcp xs [] = 0 := by cases xs <;> rfl
theorem lcp_le_l : ∀ xs ys : List Row, lcp xs ys ≤ xs.length
  | [], _ => Nat.le_refl _
  | x :: xs, [] => by simp [lcp]
  | x :: xs, y :: ys => by
    have := lcp_le_l xs ys
    simp only [lcp, List.length_cons]; split <;> omega
theorem lcp_comm : ∀ xs ys : List Row, lcp xs ys = lcp ys xs
  | [], [] => rfl
  | [], _ :: _ => rfl
  | _ :: _, [] => rfl
  | x :: xs, y :: ys => by
    simp only [lcp, lcp_comm xs ys]
    by_cases h : x = y
    · rw [if_pos h, if_pos h.symm]
    · rw [if_neg h, if_neg (fun q => h q.symm)]
theorem lcp_le_r (xs ys : List Row) : lcp xs ys ≤ ys.length := by rw [lcp_comm]; exact lcp_le_l ys xs
theorem lcp_next : ∀ (xs ys : List Row) (i : Nat), i ≤ lcp xs ys → ∀ (h1 : i < xs.length) (h2 : i < ys.length), (xs[i] = ys[i] ↔ i < lcp xs ys)
  | [], _, _, _, h1, _ => absurd h1 (Nat.not_lt_zero _)
  | _ :: _, [], _, _, _, h2 => absurd h2 (Nat.not_lt_zero _)
  | x :: xs, y :: ys, 0, _, _, _ => by
    simp only [lcp, List.getElem_cons_zero]
    by_cases h : x = y
    · rw [if_pos h]; exact ⟨fun _ => Nat.succ_pos _, fun _ => h⟩
    · rw [if_neg h]; exact ⟨fun q => absurd q h, fun q => absurd q (Nat.lt_irrefl _)⟩
  | x :: xs, y :: ys, i + 1, h, h1, h2 => by
    simp only [lcp] at h
    by_cases q : x = y
    · rw [if_pos q] at h
      have := lcp_next xs ys i (by omega) (by simpa using h1) (by simpa using h2)
      simp only [lcp, if_pos q, List.getElem_cons_succ, this]
      omega
    · rw [if_neg q] at h; omega
theorem lcp_take_eq : ∀ (xs ys : List Row) (k : Nat), k ≤ xs.length → k ≤ ys.length → (xs.take k = ys.take k ↔ k ≤ lcp xs ys)
  | _, _, 0, _, _ => by simp
  | [], _, k + 1, h, _ => absurd h (by simp)
  | _ :: _, [], k + 1, _, h => absurd h (by simp)
  | x :: xs, y :: ys, k + 1, h1, h2 => by
    have := lcp_take_eq xs ys k (by simpa using h1) (by simpa using h2)
    simp only [List.take_succ_cons, List.cons.injEq, this, lcp]
    by_cases q : x = y
    · rw [if_pos q]
      exact ⟨fun h => by omega, fun h => ⟨q, by omega⟩⟩
    · rw [if_neg q]
      exact ⟨fun h => absurd h.1 q, fun h => by omega⟩
theorem lcp_takes : ∀ (xs ys : List Row) (m n : Nat), lcp (xs.take m) (ys.take n) = min (min m n) (lcp xs ys)
  | [], _, m, n => by simp [lcp]
  | x :: xs, [], m, n => by simp [lcp_nil_r]
  | x :: xs, y :: ys, 0, n => by simp [lcp]
  | x :: xs, y :: ys, m + 1, 0 => by simp [lcp]
  | x :: xs, y :: ys, m + 1, n + 1 => by
    simp only [List.take_succ_cons, lcp, lcp_takes xs ys m n]
    split <;> omega
theorem lcp_pre : ∀ (w xs ys : List Row), lcp (w ++ xs) (w ++ ys) = w.length + lcp xs ys
  | [], xs, ys => by simp
  | x :: w, xs, ys => by simp only [List.cons_append, lcp, if_pos, lcp_pre w xs ys, List.length_cons]; omega
theorem lcp_self : ∀ xs : List Row, lcp xs xs = xs.length
  | [] => rfl
  | x :: xs => by simp only [lcp, if_pos, lcp_self xs, List.length_cons]
theorem take_lcp (xs ys : List Row) : xs.take (lcp xs ys) = ys.take (lcp xs ys) := (lcp_take_eq xs ys _ (lcp_le_l ..) (lcp_le_r ..)).mpr (Nat.le_refl _)

/-- how much of the end is shared, behind the first p -/
def lce (a b : List Row) (p : Nat) : Nat := lcp (a.drop p).reverse (b.drop p).reverse
theorem lce_comm (a b : List Row) (p : Nat) : lce a b p = lce b a p := lcp_comm ..
theorem lce_le_l (a b : List Row) (p : Nat) : lce a b p ≤ a.length - p := by
  have := lcp_le_l (a.drop p).reverse (b.drop p).reverse
  rwa [List.length_reverse, List.length_drop] at this
theorem lce_le_r (a b : List Row) (p : Nat) : lce a b p ≤ b.length - p := by rw [lce_comm]; exact lce_le_l b a p
theorem lce_eq (a b : List Row) (p : Nat) : lce a b p = min (min (a.length - p) (b.length - p)) (lcp a.reverse b.reverse) := by
  unfold lce
  rw [List.reverse_drop, List.reverse_drop, lcp_takes]
def mid (a : List Row) (p e : Nat) : List Row := (a.drop p).take (a.length - p - e)
theorem mid_get (a : List Row) (p e i : Nat) : (mid a p e)[i]? = if i < a.length - p - e then a[p + i]? else none := by
  unfold mid
  rw [List.getElem?_take, List.getElem?_drop]
theorem mid_len (a : List Row) (p e : Nat) (h : p + e ≤ a.length) : (mid a p e).length = a.length - p - e := by
  unfold mid
  rw [List.length_take, List.length_drop]; omega
/-- rows x from place p on, put in or out -/
def ups (k : Bool) : Nat → List Row → List Stp
  | _, [] => []
  | p, r :: rs => (k, p, r) :: ups k (p + 1) rs
theorem ups_get (k : Bool) : ∀ (p : Nat) (x : List Row) (i : Nat), (ups k p x)[i]? = x[i]?.map fun r => (k, p + i, r)
  | p, [], i => by simp [ups]
  | p, r :: rs, 0 => by simp [ups]
  | p, r :: rs, i + 1 => by
    simp only [ups, List.getElem?_cons_succ, ups_get k (p + 1) rs i]
    congr 1
    funext r
    rw [show p + 1 + i = p + (i + 1) by omega]
theorem ups_len (k : Bool) : ∀ (p : Nat) (x : List Row), (ups k p x).length = x.length
  | p, [] => rfl
  | p, r :: rs => by simp [ups, ups_len k (p + 1) rs]
theorem ups_snoc (k : Bool) : ∀ (p : Nat) (x : List Row) (r : Row), ups k p (x ++ [r]) = ups k p x ++ [(k, p + x.length, r)]
  | p, [], r => by simp [ups]
  | p, q :: rs, r => by
    simp only [List.cons_append, ups, ups_snoc k (p + 1) rs r, List.length_cons]
    rw [show p + 1 + rs.length = p + (rs.length + 1) by omega]
/-- the steps from one list to another -/
def stp (a b : List Row) : List Stp :=
  (ups false (lcp a b) (mid a (lcp a b) (lce a b (lcp a b)))).reverse ++ ups true (lcp a b) (mid b (lcp a b) (lce a b (lcp a b)))
def turn (s : List Stp) : List Stp := s.reverse.map fun t => (!t.1, t.2)
theorem ups_turn (k : Bool) : ∀ (p : Nat) (x : List Row), (ups k p x).map (fun t => (!t.1, t.2)) = ups (!k) p x
  | p, [] => rfl
  | p, r :: rs => by simp [ups, ups_turn k (p + 1) rs]
theorem turn_stp (a b : List Row) : turn (stp a b) = stp b a := by
  unfold turn stp
  rw [List.reverse_append, List.reverse_reverse, List.map_append, List.map_reverse, ups_turn, ups_turn, lcp_comm b a, lce_comm b a]
  rfl
theorem turn_turn (s : List Stp) : turn (turn s) = s := by
  unfold turn
  rw [List.map_reverse, List.map_reverse, List.map_reverse, List.reverse_reverse, List.map_map]
  rw [show ((fun t : Stp => (!t.1, t.2)) ∘ fun t => (!t.1, t.2)) = id from by funext t; obtain ⟨a, b⟩ := t; simp]
  exact List.map_id _
theorem stp_self (a : List Row) : stp a a = [] := by
  unfold stp
  rw [lcp_self]
  have : mid a a.length (lce a a a.length) = [] := by simp [mid]
  rw [this]; rfl

/-- doing steps -/
def app1 (xs : List Row) (t : Stp) : List Row := if t.1 then xs.take t.2.1 ++ [t.2.2] ++ xs.drop t.2.1 else xs.eraseIdx t.2.1
def fit1 (xs : List Row) (t : Stp) : Prop := if t.1 then t.2.1 ≤ xs.length else xs[t.2.1]? = some t.2.2
def fits : List Row → List Stp → Prop
  | _, [] => True
  | xs, t :: ts => fit1 xs t ∧ fits (app1 xs t) ts
theorem fits_app : ∀ (s t : List Stp) (xs : List Row), fits xs (s ++ t) ↔ fits xs s ∧ fits (s.foldl app1 xs) t
  | [], t, xs => by simp [fits]
  | u :: s, t, xs => by simp only [List.cons_append, fits, List.foldl_cons, fits_app s t, and_assoc]
theorem outs_ok (pre suf : List Row) : ∀ (n : Nat) (x : List Row), x.length = n → fits (pre ++ x ++ suf) (ups false pre.length x).reverse ∧ (ups false pre.length x).reverse.foldl app1 (pre ++ x ++ suf) = pre ++ suf
  | 0, x, h => by
    have : x = [] := List.length_eq_zero_iff.mp h
    subst this; simp [ups, fits]
  | n + 1, x, h => by
    obtain ⟨y, r, rfl⟩ : ∃ y r, x = y ++ [r] := by
      rcases List.eq_nil_or_concat x with q | ⟨y, r, q⟩
      · rw [q] at h; simp at h
      · exact ⟨y, r, by simpa using q⟩
    have hy : y.length = n := by simpa using h
    have e : app1 (pre ++ (y ++ [r]) ++ suf) (false, pre.length + y.length, r) = pre ++ y ++ suf := by
      simp only [app1, Bool.false_eq_true, if_false]
      rw [show pre ++ (y ++ [r]) ++ suf = (pre ++ y) ++ (r :: suf) by simp]
      rw [show pre.length + y.length = (pre ++ y).length by simp]
      rw [List.eraseIdx_append_of_length_le (Nat.le_refl _)]
      simp
    have ih := outs_ok pre suf n y hy
    rw [ups_snoc, List.reverse_append]
    refine ⟨⟨?_, ?_⟩, ?_⟩
    · simp only [fit1, Bool.false_eq_true, if_false]
      rw [show pre ++ (y ++ [r]) ++ suf = (pre ++ y) ++ (r :: suf) by simp]
      rw [List.getElem?_append_right (by simp)]
      simp
    · show fits (app1 _ _) _
      rw [e]; exact ih.1
    · show List.foldl app1 (app1 _ _) _ = _
      rw [e]; exact ih.2
theorem ins_ok (suf : List Row) : ∀ (y pre : List Row), fits (pre ++ suf) (ups true pre.length y) ∧ (ups true pre.length y).foldl app1 (pre ++ suf) = pre ++ y ++ suf
  | [], pre => by simp [ups, fits]
  | r :: y, pre => by
    have e : app1 (pre ++ suf) (true, pre.length, r) = (pre ++ [r]) ++ suf := by simp [app1]
    have ih := ins_ok suf y (pre ++ [r])
    rw [show (pre ++ [r]).length = pre.length + 1 by simp] at ih
    refine ⟨⟨by simp [fit1], ?_⟩, ?_⟩
    · rw [e]; exact ih.1
    · show List.foldl app1 (app1 _ _) _ = _
      rw [e, ih.2]; simp
theorem stp_ok (a b : List Row) : fits a (stp a b) ∧ (stp a b).foldl app1 a = b := by
  have hp := take_lcp a b
  have hl := lcp_le_l a b
  have hr := lcp_le_r a b
  have h1 := lce_le_l a b (lcp a b)
  have h2 := lce_le_r a b (lcp a b)
  unfold stp
  generalize hP : lcp a b = p at *
  have he : (a.drop p).drop (a.length - p - lce a b p) = (b.drop p).drop (b.length - p - lce a b p) := by
    have := take_lcp (a.drop p).reverse (b.drop p).reverse
    change (a.drop p).reverse.take (lce a b p) = (b.drop p).reverse.take (lce a b p) at this
    rw [List.take_reverse, List.take_reverse, List.length_drop, List.length_drop] at this
    exact List.reverse_inj.mp this
  generalize lce a b p = e at *
  have ea : a = a.take p ++ mid a p e ++ (a.drop p).drop (a.length - p - e) := by
    unfold mid
    rw [List.append_assoc, List.take_append_drop, List.take_append_drop]
  have eb : b = a.take p ++ mid b p e ++ (a.drop p).drop (a.length - p - e) := by
    unfold mid
    rw [he, hp, List.append_assoc, List.take_append_drop, List.take_append_drop]
  have lp : (a.take p).length = p := by rw [List.length_take]; omega
  have o := outs_ok (a.take p) ((a.drop p).drop (a.length - p - e)) _ (mid a p e) rfl
  have i := ins_ok ((a.drop p).drop (a.length - p - e)) (mid b p e) (a.take p)
  rw [lp, ← ea] at o
  rw [lp, ← eb] at i
  rw [fits_app, List.foldl_append, o.2]
  exact ⟨⟨o.1, i.1⟩, i.2⟩

/-! ### moved -/
def Notin (y : Row) (xs : List Row) : Prop := ∀ x ∈ xs, x ≠ y
theorem lcp_suf (y : Row) (n : Nat) : ∀ (a b : List Row), Notin y a → Notin y b → a ≠ b → lcp (a ++ List.replicate n y) (b ++ List.replicate n y) = lcp a b
  | [], [], _, _, h => absurd rfl h
  | [], q :: b, _, hb, _ => by
    cases n with
    | zero => simp [lcp]
    | succ n =>
      simp only [List.nil_append, List.replicate_succ, List.cons_append, lcp]
      rw [if_neg (fun e => hb q List.mem_cons_self e.symm)]
  | q :: a, [], ha, _, _ => by
    cases n with
    | zero => simp [lcp]
    | succ n =>
      simp only [List.nil_append, List.replicate_succ, List.cons_append, lcp]
      rw [if_neg (fun e => ha q List.mem_cons_self e)]
  | q :: a, r :: b, ha, hb, h => by
    simp only [List.cons_append, lcp]
    by_cases e : q = r
    · subst e
      rw [if_pos rfl, if_pos rfl, lcp_suf y n a b (fun x hx => ha x (List.mem_cons_of_mem _ hx)) (fun x hx => hb x (List.mem_cons_of_mem _ hx)) (fun e => h (by rw [e]))]
    · rw [if_neg e, if_neg e]
theorem ups_move (k : Bool) (n : Nat) : ∀ (p : Nat) (x : List Row), ups k (n + p) x = (ups k p x).map fun t => (t.1, t.2.1 + n, t.2.2)
  | p, [] => rfl
  | p, r :: rs => by
    simp only [ups, List.map_cons]
    rw [show n + p + 1 = n + (p + 1) by omega, ups_move k n (p + 1) rs, Nat.add_comm n p]
theorem stp_move (x y : Row) (m n : Nat) (a b : List Row) (ha : Notin y a) (hb : Notin y b) :
    stp (List.replicate m x ++ a ++ List.replicate n y) (List.replicate m x ++ b ++ List.replicate n y) = (stp a b).map fun t => (t.1, t.2.1 + m, t.2.2) := by
  by_cases h : a = b
  · subst h; rw [stp_self, stp_self]; rfl
  · have e1 : lcp (List.replicate m x ++ a ++ List.replicate n y) (List.replicate m x ++ b ++ List.replicate n y) = m + lcp a b := by
      rw [List.append_assoc, List.append_assoc, lcp_pre, List.length_replicate, lcp_suf y n a b ha hb h]
    have d : ∀ c : List Row, lcp a b ≤ c.length → (List.replicate m x ++ c ++ List.replicate n y).drop (m + lcp a b) = c.drop (lcp a b) ++ List.replicate n y := fun c hc => by
      rw [List.append_assoc, ← List.drop_drop, List.drop_left' (by simp), List.drop_append_of_le_length hc]
    have e2 : lce (List.replicate m x ++ a ++ List.replicate n y) (List.replicate m x ++ b ++ List.replicate n y) (m + lcp a b) = n + lce a b (lcp a b) := by
      unfold lce
      rw [d a (lcp_le_l a b), d b (lcp_le_r a b), List.reverse_append, List.reverse_append, lcp_pre]
      simp
    have e3 : ∀ (c : List Row) (e : Nat), lcp a b + e ≤ c.length → mid (List.replicate m x ++ c ++ List.replicate n y) (m + lcp a b) (n + e) = mid c (lcp a b) e := fun c e hc => by
      unfold mid
      rw [d c (by omega), List.take_append_of_le_length (by simp; omega)]
      congr 1
      simp; omega
    have h1 := lce_le_l a b (lcp a b)
    have h2 := lce_le_r a b (lcp a b)
    have h3 := lcp_le_l a b
    have h4 := lcp_le_r a b
    unfold stp
    rw [e1, e2, e3 a _ (by omega), e3 b _ (by omega), ups_move, ups_move, List.map_append, List.map_reverse]
theorem stp_len (a b : List Row) : (stp a b).length ≤ a.length + b.length := by
  unfold stp
  rw [List.length_append, List.length_reverse, ups_len, ups_len]
  unfold mid
  rw [List.length_take, List.length_take, List.length_drop, List.length_drop]
  omega
theorem ups_place (k : Bool) : ∀ (p : Nat) (x : List Row) (t : Stp), t ∈ ups k p x → t.2.1 < p + x.length ∧ t.2.2 ∈ x
  | p, [], t, h => by simp [ups] at h
  | p, r :: rs, t, h => by
    rcases List.mem_cons.mp h with q | q
    · subst q; simp
    · have := ups_place k (p + 1) rs t q
      refine ⟨by simp; omega, List.mem_cons_of_mem _ this.2⟩
end K15

set_option maxHeartbeats 4000000
namespace K15
open PySem DL L2

/-! ### what the functions do with rows -/
theorem rng1_ok {j : Int} (h2 : -1000 ≤ j ∧ j ≤ 1000) : rng 1 [j] = some (nums 0 1 j.toNat) := by
  simp only [rng]; rw [if_pos (by unfold cap; omega)]
theorem rng2_ok {i j : Int} (h1 : -1000 ≤ i ∧ i ≤ 1000) (h2 : -1000 ≤ j ∧ j ≤ 1000) : rng 2 [i, j] = some (nums i 1 (j - i).toNat) := by
  simp only [rng]; rw [if_pos (by unfold cap; omega)]
theorem rng3_ok {i j : Int} (h1 : -1000 ≤ i ∧ i ≤ 1000) (h2 : -1000 ≤ j ∧ j ≤ 1000) : rng 3 [i, j, -1] = some (nums i (-1) (i - j).toNat) := by
  simp only [rng]; rw [if_pos ⟨by unfold cap; omega, by unfold cap; omega, by unfold cap; omega, by unfold cap; omega, trivial⟩]
theorem atI_row {xs : List Row} {i : Nat} (h : i < xs.length) : atI (xs.map rowD) (i : Int) = some (rowD xs[i]) := by
  rw [atI_nat (v := rowD xs[i])]
  rw [List.getElem?_map, List.getElem?_eq_getElem h]; rfl
theorem atI_back {xs : List Row} {j : Nat} (h : j < xs.length) : atI (xs.map rowD) (-1 - (j : Int)) = some (rowD xs[xs.length - 1 - j]) := by
  unfold atI ixN
  rw [List.length_map, if_neg (by omega), if_pos (by omega), Option.bind_some, List.getElem?_map]
  rw [show (-1 - (j : Int) + xs.length).toNat = xs.length - 1 - j by omega, List.getElem?_eq_getElem (by omega)]; rfl

def t1 : DenT := (dAnd (dB (dOp fLt (dVar 2) (dCb fLen (aCons (dVar 0) aNil)))) (dAnd (dB (dOp fLt (dVar 2) (dCb fLen (aCons (dVar 1) aNil)))) (dB (dOp fEq (dOp fIx (dVar 0) (dVar 2)) (dOp fIx (dVar 1) (dVar 2))))))
def t2 : DenT := (dAnd (dB (dOp fLt (dVar 3) (dOp fSub (dCb fLen (aCons (dVar 0) aNil)) (dVar 2)))) (dAnd (dB (dOp fLt (dVar 3) (dOp fSub (dCb fLen (aCons (dVar 1) aNil)) (dVar 2)))) (dB (dOp fEq (dOp fIx (dVar 0) (dOp fSub (dUn fNeg (dC (.int 1))) (dVar 3))) (dOp fIx (dVar 1) (dOp fSub (dUn fNeg (dC (.int 1))) (dVar 3)))))))
theorem t1_ok (a b : List Row) (i : Nat) (h : i ≤ lcp a b) (x y z : Slot) (M : List Cell) :
    t1 ⟨[.d (rl a), .d (rl b), .d (.int i), x, y, z], M⟩ = .ok (decide (i < lcp a b)) ⟨[.d (rl a), .d (rl b), .d (.int i), x, y, z], M⟩ := by
  have hl := lcp_le_l a b
  have hr := lcp_le_r a b
  by_cases h1 : i < a.length
  · by_cases h2 : i < b.length
    · have := lcp_next a b i h h1 h2
      simp [t1, rl, h1, h2, atI_row, eqOk_row, deq_row, this, dSeq, dIfS, dAnd, dOr, dNot, dB, dTru, tru, dOp, dUn, dC, dVar, dCb, aNil, aCons, dSet, dSetO, dRet, dRetN, dExp, dNext, dIxO, dLenO, rdL, getL, setL, setAt, dAugIx, dSetIx, dMut, mApp, mPop, mIns, R.bind, R.st, toB, fEq, fNe, fLt, fLe, fGt, fGe, fI, fA, fSub, fDiv, fMod, fPow, pSub, pDiv, pMod, pPow, fAdd, fMul, fIx, fLen, lenD, seqOf, DL.listOf, fInt, fIs, fIsNot, isN, fIsi, tyD, fNeg, vAnd, vOr, vNot, dChain, dIf, dTup, dLst, fDisp, lim, dCall, useF, S.set, iSeq, srcD, dFrz, S.frz, dLst]
    · simp [t1, rl, h1, h2, dSeq, dIfS, dAnd, dOr, dNot, dB, dTru, tru, dOp, dUn, dC, dVar, dCb, aNil, aCons, dSet, dSetO, dRet, dRetN, dExp, dNext, dIxO, dLenO, rdL, getL, setL, setAt, dAugIx, dSetIx, dMut, mApp, mPop, mIns, R.bind, R.st, toB, fEq, fNe, fLt, fLe, fGt, fGe, fI, fA, fSub, fDiv, fMod, fPow, pSub, pDiv, pMod, pPow, fAdd, fMul, fIx, fLen, lenD, seqOf, DL.listOf, fInt, fIs, fIsNot, isN, fIsi, tyD, fNeg, vAnd, vOr, vNot, dChain, dIf, dTup, dLst, fDisp, lim, dCall, useF, S.set, iSeq, srcD, dFrz, S.frz, dLst]; omega
  · simp [t1, rl, h1, dSeq, dIfS, dAnd, dOr, dNot, dB, dTru, tru, dOp, dUn, dC, dVar, dCb, aNil, aCons, dSet, dSetO, dRet, dRetN, dExp, dNext, dIxO, dLenO, rdL, getL, setL, setAt, dAugIx, dSetIx, dMut, mApp, mPop, mIns, R.bind, R.st, toB, fEq, fNe, fLt, fLe, fGt, fGe, fI, fA, fSub, fDiv, fMod, fPow, pSub, pDiv, pMod, pPow, fAdd, fMul, fIx, fLen, lenD, seqOf, DL.listOf, fInt, fIs, fIsNot, isN, fIsi, tyD, fNeg, vAnd, vOr, vNot, dChain, dIf, dTup, dLst, fDisp, lim, dCall, useF, S.set, iSeq, srcD, dFrz, S.frz, dLst]; omega
theorem t2_ok (a b : List Row) (p j : Nat) (hp1 : p ≤ a.length) (hp2 : p ≤ b.length) (h : j ≤ lce a b p) (y z : Slot) (M : List Cell) :
    t2 ⟨[.d (rl a), .d (rl b), .d (.int p), .d (.int j), y, z], M⟩ = .ok (decide (j < lce a b p)) ⟨[.d (rl a), .d (rl b), .d (.int p), .d (.int j), y, z], M⟩ := by
  have hl := lce_le_l a b p
  have hr := lce_le_r a b p
  by_cases h1 : j + p < a.length
  · by_cases h2 : j + p < b.length
    · have := lcp_next (a.drop p).reverse (b.drop p).reverse j h (by simp; omega) (by simp; omega)
      rw [List.getElem_reverse, List.getElem_reverse, List.getElem_drop, List.getElem_drop] at this
      simp only [List.length_drop] at this
      have e1 : p + (a.length - p - 1 - j) = a.length - 1 - j := by omega
      have e2 : p + (b.length - p - 1 - j) = b.length - 1 - j := by omega
      simp only [e1, e2] at this
      change _ ↔ j < lce a b p at this
      have g1 : (j : Int) < (a.length : Int) - p := by omega
      have g2 : (j : Int) < (b.length : Int) - p := by omega
      have g3 : j < a.length := by omega
      have g4 : j < b.length := by omega
      simp [t2, rl, g1, g2, g3, g4, atI_back, eqOk_row, deq_row, this, dSeq, dIfS, dAnd, dOr, dNot, dB, dTru, tru, dOp, dUn, dC, dVar, dCb, aNil, aCons, dSet, dSetO, dRet, dRetN, dExp, dNext, dIxO, dLenO, rdL, getL, setL, setAt, dAugIx, dSetIx, dMut, mApp, mPop, mIns, R.bind, R.st, toB, fEq, fNe, fLt, fLe, fGt, fGe, fI, fA, fSub, fDiv, fMod, fPow, pSub, pDiv, pMod, pPow, fAdd, fMul, fIx, fLen, lenD, seqOf, DL.listOf, fInt, fIs, fIsNot, isN, fIsi, tyD, fNeg, vAnd, vOr, vNot, dChain, dIf, dTup, dLst, fDisp, lim, dCall, useF, S.set, iSeq, srcD, dFrz, S.frz, dLst]
    · have g1 : (j : Int) < (a.length : Int) - p := by omega
      have g2 : ¬ (j : Int) < (b.length : Int) - p := by omega
      simp [t2, rl, g1, g2, dSeq, dIfS, dAnd, dOr, dNot, dB, dTru, tru, dOp, dUn, dC, dVar, dCb, aNil, aCons, dSet, dSetO, dRet, dRetN, dExp, dNext, dIxO, dLenO, rdL, getL, setL, setAt, dAugIx, dSetIx, dMut, mApp, mPop, mIns, R.bind, R.st, toB, fEq, fNe, fLt, fLe, fGt, fGe, fI, fA, fSub, fDiv, fMod, fPow, pSub, pDiv, pMod, pPow, fAdd, fMul, fIx, fLen, lenD, seqOf, DL.listOf, fInt, fIs, fIsNot, isN, fIsi, tyD, fNeg, vAnd, vOr, vNot, dChain, dIf, dTup, dLst, fDisp, lim, dCall, useF, S.set, iSeq, srcD, dFrz, S.frz, dLst]; omega
  · have g1 : ¬ (j : Int) < (a.length : Int) - p := by omega
    simp [t2, rl, g1, dSeq, dIfS, dAnd, dOr, dNot, dB, dTru, tru, dOp, dUn, dC, dVar, dCb, aNil, aCons, dSet, dSetO, dRet, dRetN, dExp, dNext, dIxO, dLenO, rdL, getL, setL, setAt, dAugIx, dSetIx, dMut, mApp, mPop, mIns, R.bind, R.st, toB, fEq, fNe, fLt, fLe, fGt, fGe, fI, fA, fSub, fDiv, fMod, fPow, pSub, pDiv, pMod, pPow, fAdd, fMul, fIx, fLen, lenD, seqOf, DL.listOf, fInt, fIs, fIsNot, isN, fIsi, tyD, fNeg, vAnd, vOr, vNot, dChain, dIf, dTup, dLst, fDisp, lim, dCall, useF, S.set, iSeq, srcD, dFrz, S.frz, dLst]; omega
def at_ (i : Nat) (s : S) : Nat := match s.ρ[i]? with
  | some (Slot.d (D.int k)) => k.toNat
  | _ => 0
theorem w1_ok (a b : List Row) (ha : a.length ≤ 100) (y z w : Slot) (M : List Cell) :
    dWhile whileMax t1 (dSet 2 (dOp fAdd (dVar 2) (dC (.int 1)))) ⟨[.d (rl a), .d (rl b), .d (.int 0), y, z, w], M⟩ = .nx ⟨[.d (rl a), .d (rl b), .d (.int (lcp a b)), y, z, w], M⟩ := by
  have hl := lcp_le_l a b
  obtain ⟨s', h1, ⟨i, h2, rfl⟩, h3⟩ := while_inv (t := t1) (b := dSet 2 (dOp fAdd (dVar 2) (dC (.int 1)))) (fun s => ∃ i : Nat, i ≤ lcp a b ∧ s = ⟨[.d (rl a), .d (rl b), .d (.int i), y, z, w], M⟩)
    (fun s => lcp a b - at_ 2 s) (by
      rintro s ⟨i, hi, rfl⟩
      refine ⟨_, t1_ok a b i hi y z w M, fun hc => ?_⟩
      have hc := of_decide_eq_true hc
      refine ⟨⟨[.d (rl a), .d (rl b), .d (.int (i + 1 : Nat)), y, z, w], M⟩, ?_, ⟨i + 1, by omega, rfl⟩, ?_⟩
      · simp [dSeq, dIfS, dAnd, dOr, dNot, dB, dTru, tru, dOp, dUn, dC, dVar, dCb, aNil, aCons, dSet, dSetO, dRet, dRetN, dExp, dNext, dIxO, dLenO, rdL, getL, setL, setAt, dAugIx, dSetIx, dMut, mApp, mPop, mIns, R.bind, R.st, toB, fEq, fNe, fLt, fLe, fGt, fGe, fI, fA, fSub, fDiv, fMod, fPow, pSub, pDiv, pMod, pPow, fAdd, fMul, fIx, fLen, lenD, seqOf, DL.listOf, fInt, fIs, fIsNot, isN, fIsi, tyD, fNeg, vAnd, vOr, vNot, dChain, dIf, dTup, dLst, fDisp, lim, dCall, useF, S.set, iSeq, srcD, dFrz, S.frz, dLst]
      · simp [at_]; omega) whileMax ⟨[.d (rl a), .d (rl b), .d (.int (0 : Nat)), y, z, w], M⟩ (by simp [whileMax, at_]; omega) ⟨0, Nat.zero_le _, rfl⟩
  rw [t1_ok a b i h2 y z w M] at h3
  injection h3 with h3
  have h3 := of_decide_eq_false h3
  have : i = lcp a b := by omega
  subst this
  exact h1
theorem w2_ok (a b : List Row) (p : Nat) (ha : a.length ≤ 100) (hp1 : p ≤ a.length) (hp2 : p ≤ b.length) (z w : Slot) (M : List Cell) :
    dWhile whileMax t2 (dSet 3 (dOp fAdd (dVar 3) (dC (.int 1)))) ⟨[.d (rl a), .d (rl b), .d (.int p), .d (.int 0), z, w], M⟩ = .nx ⟨[.d (rl a), .d (rl b), .d (.int p), .d (.int (lce a b p)), z, w], M⟩ := by
  have hl := lce_le_l a b p
  obtain ⟨s', h1, ⟨i, h2, rfl⟩, h3⟩ := while_inv (t := t2) (b := dSet 3 (dOp fAdd (dVar 3) (dC (.int 1)))) (fun s => ∃ i : Nat, i ≤ lce a b p ∧ s = ⟨[.d (rl a), .d (rl b), .d (.int p), .d (.int i), z, w], M⟩)
    (fun s => lce a b p - at_ 3 s) (by
      rintro s ⟨i, hi, rfl⟩
      refine ⟨_, t2_ok a b p i hp1 hp2 hi z w M, fun hc => ?_⟩
      have hc := of_decide_eq_true hc
      refine ⟨⟨[.d (rl a), .d (rl b), .d (.int p), .d (.int (i + 1 : Nat)), z, w], M⟩, ?_, ⟨i + 1, by omega, rfl⟩, ?_⟩
      · simp [dSeq, dIfS, dAnd, dOr, dNot, dB, dTru, tru, dOp, dUn, dC, dVar, dCb, aNil, aCons, dSet, dSetO, dRet, dRetN, dExp, dNext, dIxO, dLenO, rdL, getL, setL, setAt, dAugIx, dSetIx, dMut, mApp, mPop, mIns, R.bind, R.st, toB, fEq, fNe, fLt, fLe, fGt, fGe, fI, fA, fSub, fDiv, fMod, fPow, pSub, pDiv, pMod, pPow, fAdd, fMul, fIx, fLen, lenD, seqOf, DL.listOf, fInt, fIs, fIsNot, isN, fIsi, tyD, fNeg, vAnd, vOr, vNot, dChain, dIf, dTup, dLst, fDisp, lim, dCall, useF, S.set, iSeq, srcD, dFrz, S.frz, dLst]
      · simp [at_]; omega) whileMax ⟨[.d (rl a), .d (rl b), .d (.int p), .d (.int (0 : Nat)), z, w], M⟩ (by simp [whileMax, at_]; omega) ⟨0, Nat.zero_le _, rfl⟩
  rw [t2_ok a b p i hp1 hp2 h2 z w M] at h3
  injection h3 with h3
  have h3 := of_decide_eq_false h3
  have : i = lce a b p := by omega
  subst this
  exact h1
def pick (k : Str) (a : List Row) : D → D
  | .int i => .tup [.str k, .int i, (atI (a.map rowD) i).getD .non]
  | d => d
theorem nums_all (lo c : Int) (n : Nat) (f : D → D) : ((nums lo c n).filter fun _ => true).map f = (List.range n).map fun i => f (.int (lo + (i : Nat) * c)) := by
  unfold nums
  rw [List.filter_eq_self.mpr (fun _ _ => rfl), List.map_map]; rfl
theorem outs_eq (a : List Row) (p e : Nat) (h : p + e ≤ a.length) :
    ((nums ((a.length : Int) - e - 1) (-1) (a.length - p - e)).filter fun _ => true).map (pick "out" a) = (ups false p (mid a p e)).reverse.map stepD := by
  rw [nums_all]
  refine List.ext_getElem? fun i => ?_
  rw [List.getElem?_map, List.getElem?_map]
  by_cases hi : i < a.length - p - e
  · rw [List.getElem?_range hi, List.getElem?_reverse (by rw [ups_len, mid_len _ _ _ h]; exact hi), ups_get, ups_len, mid_len _ _ _ h, mid_get, if_pos (by omega)]
    have e1 : p + (a.length - p - e - 1 - i) = a.length - e - 1 - i := by omega
    rw [e1, List.getElem?_eq_getElem (by omega)]
    have e2 : ((a.length : Int) - e - 1 + (i : Nat) * -1) = ((a.length - e - 1 - i : Nat) : Int) := by omega
    simp only [Option.map_some, pick, e2, atI_row (show a.length - e - 1 - i < a.length by omega), Option.getD_some, stepD]
    rfl
  · rw [List.getElem?_eq_none (by rw [List.length_range]; omega), List.getElem?_eq_none (by rw [List.length_reverse, ups_len, mid_len _ _ _ h]; omega)]
    rfl
theorem ins_eq (k : Bool) (z : Str) (hz : z = if k then ("in" : Str) else ("out" : Str)) (a : List Row) (p e : Nat) (h : p + e ≤ a.length) :
    ((nums (p : Int) 1 (a.length - p - e)).filter fun _ => true).map (pick z a) = (ups k p (mid a p e)).map stepD := by
  rw [nums_all]
  refine List.ext_getElem? fun i => ?_
  rw [List.getElem?_map, List.getElem?_map]
  by_cases hi : i < a.length - p - e
  · rw [List.getElem?_range hi, ups_get, mid_get, if_pos (by omega)]
    rw [List.getElem?_eq_getElem (by omega)]
    have e2 : ((p : Int) + (i : Nat) * 1) = ((p + i : Nat) : Int) := by omega
    simp only [Option.map_some, pick, e2, atI_row (show p + i < a.length by omega), Option.getD_some, stepD, hz]
  · rw [List.getElem?_eq_none (by rw [List.length_range]; omega), List.getElem?_eq_none (by rw [ups_len, mid_len _ _ _ h]; omega)]
    rfl
end K15

set_option maxHeartbeats 4000000
namespace K15
open PySem DL L2

def cOut : DenA := fLc (iRg 3 (aCons (dOp fSub (dOp fSub (dCb fLen (aCons (dVar 0) aNil)) (dVar 3)) (dC (.int 1))) (aCons (dOp fSub (dVar 2) (dC (.int 1))) (aCons (dUn fNeg (dC (.int 1))) aNil)))) [5] (gN 5) dYes (dTup (aCons (dC (.str "out")) (aCons (dVar 5) (aCons (dOp fIx (dVar 0) (dVar 5)) aNil))))
def cIn : DenA := fLc (iRg 2 (aCons (dVar 2) (aCons (dOp fSub (dCb fLen (aCons (dVar 1) aNil)) (dVar 3)) aNil))) [5] (gN 5) dYes (dTup (aCons (dC (.str "in")) (aCons (dVar 5) (aCons (dOp fIx (dVar 1) (dVar 5)) aNil))))
theorem sb_eq : b_steps_between = dSeq (dSet 2 (dC (.int 0))) (dSeq (dWhile whileMax t1 (dSet 2 (dOp fAdd (dVar 2) (dC (.int 1))))) (dSeq (dSet 3 (dC (.int 0))) (dSeq (dWhile whileMax t2 (dSet 3 (dOp fAdd (dVar 3) (dC (.int 1))))) (dSeq (dSet 4 (dLst cOut)) (dRet (dOp fAdd (dVar 4) (dLst cIn))))))) := rfl
theorem seq_nx {a b : SDen} {s s1 : S} (h : a s = .nx s1) : dSeq a b s = b s1 := by
  unfold dSeq; rw [h]
theorem mid_lt {a : List Row} {p e : Nat} {x : D} (lo c : Int) (n : Nat) (h : x ∈ nums lo c n) : ∃ i : Nat, i < n ∧ x = .int (lo + (i : Nat) * c) := by
  unfold nums at h
  obtain ⟨i, hi, rfl⟩ := List.mem_map.mp h
  exact ⟨i, List.mem_range.mp hi, rfl⟩
theorem c3 : 3 ≤ cap := by decide
theorem map_erase {α β : Type} (f : α → β) : ∀ (xs : List α) (i : Nat), (xs.map f).eraseIdx i = (xs.eraseIdx i).map f
  | [], _ => rfl
  | x :: xs, 0 => rfl
  | x :: xs, i + 1 => by simp [map_erase f xs i]
theorem cOut_ok (a b : List Row) (p e : Nat) (ha : a.length ≤ 100) (h : p + e ≤ a.length) (x y : Slot) (M : List Cell) :
    cOut ⟨[.d (rl a), .d (rl b), .d (.int p), .d (.int e), x, y], M⟩ = .ok ((ups false p (mid a p e)).reverse.map stepD) ⟨[.d (rl a), .d (rl b), .d (.int p), .d (.int e), x, dOnly (some y)], M⟩ := by
  have e0 : ((a.length : Int) - e - 1 - ((p : Int) - 1)).toNat = a.length - p - e := by omega
  have hr := rng3_ok (i := (a.length : Int) - e - 1) (j := (p : Int) - 1) (by omega) (by omega)
  rw [e0] at hr
  have := flc_pure (src := iRg 3 (aCons (dOp fSub (dOp fSub (dCb fLen (aCons (dVar 0) aNil)) (dVar 3)) (dC (.int 1))) (aCons (dOp fSub (dVar 2) (dC (.int 1))) (aCons (dUn fNeg (dC (.int 1))) aNil)))) (vs := [5]) (g := gN 5) (t := dYes) (e := dTup (aCons (dC (.str "out")) (aCons (dVar 5) (aCons (dOp fIx (dVar 0) (dVar 5)) aNil))))
    (s := ⟨[.d (rl a), .d (rl b), .d (.int p), .d (.int e), x, y], M⟩) (xs := nums ((a.length : Int) - e - 1) (-1) (a.length - p - e)) (fun _ => true) (pick "out" a)
    (by simp [rl, iRg, listI, hr, dSeq, dIfS, dAnd, dOr, dNot, dB, dTru, tru, dOp, dUn, dC, dVar, dCb, aNil, aCons, dSet, dSetO, dRet, dRetN, dExp, dNext, dIxO, dLenO, rdL, getL, setL, setAt, dAugIx, dSetIx, dMut, mApp, mPop, mIns, R.bind, R.st, toB, fEq, fNe, fLt, fLe, fGt, fGe, fI, fA, fSub, fDiv, fMod, fPow, pSub, pDiv, pMod, pPow, fAdd, fMul, fIx, fLen, lenD, seqOf, DL.listOf, fInt, fIs, fIsNot, isN, fIsi, tyD, fNeg, vAnd, vOr, vNot, dChain, dIf, dTup, dLst, fDisp, lim, dCall, useF, S.set, iSeq, srcD, dFrz, S.frz, dLst]) (by rw [nums_len]; unfold cap; omega) (by
      intro z hz
      obtain ⟨i, hi, rfl⟩ := mid_lt (a := a) (p := p) (e := e) _ _ _ hz
      have e2 : ((a.length : Int) - e - 1 + (i : Nat) * -1) = ((a.length - e - 1 - i : Nat) : Int) := by omega
      have hl : a.length - e - 1 - i < a.length := by omega
      rw [e2]
      refine ⟨_, rfl, ?_, rfl, fun _ => ?_⟩
      · rfl
      · simp [rl, pick, wipeS, c3, atI_row hl, dSeq, dIfS, dAnd, dOr, dNot, dB, dTru, tru, dOp, dUn, dC, dVar, dCb, aNil, aCons, dSet, dSetO, dRet, dRetN, dExp, dNext, dIxO, dLenO, rdL, getL, setL, setAt, dAugIx, dSetIx, dMut, mApp, mPop, mIns, R.bind, R.st, toB, fEq, fNe, fLt, fLe, fGt, fGe, fI, fA, fSub, fDiv, fMod, fPow, pSub, pDiv, pMod, pPow, fAdd, fMul, fIx, fLen, lenD, seqOf, DL.listOf, fInt, fIs, fIsNot, isN, fIsi, tyD, fNeg, vAnd, vOr, vNot, dChain, dIf, dTup, dLst, fDisp, lim, dCall, useF, S.set, iSeq, srcD, dFrz, S.frz, dLst])
  rw [outs_eq a p e h] at this
  exact this
theorem cIn_ok (a b : List Row) (p e : Nat) (hb : b.length ≤ 100) (h : p + e ≤ b.length) (x y : Slot) (M : List Cell) :
    cIn ⟨[.d (rl a), .d (rl b), .d (.int p), .d (.int e), x, y], M⟩ = .ok ((ups true p (mid b p e)).map stepD) ⟨[.d (rl a), .d (rl b), .d (.int p), .d (.int e), x, dOnly (some y)], M⟩ := by
  have e0 : ((b.length : Int) - e - (p : Int)).toNat = b.length - p - e := by omega
  have hr := rng2_ok (i := (p : Int)) (j := (b.length : Int) - e) (by omega) (by omega)
  rw [e0] at hr
  have := flc_pure (src := iRg 2 (aCons (dVar 2) (aCons (dOp fSub (dCb fLen (aCons (dVar 1) aNil)) (dVar 3)) aNil))) (vs := [5]) (g := gN 5) (t := dYes) (e := dTup (aCons (dC (.str "in")) (aCons (dVar 5) (aCons (dOp fIx (dVar 1) (dVar 5)) aNil))))
    (s := ⟨[.d (rl a), .d (rl b), .d (.int p), .d (.int e), x, y], M⟩) (xs := nums (p : Int) 1 (b.length - p - e)) (fun _ => true) (pick "in" b)
    (by simp [rl, iRg, listI, hr, dSeq, dIfS, dAnd, dOr, dNot, dB, dTru, tru, dOp, dUn, dC, dVar, dCb, aNil, aCons, dSet, dSetO, dRet, dRetN, dExp, dNext, dIxO, dLenO, rdL, getL, setL, setAt, dAugIx, dSetIx, dMut, mApp, mPop, mIns, R.bind, R.st, toB, fEq, fNe, fLt, fLe, fGt, fGe, fI, fA, fSub, fDiv, fMod, fPow, pSub, pDiv, pMod, pPow, fAdd, fMul, fIx, fLen, lenD, seqOf, DL.listOf, fInt, fIs, fIsNot, isN, fIsi, tyD, fNeg, vAnd, vOr, vNot, dChain, dIf, dTup, dLst, fDisp, lim, dCall, useF, S.set, iSeq, srcD, dFrz, S.frz, dLst]) (by rw [nums_len]; unfold cap; omega) (by
      intro z hz
      obtain ⟨i, hi, rfl⟩ := mid_lt (a := a) (p := p) (e := e) _ _ _ hz
      have e2 : ((p : Int) + (i : Nat) * 1) = ((p + i : Nat) : Int) := by omega
      have hl : p + i < b.length := by omega
      rw [e2]
      refine ⟨_, rfl, ?_, rfl, fun _ => ?_⟩
      · rfl
      · simp only [Int.natCast_add] at *
        have := atI_row hl
        simp only [Int.natCast_add] at this
        simp [rl, pick, wipeS, c3, this, dSeq, dIfS, dAnd, dOr, dNot, dB, dTru, tru, dOp, dUn, dC, dVar, dCb, aNil, aCons, dSet, dSetO, dRet, dRetN, dExp, dNext, dIxO, dLenO, rdL, getL, setL, setAt, dAugIx, dSetIx, dMut, mApp, mPop, mIns, R.bind, R.st, toB, fEq, fNe, fLt, fLe, fGt, fGe, fI, fA, fSub, fDiv, fMod, fPow, pSub, pDiv, pMod, pPow, fAdd, fMul, fIx, fLen, lenD, seqOf, DL.listOf, fInt, fIs, fIsNot, isN, fIsi, tyD, fNeg, vAnd, vOr, vNot, dChain, dIf, dTup, dLst, fDisp, lim, dCall, useF, S.set, iSeq, srcD, dFrz, S.frz, dLst])
  rw [ins_eq true "in" rfl b p e h] at this
  exact this
theorem steps_ok (a b : List Row) (ha : a.length ≤ 100) (hb : b.length ≤ 100) (M : List Cell) : f_steps_between [rl a, rl b] M = .ok (sl (stp a b)) M := by
  have h1 := lcp_le_l a b
  have h2 := lcp_le_r a b
  have h3 := lce_le_l a b (lcp a b)
  have h4 := lce_le_r a b (lcp a b)
  have hl : (ups false (lcp a b) (mid a (lcp a b) (lce a b (lcp a b)))).length ≤ 100 := by rw [ups_len, mid_len _ _ _ (by omega)]; omega
  have hl2 : (ups true (lcp a b) (mid b (lcp a b) (lce a b (lcp a b)))).length ≤ 100 := by rw [ups_len, mid_len _ _ _ (by omega)]; omega
  refine rt_run (s := ⟨[.d (rl a), .d (rl b), .d (.int (lcp a b)), .d (.int (lce a b (lcp a b))), .d (.lst ((ups false (lcp a b) (mid a (lcp a b) (lce a b (lcp a b)))).reverse.map stepD)), .no], M⟩) ?_ rfl
  show b_steps_between ⟨[.d (rl a), .d (rl b), .no, .no, .no, .no], M⟩ = _
  rw [sb_eq]
  refine (seq_nx (s1 := ⟨[.d (rl a), .d (rl b), .d (.int 0), .no, .no, .no], M⟩) (by rfl)).trans ?_
  refine (seq_nx (w1_ok a b ha _ _ _ M)).trans ?_
  refine (seq_nx (s1 := ⟨[.d (rl a), .d (rl b), .d (.int (lcp a b)), .d (.int 0), .no, .no], M⟩) (by rfl)).trans ?_
  refine (seq_nx (w2_ok a b _ ha h1 h2 _ _ M)).trans ?_
  refine (seq_nx (s1 := ⟨[.d (rl a), .d (rl b), .d (.int (lcp a b)), .d (.int (lce a b (lcp a b))), .d (.lst ((ups false (lcp a b) (mid a (lcp a b) (lce a b (lcp a b)))).reverse.map stepD)), .no], M⟩) ?_).trans ?_
  · unfold dSet dLst
    rw [cOut_ok a b _ _ ha (by omega)]
    rfl
  · unfold dRet dOp dLst
    simp only [dVar, List.getElem?_cons_succ, List.getElem?_cons_zero, R.bind, cIn_ok a b _ _ hb (show lcp a b + lce a b (lcp a b) ≤ b.length by omega), fAdd, DL.listOf]
    rw [if_pos (by simp only [List.length_map, List.length_reverse]; unfold cap; omega)]
    rw [← List.map_append]
    rfl

/-! ### steps done -/
def sLoop : SDen := (dSeq (dIfS (dOr (dTru (dUn (fIsi "bool") (dVar 4))) (dOr (dNot (dTru (dUn (fIsi "int") (dVar 4)))) (dNot (dB (dChain fLe fLe (dC (.int 0)) (dVar 4) (dLenO 2))))))
 (dRaise "InvalidPaper")
 dNext)
 (dIfS (dB (dOp fEq (dVar 3) (dC (.str "in"))))
 (dExp (dMut 2 mIns (aCons (dVar 4) (aCons (dVar 5) aNil))))
 (dIfS (dAnd (dB (dOp fEq (dVar 3) (dC (.str "out")))) (dAnd (dB (dOp fLt (dVar 4) (dLenO 2))) (dB (dOp fEq (dIxO 2 (dVar 4)) (dVar 5)))))
 (dExp (dMut 2 mPop (aCons (dVar 4) aNil)))
 (dRaise "InvalidPaper"))))
def sTgt : Tgt := (gT 3 (gsCons (gN 3) (gsCons (gN 4) (gsCons (gN 5) gsNil))))
theorem stepped_eq : b_stepped = dSeq (dSetO 2 (fun s => ((aCons (dVar 0) aNil) s).bind fList)) (dSeq (dFor (iSeq (dVar 1)) sTgt sLoop) (dFrz 2 (dRet (dVar 2)))) := rfl
theorem deq_str (a b : Str) : deq (.str a) (.str b) = decide (a = b) := by
  unfold deq
  simp only [py, PyData.eqv]
  exact Bool.beq_eq_decide_eq a b
theorem eqOk_str (a b : Str) : eqOk (.str a) (.str b) = true := rfl
theorem sTgt_ok (t : D) (i : Int) (k : Str) (A B : D) (o x y z : Slot) (M : List Cell) : sTgt (.tup [.str k, .int i, t]) ⟨[.d A, .d B, o, x, y, z], M⟩ = some ⟨[.d A, .d B, o, .d (.str k), .d (.int i), .d t], M⟩ := by
  simp [sTgt, gT, gsCons, gN, gsNil, S.set]
theorem in_ne : (("in" : Str) = ("out" : Str)) = False := by simp only [eq_iff_iff, iff_false]; decide
theorem out_ne : (("out" : Str) = ("in" : Str)) = False := by simp only [eq_iff_iff, iff_false]; decide
theorem sLoop_in (c : List Row) (k : Nat) (r : Row) (A B : D) (M : List Cell) (hk : k ≤ c.length) (hc : c.length < 1000) :
    sLoop ⟨[.d A, .d B, .own (.lst (c.map rowD)), .d (.str "in"), .d (.int k), .d (rowD r)], M⟩ = .nx ⟨[.d A, .d B, .own (.lst ((app1 c (true, k, r)).map rowD)), .d (.str "in"), .d (.int k), .d (rowD r)], M⟩ := by
  have h1 : c.length < cap := by unfold cap; omega
  have h2 : (k : Int) < 9223372036854775808 := by omega
  simp [sLoop, isiB, eqOk_str, deq_str, hk, h1, h2, app1, dSeq, dIfS, dAnd, dOr, dNot, dB, dTru, tru, dOp, dUn, dC, dVar, dCb, aNil, aCons, dSet, dSetO, dRet, dRetN, dExp, dNext, dIxO, dLenO, rdL, getL, setL, setAt, dAugIx, dSetIx, dMut, mApp, mPop, mIns, R.bind, R.st, toB, fEq, fNe, fLt, fLe, fGt, fGe, fI, fA, fSub, fDiv, fMod, fPow, pSub, pDiv, pMod, pPow, fAdd, fMul, fIx, fLen, lenD, seqOf, DL.listOf, fInt, fIs, fIsNot, isN, fIsi, tyD, fNeg, vAnd, vOr, vNot, dChain, dIf, dTup, dLst, fDisp, lim, dCall, useF, S.set, iSeq, srcD, dFrz, S.frz, dLst]
theorem sLoop_out (c : List Row) (k : Nat) (r : Row) (A B : D) (M : List Cell) (hk : c[k]? = some r) (hc : c.length < 1000) :
    sLoop ⟨[.d A, .d B, .own (.lst (c.map rowD)), .d (.str "out"), .d (.int k), .d (rowD r)], M⟩ = .nx ⟨[.d A, .d B, .own (.lst ((app1 c (false, k, r)).map rowD)), .d (.str "out"), .d (.int k), .d (rowD r)], M⟩ := by
  obtain ⟨h0, h3⟩ := List.getElem?_eq_some_iff.mp hk
  have h1 : c.length < cap := by unfold cap; omega
  have h2 : (k : Int) < 9223372036854775808 := by omega
  have h4 : k ≤ c.length := by omega
  have h5 : seqIndex? (k : Int) c.length = some k := (ixN_seq (by unfold ixN; rw [if_pos (by omega), if_pos (by omega)]; rfl)).1
  have h6 : -9223372036854775808 ≤ (k : Int) := by omega
  simp [sLoop, isiB, eqOk_str, deq_str, out_ne, h0, h1, h2, h4, h5, h6, hk, h3, atI_row h0, eqOk_row, deq_row, app1, dSeq, dIfS, dAnd, dOr, dNot, dB, dTru, tru, dOp, dUn, dC, dVar, dCb, aNil, aCons, dSet, dSetO, dRet, dRetN, dExp, dNext, dIxO, dLenO, rdL, getL, setL, setAt, dAugIx, dSetIx, dMut, mApp, mPop, mIns, R.bind, R.st, toB, fEq, fNe, fLt, fLe, fGt, fGe, fI, fA, fSub, fDiv, fMod, fPow, pSub, pDiv, pMod, pPow, fAdd, fMul, fIx, fLen, lenD, seqOf, DL.listOf, fInt, fIs, fIsNot, isN, fIsi, tyD, fNeg, vAnd, vOr, vNot, dChain, dIf, dTup, dLst, fDisp, lim, dCall, useF, S.set, iSeq, srcD, dFrz, S.frz, dLst]
  exact map_erase ..
theorem app1_len (c : List Row) (t : Stp) : (app1 c t).length ≤ c.length + 1 := by
  unfold app1
  split
  · simp; omega
  · have := List.length_eraseIdx_le c t.2.1
    omega
theorem stepped_for (A B : D) (M : List Cell) : ∀ (ts : List Stp) (c : List Row) (x y z : Slot), fits c ts → c.length + ts.length < 1000 → ∃ x' y' z', forL sTgt sLoop (ts.map stepD) ⟨[.d A, .d B, .own (.lst (c.map rowD)), x, y, z], M⟩ = .nx ⟨[.d A, .d B, .own (.lst ((ts.foldl app1 c).map rowD)), x', y', z'], M⟩
  | [], c, x, y, z, _, _ => ⟨x, y, z, rfl⟩
  | (k, i, r) :: ts, c, x, y, z, h, hl => by
    rw [List.length_cons] at hl
    have hl2 := app1_len c (k, i, r)
    obtain ⟨x', y', z', e⟩ := stepped_for A B M ts (app1 c (k, i, r)) (.d (.str (if k then "in" else "out"))) (.d (.int i)) (.d (rowD r)) h.2 (by omega)
    refine ⟨x', y', z', ?_⟩
    rw [List.map_cons]
    unfold forL
    rw [stepD, sTgt_ok]
    have hf := h.1
    cases k with
    | true =>
      simp only [if_true] at e ⊢
      rw [sLoop_in c i r A B M (by simpa [fit1] using hf) (by omega)]
      exact e
    | false =>
      simp only [Bool.false_eq_true, if_false] at e ⊢
      rw [sLoop_out c i r A B M (by simpa [fit1] using hf) (by omega)]
      exact e
theorem stepped_ok (a : List Row) (ts : List Stp) (M : List Cell) (h : fits a ts) (hl : a.length + ts.length < 1000) : f_stepped [rl a, sl ts] M = .ok (rl (ts.foldl app1 a)) M := by
  obtain ⟨x', y', z', e⟩ := stepped_for (rl a) (sl ts) M ts a .no .no .no h hl
  refine rt_run (s := ⟨[.d (rl a), .d (sl ts), .d (rl (ts.foldl app1 a)), x', y', z'], M⟩) ?_ rfl
  have h1 : a.length ≤ cap := by unfold cap; omega
  have h2 : ts.length ≤ sizeLine := cap_le (by unfold cap; omega)
  rw [stepped_eq, seq_nx (s1 := ⟨[.d (rl a), .d (sl ts), .own (.lst (a.map rowD)), .no, .no, .no], M⟩), seq_nx (s1 := ⟨[.d (rl a), .d (sl ts), .own (.lst ((ts.foldl app1 a).map rowD)), x', y', z'], M⟩)]
  · rfl
  · have hs : iSeq (dVar 1) ⟨[.d (rl a), .d (sl ts), .own (.lst (a.map rowD)), .no, .no, .no], M⟩ = .ok (ts.map stepD) ⟨[.d (rl a), .d (sl ts), .own (.lst (a.map rowD)), .no, .no, .no], M⟩ := rfl
    unfold dFor
    rw [hs]
    simp only [R.st, List.length_map]
    rw [if_pos h2, e]
  · simp [rl, h1, fList, dSeq, dIfS, dAnd, dOr, dNot, dB, dTru, tru, dOp, dUn, dC, dVar, dCb, aNil, aCons, dSet, dSetO, dRet, dRetN, dExp, dNext, dIxO, dLenO, rdL, getL, setL, setAt, dAugIx, dSetIx, dMut, mApp, mPop, mIns, R.bind, R.st, toB, fEq, fNe, fLt, fLe, fGt, fGe, fI, fA, fSub, fDiv, fMod, fPow, pSub, pDiv, pMod, pPow, fAdd, fMul, fIx, fLen, lenD, seqOf, DL.listOf, fInt, fIs, fIsNot, isN, fIsi, tyD, fNeg, vAnd, vOr, vNot, dChain, dIf, dTup, dLst, fDisp, lim, dCall, useF, S.set, iSeq, srcD, dFrz, S.frz, dLst]
theorem stp_stepped (a b : List Row) (M : List Cell) (ha : a.length ≤ 100) (hb : b.length ≤ 100) : f_stepped [rl a, sl (stp a b)] M = .ok (rl b) M := by
  have := stp_len a b
  rw [stepped_ok a _ M (stp_ok a b).1 (by omega), (stp_ok a b).2]
end K15

set_option maxHeartbeats 4000000
namespace K15
open PySem DL L2

theorem rt_pure {b : SDen} {n : Nat} {args : List D} {M : List Cell} {d : D} (ρ : List Slot) (h : b ⟨args.map Slot.d ++ List.replicate (n - args.length) Slot.no, M⟩ = .rt d ⟨ρ, M⟩) : runF n b args M = .ok d M := rt_run h rfl
/-! ### turned -/
def flipD : D → D
  | .tup [.str k, i, r] => .tup [.str (if k = ("out" : Str) then "in" else "out"), i, r]
  | d => d
theorem flipD_step (t : Stp) : flipD (stepD t) = stepD (!t.1, t.2) := by
  obtain ⟨k, i, r⟩ := t
  cases k <;> simp [flipD, stepD, in_ne]
theorem turned_ok (s : List Stp) (hl : s.length ≤ 1000) (M : List Cell) : f_turned [sl s] M = .ok (sl (turn s)) M := by
  have := flc_pure (src := iRv (aCons (dVar 0) aNil)) (vs := [1, 2, 3]) (g := (gT 3 (gsCons (gN 1) (gsCons (gN 2) (gsCons (gN 3) gsNil))))) (t := dYes)
    (e := (dTup (aCons (dIf (dB (dOp fEq (dVar 1) (dC (.str "out")))) (dC (.str "in")) (dC (.str "out"))) (aCons (dVar 2) (aCons (dVar 3) aNil)))))
    (s := ⟨[.d (sl s), .no, .no, .no], M⟩) (xs := (s.map stepD).reverse) (fun _ => true) flipD (by simp [sl, iRv, dSeq, dIfS, dAnd, dOr, dNot, dB, dTru, tru, dOp, dUn, dC, dVar, dCb, aNil, aCons, dSet, dSetO, dRet, dRetN, dExp, dNext, dIxO, dLenO, rdL, getL, setL, setAt, dAugIx, dSetIx, dMut, mApp, mPop, mIns, R.bind, R.st, toB, fEq, fNe, fLt, fLe, fGt, fGe, fI, fA, fSub, fDiv, fMod, fPow, pSub, pDiv, pMod, pPow, fAdd, fMul, fIx, fLen, lenD, seqOf, DL.listOf, fInt, fIs, fIsNot, isN, fIsi, tyD, fNeg, vAnd, vOr, vNot, dChain, dIf, dTup, dLst, fDisp, lim, dCall, useF, S.set, iSeq, srcD, dFrz, S.frz, dLst]) (by simp; unfold cap; omega) (by
      intro x hx
      obtain ⟨t, ht, rfl⟩ := List.mem_map.mp (List.mem_reverse.mp hx)
      obtain ⟨k, i, r⟩ := t
      refine ⟨⟨[.d (sl s), .d (.str (if k then "in" else "out")), .d (.int i), .d (rowD r)], M⟩, ?_, rfl, rfl, fun _ => ?_⟩
      · simp [stepD, wipeS, gT, gsCons, gN, gsNil, S.set]
      · rw [flipD_step]
        cases k <;> simp [stepD, eqOk_str, deq_str, in_ne, c3, dSeq, dIfS, dAnd, dOr, dNot, dB, dTru, tru, dOp, dUn, dC, dVar, dCb, aNil, aCons, dSet, dSetO, dRet, dRetN, dExp, dNext, dIxO, dLenO, rdL, getL, setL, setAt, dAugIx, dSetIx, dMut, mApp, mPop, mIns, R.bind, R.st, toB, fEq, fNe, fLt, fLe, fGt, fGe, fI, fA, fSub, fDiv, fMod, fPow, pSub, pDiv, pMod, pPow, fAdd, fMul, fIx, fLen, lenD, seqOf, DL.listOf, fInt, fIs, fIsNot, isN, fIsi, tyD, fNeg, vAnd, vOr, vNot, dChain, dIf, dTup, dLst, fDisp, lim, dCall, useF, S.set, iSeq, srcD, dFrz, S.frz, dLst])
  refine rt_pure [.d (sl s), .no, .no, .no] ?_
  · show b_turned ⟨[.d (sl s), .no, .no, .no], M⟩ = _
    unfold b_turned dRet dLst
    rw [this]
    simp only [R.bind, R.st]
    have e : (List.map flipD (List.filter (fun _ => true) (List.map stepD s).reverse)) = (turn s).map stepD := by
      rw [List.filter_eq_self.mpr (fun _ _ => rfl)]
      unfold turn
      rw [← List.map_reverse, List.map_map, List.map_map]
      refine List.map_congr_left fun t _ => flipD_step t
    rw [e]
    rfl

/-! ### folded -/
def Chain (M : List Cell) : List Row → List (List Stp) → List Row → Prop
  | a, [], z => a = z
  | a, ts :: tss, z => ∃ b, f_stepped [rl a, sl ts] M = .ok (rl b) M ∧ Chain M b tss z
def fBody : SDen := (dSet 2 (dCall f_stepped [] (aCons (dVar 2) (aCons (dVar 3) aNil))))
theorem folded_for (A B : D) (M : List Cell) : ∀ (tss : List (List Stp)) (c z : List Row) (x : Slot), Chain M c tss z → ∃ x', forL (gN 3) fBody (tss.map sl) ⟨[.d A, .d B, .d (rl c), x], M⟩ = .nx ⟨[.d A, .d B, .d (rl z), x'], M⟩
  | [], c, z, x, h => ⟨x, by rw [show c = z from h]; rfl⟩
  | ts :: tss, c, z, x, ⟨b, h1, h2⟩ => by
    obtain ⟨x', e⟩ := folded_for A B M tss b z (.d (sl ts)) h2
    refine ⟨x', ?_⟩
    rw [List.map_cons]
    unfold forL
    simp only [gN, S.set, List.set_cons_succ, List.set_cons_zero, fBody, dSet, dCall, aCons, aNil, dVar, R.bind, List.getElem?_cons_succ, List.getElem?_cons_zero, List.append_nil, h1, useF, R.st]
    exact e
theorem folded_ok (a z : List Row) (tss : List (List Stp)) (M : List Cell) (h : Chain M a tss z) (ha : a.length ≤ 100) (hl : tss.length ≤ 100) : f_folded [rl a, .lst (tss.map sl)] M = .ok (rl z) M := by
  obtain ⟨x', e⟩ := folded_for (rl a) (.lst (tss.map sl)) M tss a z .no h
  have h1 : a.length ≤ cap := by unfold cap; omega
  have h2 : tss.length ≤ sizeLine := cap_le (by unfold cap; omega)
  refine rt_pure [.d (rl a), .d (.lst (tss.map sl)), .d (rl z), x'] ?_
  show dSeq _ (dSeq (dFor (iSeq (dVar 1)) (gN 3) fBody) _) ⟨[.d (rl a), .d (.lst (tss.map sl)), .no, .no], M⟩ = _
  refine (seq_nx (s1 := ⟨[.d (rl a), .d (.lst (tss.map sl)), .d (rl a), .no], M⟩) ?_).trans ((seq_nx (s1 := ⟨[.d (rl a), .d (.lst (tss.map sl)), .d (rl z), x'], M⟩) ?_).trans ?_)
  · simp [rl, h1, fList, dSeq, dIfS, dAnd, dOr, dNot, dB, dTru, tru, dOp, dUn, dC, dVar, dCb, aNil, aCons, dSet, dSetO, dRet, dRetN, dExp, dNext, dIxO, dLenO, rdL, getL, setL, setAt, dAugIx, dSetIx, dMut, mApp, mPop, mIns, R.bind, R.st, toB, fEq, fNe, fLt, fLe, fGt, fGe, fI, fA, fSub, fDiv, fMod, fPow, pSub, pDiv, pMod, pPow, fAdd, fMul, fIx, fLen, lenD, seqOf, DL.listOf, fInt, fIs, fIsNot, isN, fIsi, tyD, fNeg, vAnd, vOr, vNot, dChain, dIf, dTup, dLst, fDisp, lim, dCall, useF, S.set, iSeq, srcD, dFrz, S.frz, dLst]
  · have hs : iSeq (dVar 1) ⟨[.d (rl a), .d (.lst (tss.map sl)), .d (rl a), .no], M⟩ = .ok (tss.map sl) ⟨[.d (rl a), .d (.lst (tss.map sl)), .d (rl a), .no], M⟩ := rfl
    unfold dFor
    rw [hs]
    simp only [R.st, List.length_map]
    rw [if_pos h2, e]
  · rfl

/-! ### the law's own steps -/
theorem count_lt : ∀ (n L : Nat), L ≤ n → ((List.range n).filter fun i => decide (i < L)).length = L
  | 0, L, h => by simp; omega
  | n + 1, L, h => by
    rw [List.range_succ, List.filter_append, List.length_append]
    by_cases q : L ≤ n
    · rw [count_lt n L q, List.filter_cons_of_neg (by simp; omega)]; simp
    · have e : L = n + 1 := by omega
      subst e
      rw [List.filter_cons_of_pos (by simp), List.filter_eq_self.mpr (by intro i hi; have := List.mem_range.mp hi; simp; omega)]
      simp
theorem count_nums (lo : Int) (n L : Nat) (p : D → Bool) (f : D → D) (hL : L ≤ n) (h : ∀ i : Nat, i < n → p (.int (lo + (i : Nat) * 1)) = decide (i < L)) : (((nums lo 1 n).filter p).map f).length = L := by
  unfold nums
  rw [List.length_map, List.filter_map, List.length_map]
  rw [show List.filter (p ∘ fun i : Nat => D.int (lo + (i : Nat) * 1)) (List.range n) = List.filter (fun i => decide (i < L)) (List.range n) from List.filter_congr fun i hi => h i (List.mem_range.mp hi)]
  exact count_lt n L hL
theorem sIx_some {n d k : Nat} (h : k ≤ n) : HT.sIx n d (some (k : Int)) = k := by rw [HT.sIx_nat]; omega
theorem cut_to {α : Type} (xs : List α) (k : Nat) (h : k ≤ xs.length) : cutD xs none (some (k : Int)) = xs.take k := by
  unfold cutD
  rw [sIx_some h, HT.sIx_none]; simp
theorem cut_from {α : Type} (xs : List α) (k : Nat) (h : k ≤ xs.length) : cutD xs (some (k : Int)) none = xs.drop k := by
  unfold cutD
  rw [sIx_some h, HT.sIx_none]
  exact List.take_of_length_le (by simp)
theorem iRg_ok {k : Nat} {da : DenA} {s s1 : S} {xs ys : List D} {ns : List Int} (h1 : da s = .ok xs s1) (h2 : listI xs = some ns) (h3 : rng k ns = some ys) : iRg k da s = .ok ys s1 := by
  unfold iRg
  rw [h1, R.bind_ok, h2, Option.bind_some, h3]
def cPre : DenA := (fLc (iRg 1 (aCons (dCb fMin (aCons (dCb fLen (aCons (dVar 0) aNil)) (aCons (dCb fLen (aCons (dVar 1) aNil)) aNil))) aNil)) [6] (gN 6) (dB (dOp fEq (dSl (dVar 0) oNo (oPart (dOp fAdd (dVar 6) (dC (.int 1))))) (dSl (dVar 1) oNo (oPart (dOp fAdd (dVar 6) (dC (.int 1))))))) (dVar 6))
def cSuf : DenA := (fLc (iRg 2 (aCons (dC (.int 1)) (aCons (dOp fAdd (dVar 3) (dC (.int 1))) aNil))) [6] (gN 6) (dB (dOp fEq (dSl (dVar 0) (oPart (dOp fSub (dCb fLen (aCons (dVar 0) aNil)) (dVar 6))) oNo) (dSl (dVar 1) (oPart (dOp fSub (dCb fLen (aCons (dVar 1) aNil)) (dVar 6))) oNo))) (dVar 6))
def cO : DenA := (fLc (iRg 2 (aCons (dVar 2) (aCons (dOp fSub (dCb fLen (aCons (dVar 0) aNil)) (dVar 4)) aNil))) [6] (gN 6) dYes (dTup (aCons (dC (.str "out")) (aCons (dVar 6) (aCons (dOp fIx (dVar 0) (dVar 6)) aNil)))))
def cI : DenA := (fLc (iRg 2 (aCons (dVar 2) (aCons (dOp fSub (dCb fLen (aCons (dVar 1) aNil)) (dVar 4)) aNil))) [6] (gN 6) dYes (dTup (aCons (dC (.str "in")) (aCons (dVar 6) (aCons (dOp fIx (dVar 1) (dVar 6)) aNil)))))
theorem ls_eq : b__law_steps = dSeq (dSet 2 (dCb fLen (aCons (dLst cPre) aNil))) (dSeq (dSet 3 (dOp fSub (dCb fMin (aCons (dCb fLen (aCons (dVar 0) aNil)) (aCons (dCb fLen (aCons (dVar 1) aNil)) aNil))) (dVar 2))) (dSeq (dSet 4 (dCb fLen (aCons (dLst cSuf) aNil))) (dSeq (dSet 5 (dLst cO)) (dRet (dOp fAdd (dUn fRev (dVar 5)) (dLst cI)))))) := rfl
theorem min_int (m n : Nat) : (if (n : Int) < (m : Int) then (n : Int) else (m : Int)) = ((min m n : Nat) : Int) := by
  split <;> omega
theorem cPre_ok (a b : List Row) (ha : a.length ≤ 100) (hb : b.length ≤ 100) (w x y z v : Slot) (M : List Cell) :
    ∃ ys, cPre ⟨[.d (rl a), .d (rl b), w, x, y, z, v], M⟩ = .ok ys ⟨[.d (rl a), .d (rl b), w, x, y, z, dOnly (some v)], M⟩ ∧ ys.length = lcp a b := by
  have hl := lcp_le_l a b
  have hm := lcp_le_r a b
  have hr := rng1_ok (j := ((min a.length b.length : Nat) : Int)) (by omega)
  rw [Int.toNat_natCast] at hr
  have := flc_pure (src := (iRg 1 (aCons (dCb fMin (aCons (dCb fLen (aCons (dVar 0) aNil)) (aCons (dCb fLen (aCons (dVar 1) aNil)) aNil))) aNil))) (vs := [6]) (g := gN 6) (t := (dB (dOp fEq (dSl (dVar 0) oNo (oPart (dOp fAdd (dVar 6) (dC (.int 1))))) (dSl (dVar 1) oNo (oPart (dOp fAdd (dVar 6) (dC (.int 1)))))))) (e := dVar 6)
    (s := ⟨[.d (rl a), .d (rl b), w, x, y, z, v], M⟩) (xs := nums 0 1 (min a.length b.length))
    (fun d => match d with
      | .int k => decide (a.take (k + 1).toNat = b.take (k + 1).toNat)
      | _ => false) id (by
      simp only [rl, iRg, aCons, aNil, dCb, dVar, fLen, lenD, seqOf, DL.listOf, R.bind, List.getElem?_cons_succ, List.getElem?_cons_zero, Option.map_some, List.length_map, fMin, fI2, listI, min_int, Option.bind_some, hr]) (by rw [nums_len]; unfold cap; omega) (by
      intro q hq
      obtain ⟨i, hi, rfl⟩ := mid_lt (a := a) (p := 0) (e := 0) _ _ _ hq
      have e2 : ((0 : Int) + (i : Nat) * 1) = (i : Int) := by omega
      have e3 : ((i : Int) + 1) = ((i + 1 : Nat) : Int) := by omega
      rw [e2]
      refine ⟨_, rfl, rfl, ?_, fun _ => ?_⟩
      · simp only [wipeS, gN, S.set, List.set_cons_succ, List.set_cons_zero, rl, dB, dOp, dSl, dVar, R.bind, List.getElem?_cons_succ, List.getElem?_cons_zero, oNo, oPart, fAdd, dC, fSl, DL.listOf, e3, toB]
        rw [cut_to _ _ (by simp; omega), cut_to _ _ (by simp; omega), ← List.map_take, ← List.map_take]
        simp only [fEq, eqOk_rl, if_true, deq_rl, R.bind, Int.toNat_natCast, toB]
      · rfl)
  refine ⟨_, this, ?_⟩
  refine count_nums 0 _ (lcp a b) _ _ (by omega) fun i hi => ?_
  have e2 : ((0 : Int) + (i : Nat) * 1) = (i : Int) := by omega
  have e3 : ((i : Int) + 1).toNat = i + 1 := by omega
  simp only [e2, e3, lcp_take_eq a b (i + 1) (by omega) (by omega)]
  exact decide_eq_decide.mpr (by omega)
theorem drop_lcp (a b : List Row) (k : Nat) (h1 : k ≤ a.length) (h2 : k ≤ b.length) : a.drop (a.length - k) = b.drop (b.length - k) ↔ k ≤ lcp a.reverse b.reverse := by
  rw [← lcp_take_eq a.reverse b.reverse k (by simpa using h1) (by simpa using h2), List.take_reverse, List.take_reverse, List.reverse_inj]
theorem cSuf_ok (a b : List Row) (p : Nat) (ha : a.length ≤ 100) (hb : b.length ≤ 100) (hp1 : p ≤ a.length) (hp2 : p ≤ b.length) (m : Nat) (hmm : m = min a.length b.length - p) (w y z v : Slot) (M : List Cell) :
    ∃ ys, cSuf ⟨[.d (rl a), .d (rl b), w, .d (.int (m : Int)), y, z, v], M⟩ = .ok ys ⟨[.d (rl a), .d (rl b), w, .d (.int (m : Int)), y, z, dOnly (some v)], M⟩ ∧ ys.length = lce a b p := by
  have hl := lce_le_l a b p
  have hm := lce_le_r a b p
  have hr := rng2_ok (i := 1) (j := (m : Int) + 1) (by omega) (by omega)
  rw [show ((m : Int) + 1 - 1).toNat = m by omega] at hr
  have := flc_pure (src := (iRg 2 (aCons (dC (.int 1)) (aCons (dOp fAdd (dVar 3) (dC (.int 1))) aNil)))) (vs := [6]) (g := gN 6) (t := (dB (dOp fEq (dSl (dVar 0) (oPart (dOp fSub (dCb fLen (aCons (dVar 0) aNil)) (dVar 6))) oNo) (dSl (dVar 1) (oPart (dOp fSub (dCb fLen (aCons (dVar 1) aNil)) (dVar 6))) oNo)))) (e := dVar 6)
    (s := ⟨[.d (rl a), .d (rl b), w, .d (.int (m : Int)), y, z, v], M⟩) (xs := nums 1 1 (m))
    (fun d => match d with
      | .int k => decide (a.drop (a.length - k.toNat) = b.drop (b.length - k.toNat))
      | _ => false) id (by
      refine iRg_ok (xs := [.int 1, .int ((m : Int) + 1)]) (by rfl) (by rfl) hr) (by rw [nums_len]; unfold cap; omega) (by
      intro q hq
      obtain ⟨i, hi, rfl⟩ := mid_lt (a := a) (p := 0) (e := 0) _ _ _ hq
      have e2 : ((1 : Int) + (i : Nat) * 1) = ((i + 1 : Nat) : Int) := by omega
      have e3 : ((a.length : Int) - ((i + 1 : Nat) : Int)) = ((a.length - (i + 1) : Nat) : Int) := by omega
      have e4 : ((b.length : Int) - ((i + 1 : Nat) : Int)) = ((b.length - (i + 1) : Nat) : Int) := by omega
      rw [e2]
      refine ⟨_, rfl, rfl, ?_, fun _ => ?_⟩
      · simp only [wipeS, gN, S.set, List.set_cons_succ, List.set_cons_zero, rl, dB, dOp, dSl, dVar, R.bind, List.getElem?_cons_succ, List.getElem?_cons_zero, oNo, oPart, fAdd, dC, fSl, DL.listOf, toB, dCb, aCons, aNil, fLen, lenD, seqOf, Option.map_some, List.length_map, fSub, fA, pSub, e3, e4]
        rw [cut_from _ _ (by simp), cut_from _ _ (by simp), ← List.map_drop, ← List.map_drop]
        simp only [fEq, eqOk_rl, if_true, deq_rl, R.bind, Int.toNat_natCast, toB]
      · rfl)
  refine ⟨_, this, ?_⟩
  refine count_nums 1 _ (lce a b p) _ _ (by omega) fun i hi => ?_
  have e2 : ((1 : Int) + (i : Nat) * 1) = ((i + 1 : Nat) : Int) := by omega
  simp only [e2, Int.toNat_natCast, drop_lcp a b (i + 1) (by omega) (by omega)]
  exact decide_eq_decide.mpr (by rw [lce_eq]; omega)
theorem cO_ok (a b : List Row) (p e : Nat) (ha : a.length ≤ 100) (h : p + e ≤ a.length) (w y v : Slot) (M : List Cell) :
    cO ⟨[.d (rl a), .d (rl b), .d (.int p), w, .d (.int e), y, v], M⟩ = .ok ((ups false p (mid a p e)).map stepD) ⟨[.d (rl a), .d (rl b), .d (.int p), w, .d (.int e), y, dOnly (some v)], M⟩ := by
  have e0 : ((a.length : Int) - e - (p : Int)).toNat = a.length - p - e := by omega
  have hr := rng2_ok (i := (p : Int)) (j := (a.length : Int) - e) (by omega) (by omega)
  rw [e0] at hr
  have := flc_pure (src := iRg 2 (aCons (dVar 2) (aCons (dOp fSub (dCb fLen (aCons (dVar 0) aNil)) (dVar 4)) aNil))) (vs := [6]) (g := gN 6) (t := dYes) (e := dTup (aCons (dC (.str "out")) (aCons (dVar 6) (aCons (dOp fIx (dVar 0) (dVar 6)) aNil))))
    (s := ⟨[.d (rl a), .d (rl b), .d (.int p), w, .d (.int e), y, v], M⟩) (xs := nums (p : Int) 1 (a.length - p - e)) (fun _ => true) (pick "out" a)
    (by simp [rl, iRg, listI, hr, dSeq, dIfS, dAnd, dOr, dNot, dB, dTru, tru, dOp, dUn, dC, dVar, dCb, aNil, aCons, dSet, dSetO, dRet, dRetN, dExp, dNext, dIxO, dLenO, rdL, getL, setL, setAt, dAugIx, dSetIx, dMut, mApp, mPop, mIns, R.bind, R.st, toB, fEq, fNe, fLt, fLe, fGt, fGe, fI, fA, fSub, fDiv, fMod, fPow, pSub, pDiv, pMod, pPow, fAdd, fMul, fIx, fLen, lenD, seqOf, DL.listOf, fInt, fIs, fIsNot, isN, fIsi, tyD, fNeg, vAnd, vOr, vNot, dChain, dIf, dTup, dLst, fDisp, lim, dCall, useF, S.set, iSeq, srcD, dFrz, S.frz, dLst]) (by rw [nums_len]; unfold cap; omega) (by
      intro z hz
      obtain ⟨i, hi, rfl⟩ := mid_lt (a := a) (p := p) (e := e) _ _ _ hz
      have e2 : ((p : Int) + (i : Nat) * 1) = ((p + i : Nat) : Int) := by omega
      have hl : p + i < a.length := by omega
      rw [e2]
      refine ⟨_, rfl, ?_, rfl, fun _ => ?_⟩
      · rfl
      · have := atI_row hl
        simp only [Int.natCast_add] at this
        simp [rl, pick, wipeS, c3, this, dSeq, dIfS, dAnd, dOr, dNot, dB, dTru, tru, dOp, dUn, dC, dVar, dCb, aNil, aCons, dSet, dSetO, dRet, dRetN, dExp, dNext, dIxO, dLenO, rdL, getL, setL, setAt, dAugIx, dSetIx, dMut, mApp, mPop, mIns, R.bind, R.st, toB, fEq, fNe, fLt, fLe, fGt, fGe, fI, fA, fSub, fDiv, fMod, fPow, pSub, pDiv, pMod, pPow, fAdd, fMul, fIx, fLen, lenD, seqOf, DL.listOf, fInt, fIs, fIsNot, isN, fIsi, tyD, fNeg, vAnd, vOr, vNot, dChain, dIf, dTup, dLst, fDisp, lim, dCall, useF, S.set, iSeq, srcD, dFrz, S.frz, dLst])
  rw [ins_eq false "out" rfl a p e h] at this
  exact this
theorem cI_ok (a b : List Row) (p e : Nat) (hb : b.length ≤ 100) (h : p + e ≤ b.length) (w y v : Slot) (M : List Cell) :
    cI ⟨[.d (rl a), .d (rl b), .d (.int p), w, .d (.int e), y, v], M⟩ = .ok ((ups true p (mid b p e)).map stepD) ⟨[.d (rl a), .d (rl b), .d (.int p), w, .d (.int e), y, dOnly (some v)], M⟩ := by
  have e0 : ((b.length : Int) - e - (p : Int)).toNat = b.length - p - e := by omega
  have hr := rng2_ok (i := (p : Int)) (j := (b.length : Int) - e) (by omega) (by omega)
  rw [e0] at hr
  have := flc_pure (src := iRg 2 (aCons (dVar 2) (aCons (dOp fSub (dCb fLen (aCons (dVar 1) aNil)) (dVar 4)) aNil))) (vs := [6]) (g := gN 6) (t := dYes) (e := dTup (aCons (dC (.str "in")) (aCons (dVar 6) (aCons (dOp fIx (dVar 1) (dVar 6)) aNil))))
    (s := ⟨[.d (rl a), .d (rl b), .d (.int p), w, .d (.int e), y, v], M⟩) (xs := nums (p : Int) 1 (b.length - p - e)) (fun _ => true) (pick "in" b)
    (by simp [rl, iRg, listI, hr, dSeq, dIfS, dAnd, dOr, dNot, dB, dTru, tru, dOp, dUn, dC, dVar, dCb, aNil, aCons, dSet, dSetO, dRet, dRetN, dExp, dNext, dIxO, dLenO, rdL, getL, setL, setAt, dAugIx, dSetIx, dMut, mApp, mPop, mIns, R.bind, R.st, toB, fEq, fNe, fLt, fLe, fGt, fGe, fI, fA, fSub, fDiv, fMod, fPow, pSub, pDiv, pMod, pPow, fAdd, fMul, fIx, fLen, lenD, seqOf, DL.listOf, fInt, fIs, fIsNot, isN, fIsi, tyD, fNeg, vAnd, vOr, vNot, dChain, dIf, dTup, dLst, fDisp, lim, dCall, useF, S.set, iSeq, srcD, dFrz, S.frz, dLst]) (by rw [nums_len]; unfold cap; omega) (by
      intro z hz
      obtain ⟨i, hi, rfl⟩ := mid_lt (a := a) (p := p) (e := e) _ _ _ hz
      have e2 : ((p : Int) + (i : Nat) * 1) = ((p + i : Nat) : Int) := by omega
      have hl : p + i < b.length := by omega
      rw [e2]
      refine ⟨_, rfl, ?_, rfl, fun _ => ?_⟩
      · rfl
      · have := atI_row hl
        simp only [Int.natCast_add] at this
        simp [rl, pick, wipeS, c3, this, dSeq, dIfS, dAnd, dOr, dNot, dB, dTru, tru, dOp, dUn, dC, dVar, dCb, aNil, aCons, dSet, dSetO, dRet, dRetN, dExp, dNext, dIxO, dLenO, rdL, getL, setL, setAt, dAugIx, dSetIx, dMut, mApp, mPop, mIns, R.bind, R.st, toB, fEq, fNe, fLt, fLe, fGt, fGe, fI, fA, fSub, fDiv, fMod, fPow, pSub, pDiv, pMod, pPow, fAdd, fMul, fIx, fLen, lenD, seqOf, DL.listOf, fInt, fIs, fIsNot, isN, fIsi, tyD, fNeg, vAnd, vOr, vNot, dChain, dIf, dTup, dLst, fDisp, lim, dCall, useF, S.set, iSeq, srcD, dFrz, S.frz, dLst])
  rw [ins_eq true "in" rfl b p e h] at this
  exact this
theorem law_steps_ok (a b : List Row) (ha : a.length ≤ 100) (hb : b.length ≤ 100) (M : List Cell) : f__law_steps [rl a, rl b] M = .ok (sl (stp a b)) M := by
  have h1 := lcp_le_l a b
  have h2 := lcp_le_r a b
  have h3 := lce_le_l a b (lcp a b)
  have h4 := lce_le_r a b (lcp a b)
  have hl : (ups false (lcp a b) (mid a (lcp a b) (lce a b (lcp a b)))).length ≤ 100 := by rw [ups_len, mid_len _ _ _ (by omega)]; omega
  have hl2 : (ups true (lcp a b) (mid b (lcp a b) (lce a b (lcp a b)))).length ≤ 100 := by rw [ups_len, mid_len _ _ _ (by omega)]; omega
  obtain ⟨ys, c1, l1⟩ := cPre_ok a b ha hb .no .no .no .no .no M
  obtain ⟨zs, c2, l2⟩ := cSuf_ok a b (lcp a b) ha hb h1 h2 _ rfl (.d (.int (lcp a b))) .no .no .no M
  refine rt_pure [.d (rl a), .d (rl b), .d (.int (lcp a b)), .d (.int ((min a.length b.length - lcp a b : Nat) : Int)), .d (.int (lce a b (lcp a b))), .d (sl (ups false (lcp a b) (mid a (lcp a b) (lce a b (lcp a b))))), .no] ?_
  show b__law_steps ⟨[.d (rl a), .d (rl b), .no, .no, .no, .no, .no], M⟩ = _
  rw [ls_eq]
  refine (seq_nx (s1 := ⟨[.d (rl a), .d (rl b), .d (.int (lcp a b)), .no, .no, .no, .no], M⟩) ?_).trans ?_
  · unfold dSet dCb aCons dLst
    rw [c1]
    simp only [R.bind, aNil, fLen, lenD, seqOf, DL.listOf, Option.map_some, l1, R.st]
    rfl
  refine (seq_nx (s1 := ⟨[.d (rl a), .d (rl b), .d (.int (lcp a b)), .d (.int ((min a.length b.length - lcp a b : Nat) : Int)), .no, .no, .no], M⟩) ?_).trans ?_
  · have e : ((min a.length b.length : Nat) : Int) - (lcp a b : Int) = ((min a.length b.length - lcp a b : Nat) : Int) := by omega
    simp only [rl, dSet, dOp, aCons, aNil, dCb, dVar, fLen, lenD, seqOf, DL.listOf, R.bind, List.getElem?_cons_succ, List.getElem?_cons_zero, Option.map_some, List.length_map, fMin, fI2, listI, min_int, fSub, fA, pSub, R.st, e]
    rfl
  refine (seq_nx (s1 := ⟨[.d (rl a), .d (rl b), .d (.int (lcp a b)), .d (.int ((min a.length b.length - lcp a b : Nat) : Int)), .d (.int (lce a b (lcp a b))), .no, .no], M⟩) ?_).trans ?_
  · unfold dSet dCb aCons dLst
    rw [c2]
    simp only [R.bind, aNil, fLen, lenD, seqOf, DL.listOf, Option.map_some, l2, R.st]
    rfl
  refine (seq_nx (s1 := ⟨[.d (rl a), .d (rl b), .d (.int (lcp a b)), .d (.int ((min a.length b.length - lcp a b : Nat) : Int)), .d (.int (lce a b (lcp a b))), .d (sl (ups false (lcp a b) (mid a (lcp a b) (lce a b (lcp a b))))), .no], M⟩) ?_).trans ?_
  · unfold dSet dLst
    rw [cO_ok a b _ _ ha (by omega)]
    rfl
  · unfold dRet dOp dLst dUn
    simp only [dVar, List.getElem?_cons_succ, List.getElem?_cons_zero, R.bind, fRev, DL.listOf, cI_ok a b _ _ hb (show lcp a b + lce a b (lcp a b) ≤ b.length by omega), fAdd]
    rw [if_pos (by simp only [List.length_map, List.length_reverse]; unfold cap; omega)]
    rw [← List.map_reverse, ← List.map_append]
    rfl

/-! ### steps that do not fit -/
theorem stepped_ex (a : List Row) (k : Str) (i : Int) (r : D) (M : List Cell) (ha : a.length ≤ 100)
    (h : sLoop ⟨[.d (rl a), .d (.lst [.tup [.str k, .int i, r]]), .own (.lst (a.map rowD)), .d (.str k), .d (.int i), .d r], M⟩ = .ex "InvalidPaper" ⟨[.d (rl a), .d (.lst [.tup [.str k, .int i, r]]), .own (.lst (a.map rowD)), .d (.str k), .d (.int i), .d r], M⟩) :
    f_stepped [rl a, .lst [.tup [.str k, .int i, r]]] M = .ex "InvalidPaper" M := by
  have h1 : a.length ≤ cap := by unfold cap; omega
  have h2 : (1 : Nat) ≤ sizeLine := by decide
  have e : b_stepped ⟨[.d (rl a), .d (.lst [.tup [.str k, .int i, r]]), .no, .no, .no, .no], M⟩ = .ex "InvalidPaper" ⟨[.d (rl a), .d (.lst [.tup [.str k, .int i, r]]), .own (.lst (a.map rowD)), .d (.str k), .d (.int i), .d r], M⟩ := by
    rw [stepped_eq]
    refine (seq_nx (s1 := ⟨[.d (rl a), .d (.lst [.tup [.str k, .int i, r]]), .own (.lst (a.map rowD)), .no, .no, .no], M⟩) ?_).trans ?_
    · simp [rl, h1, fList, dSeq, dIfS, dAnd, dOr, dNot, dB, dTru, tru, dOp, dUn, dC, dVar, dCb, aNil, aCons, dSet, dSetO, dRet, dRetN, dExp, dNext, dIxO, dLenO, rdL, getL, setL, setAt, dAugIx, dSetIx, dMut, mApp, mPop, mIns, R.bind, R.st, toB, fEq, fNe, fLt, fLe, fGt, fGe, fI, fA, fSub, fDiv, fMod, fPow, pSub, pDiv, pMod, pPow, fAdd, fMul, fIx, fLen, lenD, seqOf, DL.listOf, fInt, fIs, fIsNot, isN, fIsi, tyD, fNeg, vAnd, vOr, vNot, dChain, dIf, dTup, dLst, fDisp, lim, dCall, useF, S.set, iSeq, srcD, dFrz, S.frz, dLst]
    · have hs : iSeq (dVar 1) ⟨[.d (rl a), .d (.lst [.tup [.str k, .int i, r]]), .own (.lst (a.map rowD)), .no, .no, .no], M⟩ = .ok [.tup [.str k, .int i, r]] ⟨[.d (rl a), .d (.lst [.tup [.str k, .int i, r]]), .own (.lst (a.map rowD)), .no, .no, .no], M⟩ := rfl
      unfold dSeq dFor
      rw [hs]
      simp only [R.st, List.length_cons, List.length_nil]
      rw [if_pos h2]
      unfold forL
      rw [sTgt_ok]
      simp only [h]
  show runF 6 b_stepped _ M = _
  unfold runF
  show (match b_stepped ⟨[.d (rl a), .d (.lst [.tup [.str k, .int i, r]]), .no, .no, .no, .no], M⟩ with
    | .rt d s => FR.ok d s.M
    | .nx s => .ok .non s.M
    | .ex c s => .ex c s.M
    | _ => .no) = _
  rw [e]
theorem unfit_ok (a : List Row) (k : Str) (i : Int) (r : D) (M : List Cell) (h : f_stepped [rl a, .lst [.tup [.str k, .int i, r]]] M = .ex "InvalidPaper" M) : f__law_is_unfit [rl a, .lst [.tup [.str k, .int i, r]]] M = .ok (.bl true) M := by
  refine rt_pure [.d (rl a), .d (.lst [.tup [.str k, .int i, r]])] ?_
  show b__law_is_unfit ⟨[.d (rl a), .d (.lst [.tup [.str k, .int i, r]])], M⟩ = _
  have hl : tbl_InvalidPaper.lookup ("InvalidPaper" : Str) = some true := by decide
  unfold b__law_is_unfit dSeq dTry dExp dCall
  simp only [aCons, aNil, dVar, R.bind, List.getElem?_cons_succ, List.getElem?_cons_zero, List.append_nil, h, useF, R.st, hl, dRet, dC, SR.hard]
theorem bad_out (a : List Row) (r : D) (M : List Cell) (ha : a.length ≤ 100) : f_stepped [rl a, .lst [.tup [.str "out", .int a.length, r]]] M = .ex "InvalidPaper" M := by
  refine stepped_ex a _ _ _ M ha ?_
  simp [sLoop, isiB, eqOk_str, deq_str, out_ne, dRaise, dSeq, dIfS, dAnd, dOr, dNot, dB, dTru, tru, dOp, dUn, dC, dVar, dCb, aNil, aCons, dSet, dSetO, dRet, dRetN, dExp, dNext, dIxO, dLenO, rdL, getL, setL, setAt, dAugIx, dSetIx, dMut, mApp, mPop, mIns, R.bind, R.st, toB, fEq, fNe, fLt, fLe, fGt, fGe, fI, fA, fSub, fDiv, fMod, fPow, pSub, pDiv, pMod, pPow, fAdd, fMul, fIx, fLen, lenD, seqOf, DL.listOf, fInt, fIs, fIsNot, isN, fIsi, tyD, fNeg, vAnd, vOr, vNot, dChain, dIf, dTup, dLst, fDisp, lim, dCall, useF, S.set, iSeq, srcD, dFrz, S.frz, dLst]
theorem bad_in (a : List Row) (r : D) (M : List Cell) (ha : a.length ≤ 100) : f_stepped [rl a, .lst [.tup [.str "in", .int (a.length + 1), r]]] M = .ex "InvalidPaper" M := by
  refine stepped_ex a _ _ _ M ha ?_
  have h : ¬ ((a.length : Int) + 1 ≤ a.length) := by omega
  have h0 : (0 : Int) ≤ (a.length : Int) + 1 := by omega
  simp [sLoop, isiB, eqOk_str, deq_str, out_ne, h, h0, dRaise, dSeq, dIfS, dAnd, dOr, dNot, dB, dTru, tru, dOp, dUn, dC, dVar, dCb, aNil, aCons, dSet, dSetO, dRet, dRetN, dExp, dNext, dIxO, dLenO, rdL, getL, setL, setAt, dAugIx, dSetIx, dMut, mApp, mPop, mIns, R.bind, R.st, toB, fEq, fNe, fLt, fLe, fGt, fGe, fI, fA, fSub, fDiv, fMod, fPow, pSub, pDiv, pMod, pPow, fAdd, fMul, fIx, fLen, lenD, seqOf, DL.listOf, fInt, fIs, fIsNot, isN, fIsi, tyD, fNeg, vAnd, vOr, vNot, dChain, dIf, dTup, dLst, fDisp, lim, dCall, useF, S.set, iSeq, srcD, dFrz, S.frz, dLst]
theorem bad_neg (a : List Row) (r : D) (M : List Cell) (ha : a.length ≤ 100) : f_stepped [rl a, .lst [.tup [.str "in", .int (-1), r]]] M = .ex "InvalidPaper" M := by
  refine stepped_ex a _ _ _ M ha ?_
  simp [sLoop, isiB, eqOk_str, deq_str, out_ne, dRaise, dSeq, dIfS, dAnd, dOr, dNot, dB, dTru, tru, dOp, dUn, dC, dVar, dCb, aNil, aCons, dSet, dSetO, dRet, dRetN, dExp, dNext, dIxO, dLenO, rdL, getL, setL, setAt, dAugIx, dSetIx, dMut, mApp, mPop, mIns, R.bind, R.st, toB, fEq, fNe, fLt, fLe, fGt, fGe, fI, fA, fSub, fDiv, fMod, fPow, pSub, pDiv, pMod, pPow, fAdd, fMul, fIx, fLen, lenD, seqOf, DL.listOf, fInt, fIs, fIsNot, isN, fIsi, tyD, fNeg, vAnd, vOr, vNot, dChain, dIf, dTup, dLst, fDisp, lim, dCall, useF, S.set, iSeq, srcD, dFrz, S.frz, dLst]
theorem bad_off (a : List Row) (r : D) (M : List Cell) (ha : a.length ≤ 100) : f_stepped [rl a, .lst [.tup [.str "off", .int 0, r]]] M = .ex "InvalidPaper" M := by
  refine stepped_ex a _ _ _ M ha ?_
  have o1 : (("off" : Str) = ("out" : Str)) = False := by simp only [eq_iff_iff, iff_false]; decide
  have o2 : (("off" : Str) = ("in" : Str)) = False := by simp only [eq_iff_iff, iff_false]; decide
  simp [sLoop, isiB, eqOk_str, deq_str, o1, o2, dRaise, dSeq, dIfS, dAnd, dOr, dNot, dB, dTru, tru, dOp, dUn, dC, dVar, dCb, aNil, aCons, dSet, dSetO, dRet, dRetN, dExp, dNext, dIxO, dLenO, rdL, getL, setL, setAt, dAugIx, dSetIx, dMut, mApp, mPop, mIns, R.bind, R.st, toB, fEq, fNe, fLt, fLe, fGt, fGe, fI, fA, fSub, fDiv, fMod, fPow, pSub, pDiv, pMod, pPow, fAdd, fMul, fIx, fLen, lenD, seqOf, DL.listOf, fInt, fIs, fIsNot, isN, fIsi, tyD, fNeg, vAnd, vOr, vNot, dChain, dIf, dTup, dLst, fDisp, lim, dCall, useF, S.set, iSeq, srcD, dFrz, S.frz, dLst]
theorem bad_row (a : List Row) (r : Row) (M : List Cell) (ha : a.length ≤ 100) (hr : ∀ x ∈ a, x ≠ r) : f_stepped [rl a, .lst [.tup [.str "out", .int 0, rowD r]]] M = .ex "InvalidPaper" M := by
  refine stepped_ex a _ _ _ M ha ?_
  cases a with
  | nil => simp [sLoop, isiB, eqOk_str, deq_str, out_ne, dRaise, dSeq, dIfS, dAnd, dOr, dNot, dB, dTru, tru, dOp, dUn, dC, dVar, dCb, aNil, aCons, dSet, dSetO, dRet, dRetN, dExp, dNext, dIxO, dLenO, rdL, getL, setL, setAt, dAugIx, dSetIx, dMut, mApp, mPop, mIns, R.bind, R.st, toB, fEq, fNe, fLt, fLe, fGt, fGe, fI, fA, fSub, fDiv, fMod, fPow, pSub, pDiv, pMod, pPow, fAdd, fMul, fIx, fLen, lenD, seqOf, DL.listOf, fInt, fIs, fIsNot, isN, fIsi, tyD, fNeg, vAnd, vOr, vNot, dChain, dIf, dTup, dLst, fDisp, lim, dCall, useF, S.set, iSeq, srcD, dFrz, S.frz, dLst]
  | cons x a =>
    have h : atI ((x :: a).map rowD) 0 = some (rowD x) := atI_row (xs := x :: a) (i := 0) (by simp)
    have hx := hr x List.mem_cons_self
    simp only [List.map_cons] at h
    have hp : (0 : Int) < (a.length : Int) + 1 := by omega
    have hq : (0 : Int) ≤ (a.length : Int) + 1 := by omega
    simp [sLoop, isiB, eqOk_str, deq_str, out_ne, h, hx, hp, hq, eqOk_row, deq_row, dRaise, dSeq, dIfS, dAnd, dOr, dNot, dB, dTru, tru, dOp, dUn, dC, dVar, dCb, aNil, aCons, dSet, dSetO, dRet, dRetN, dExp, dNext, dIxO, dLenO, rdL, getL, setL, setAt, dAugIx, dSetIx, dMut, mApp, mPop, mIns, R.bind, R.st, toB, fEq, fNe, fLt, fLe, fGt, fGe, fI, fA, fSub, fDiv, fMod, fPow, pSub, pDiv, pMod, pPow, fAdd, fMul, fIx, fLen, lenD, seqOf, DL.listOf, fInt, fIs, fIsNot, isN, fIsi, tyD, fNeg, vAnd, vOr, vNot, dChain, dIf, dTup, dLst, fDisp, lim, dCall, useF, S.set, iSeq, srcD, dFrz, S.frz, dLst]
end K15

set_option maxHeartbeats 4000000
namespace K15
open PySem DL L2

def base3 : List Row := [("a", 1), ("b", 2), ("a", 2)]
def Good (a : List Row) : Prop := ∀ x ∈ a, x ∈ base3
theorem draw {r : RSt} (ok : r.Ok) {L : Int} (hL : 0 < L) (hL2 : L < 1000) : ∃ (v : Nat) (r' : RSt), f__law_next [.ptr 0, .int L] [r.cell] = .ok (.int v) [r'.cell] ∧ (v : Int) < L ∧ r'.Ok := by
  obtain ⟨v, r', e, h1, h2, ok', _⟩ := next_ok ok (M := [r.cell]) (n := 0) rfl hL (by omega)
  refine ⟨v.toNat, r', ?_, by omega, ok'⟩
  rw [Int.toNat_of_nonneg h1]
  exact e
theorem base_str {x : Row} (h : x ∈ base3) : x.1.length ≤ cap := by
  simp only [base3, List.mem_cons, List.mem_nil_iff, or_false] at h
  rcases h with rfl | rfl | rfl <;> decide
theorem sm_row {x : Row} (h : x ∈ base3) : Sm 1 (rowD x) := .tup (show 2 ≤ cap by decide) (by
  intro y hy
  simp only [List.mem_cons, List.mem_nil_iff, or_false] at hy
  rcases hy with rfl | rfl
  · exact .str (base_str h)
  · exact .int)
theorem sm_rl {a : List Row} (h : Good a) (hl : a.length ≤ 100) : Sm 2 (rl a) := .lst (by simp; unfold cap; omega) (by
  intro y hy
  obtain ⟨x, hx, rfl⟩ := List.mem_map.mp hy
  exact sm_row (h x hx))
def GoodS (s : List Stp) : Prop := ∀ t ∈ s, t.2.2 ∈ base3
theorem sm_stp {t : Stp} (h : t.2.2 ∈ base3) : Sm 2 (stepD t) := .tup (show 3 ≤ cap by decide) (by
  intro y hy
  simp only [List.mem_cons, List.mem_nil_iff, or_false] at hy
  rcases hy with rfl | rfl | rfl
  · exact .str (by split <;> decide)
  · exact .int
  · exact (sm_row h))
theorem sm_sl {s : List Stp} (h : GoodS s) (hl : s.length ≤ 1000) : Sm 3 (sl s) := .lst (by simp; unfold cap; omega) (by
  intro y hy
  obtain ⟨x, hx, rfl⟩ := List.mem_map.mp hy
  exact sm_stp (h x hx))
theorem same_rl {a : List Row} (h : Good a) (hl : a.length ≤ 100) (M : List Cell) : f__law_same [rl a, rl a] M = .ok (.bl true) M := f_same_ok M (sm_rl h hl) (by decide)
theorem same_sl {s : List Stp} (h : GoodS s) (hl : s.length ≤ 1000) (M : List Cell) : f__law_same [sl s, sl s] M = .ok (.bl true) M := f_same_ok M (sm_sl h hl) (by decide)
theorem good_mid {a : List Row} (h : Good a) (p e : Nat) : Good (mid a p e) := fun x hx => h x (List.mem_of_mem_drop (List.mem_of_mem_take hx))
theorem good_stp {a b : List Row} (ha : Good a) (hb : Good b) : GoodS (stp a b) := by
  intro t ht
  rcases List.mem_append.mp ht with q | q
  · exact good_mid ha _ _ _ (ups_place _ _ _ t (List.mem_reverse.mp q)).2
  · exact good_mid hb _ _ _ (ups_place _ _ _ t q).2
theorem good_ne {a : List Row} (h : Good a) (y : Row) (hy : y ∉ base3) : Notin y a := fun x hx e => hy (e ▸ h x hx)
theorem iRg1_ok {da : Den} {s s1 : S} {n : Nat} (h : da s = .ok (.int n) s1) (hn : n ≤ 1000) : iRg 1 (aCons da aNil) s = .ok (nums 0 1 n) s1 := by
  refine iRg_ok (xs := [.int n]) (ns := [(n : Int)]) ?_ rfl ?_
  · unfold aCons aNil
    rw [h]; rfl
  · have := rng1_ok (j := (n : Int)) (by omega)
    rw [Int.toNat_natCast] at this; exact this
theorem base_at {v : Nat} (h : (v : Int) < 3) : ∃ x, x ∈ base3 ∧ atI (base3.map rowD) (v : Int) = some (rowD x) := by
  have hl : v < base3.length := by show v < 3; omega
  exact ⟨base3[v], List.getElem_mem hl, atI_row hl⟩

/-! ### lists drawn -/
def mkRows : DenA := (fLc (iRg 1 (aCons (dCall f__law_next [] (aCons (dVar 1) (aCons (dC (.int 13)) aNil))) aNil)) [6] (gN 6) dYes (dOp fIx (dVar 2) (dCall f__law_next [] (aCons (dVar 1) (aCons (dC (.int 3)) aNil)))))
theorem mkRows_ok (ns : List Int) (x4 x5 x6 x7 x8 x9 x10 x11 x12 x13 x14 x15 x16 x17 x18 x19 x20 : Slot) (o : Slot) (r : RSt) (ok : r.Ok) : ∃ (zs : List Row) (r' : RSt) (x : Slot), mkRows ⟨[.d (.rol ns), .d (.ptr 0), .d (rl base3), o, x4, x5, x6, x7, x8, x9, x10, x11, x12, x13, x14, x15, x16, x17, x18, x19, x20], [RSt.cell r]⟩ = .ok (zs.map rowD) ⟨[.d (.rol ns), .d (.ptr 0), .d (rl base3), o, x4, x5, x, x7, x8, x9, x10, x11, x12, x13, x14, x15, x16, x17, x18, x19, x20], [RSt.cell r']⟩ ∧ r'.Ok ∧ Good zs ∧ zs.length ≤ 12 := by
  obtain ⟨v, r1, e1, hv, ok1⟩ := draw ok (L := 13) (by decide) (by decide)
  have hsrc := iRg1_ok (da := dCall f__law_next [] (aCons (dVar 1) (aCons (dC (.int 13)) aNil))) (s := ⟨[.d (.rol ns), .d (.ptr 0), .d (rl base3), o, x4, x5, x6, x7, x8, x9, x10, x11, x12, x13, x14, x15, x16, x17, x18, x19, x20], [RSt.cell r]⟩) (s1 := ⟨[.d (.rol ns), .d (.ptr 0), .d (rl base3), o, x4, x5, x6, x7, x8, x9, x10, x11, x12, x13, x14, x15, x16, x17, x18, x19, x20], [RSt.cell r1]⟩) (n := v) (by simp [e1, dSeq, dIfS, dAnd, dOr, dNot, dB, dTru, tru, dOp, dUn, dC, dVar, dCb, aNil, aCons, dSet, dSetO, dRet, dRetN, dExp, dNext, dIxO, dLenO, rdL, getL, setL, setAt, dAugIx, dSetIx, dMut, mApp, mPop, mIns, R.bind, R.st, toB, fEq, fNe, fLt, fLe, fGt, fGe, fI, fA, fSub, fDiv, fMod, fPow, pSub, pDiv, pMod, pPow, fAdd, fMul, fIx, fLen, lenD, seqOf, DL.listOf, fInt, fIs, fIsNot, isN, fIsi, tyD, fNeg, vAnd, vOr, vNot, dChain, dIf, dTup, dLst, fDisp, lim, dCall, useF, S.set, iSeq, srcD, dFrz, S.frz, dSl, oNo, oPart, fSl, fRev]) (by omega)
  obtain ⟨ys, s', h1, h2⟩ := flc_inv (vs := [6]) (g := gN 6) (t := dYes) (e := (dOp fIx (dVar 2) (dCall f__law_next [] (aCons (dVar 1) (aCons (dC (.int 3)) aNil))))) hsrc (by rw [nums_len]; unfold cap; omega)
    (fun i ys s => ∃ (zs : List Row) (r' : RSt) (x : Slot), r'.Ok ∧ ys = zs.map rowD ∧ zs.length = i ∧ Good zs ∧ s = ⟨[.d (.rol ns), .d (.ptr 0), .d (rl base3), o, x4, x5, x, x7, x8, x9, x10, x11, x12, x13, x14, x15, x16, x17, x18, x19, x20], [RSt.cell r']⟩) ⟨[], r1, _, ok1, rfl, rfl, fun _ h => by simp at h, rfl⟩ (by
      rintro i x ys s hx ⟨zs, r2, y, ok2, rfl, hl, hg, rfl⟩
      obtain ⟨u, r3, e3, hu, ok3⟩ := draw ok2 (L := 3) (by decide) (by decide)
      obtain ⟨q, hq, e4⟩ := base_at hu
      refine ⟨_, rfl, true, _, rfl, fun _ => ⟨rowD q, ⟨[.d (.rol ns), .d (.ptr 0), .d (rl base3), o, x4, x5, .d x, x7, x8, x9, x10, x11, x12, x13, x14, x15, x16, x17, x18, x19, x20], [RSt.cell r3]⟩, ?_, zs ++ [q], r3, _, ok3, by simp, by simp [hl], ?_, rfl⟩, fun h => absurd h (by decide)⟩
      · simp [wipeS, gN, e3, e4, dSeq, dIfS, dAnd, dOr, dNot, dB, dTru, tru, dOp, dUn, dC, dVar, dCb, aNil, aCons, dSet, dSetO, dRet, dRetN, dExp, dNext, dIxO, dLenO, rdL, getL, setL, setAt, dAugIx, dSetIx, dMut, mApp, mPop, mIns, R.bind, R.st, toB, fEq, fNe, fLt, fLe, fGt, fGe, fI, fA, fSub, fDiv, fMod, fPow, pSub, pDiv, pMod, pPow, fAdd, fMul, fIx, fLen, lenD, seqOf, DL.listOf, fInt, fIs, fIsNot, isN, fIsi, tyD, fNeg, vAnd, vOr, vNot, dChain, dIf, dTup, dLst, fDisp, lim, dCall, useF, S.set, iSeq, srcD, dFrz, S.frz, dSl, oNo, oPart, fSl, fRev]
      · intro w hw
        rcases List.mem_append.mp hw with g | g
        · exact hg w g
        · rw [List.mem_singleton.mp g]; exact hq)
  obtain ⟨zs, r', x, ok', rfl, hl, hg, rfl⟩ := h2
  rw [nums_len] at hl
  exact ⟨zs, r', dOnly (some x6), h1, ok', hg, by omega⟩
def edit : SDen := (dSeq (dSet 7 (dCall f__law_next [] (aCons (dVar 1) (aCons (dOp fAdd (dCb fLen (aCons (dVar 5) aNil)) (dC (.int 1))) aNil))))
 (dIfS (dB (dOp fEq (dCall f__law_next [] (aCons (dVar 1) (aCons (dC (.int 2)) aNil))) (dC (.int 0))))
 (dSet 5 (dOp fAdd (dOp fAdd (dSl (dVar 5) oNo (oPart (dVar 7))) (dLst (fDisp (aCons (dOp fIx (dVar 2) (dCall f__law_next [] (aCons (dVar 1) (aCons (dC (.int 3)) aNil)))) aNil)))) (dSl (dVar 5) (oPart (dVar 7)) oNo)))
 (dSet 5 (dOp fAdd (dSl (dVar 5) oNo (oPart (dVar 7))) (dSl (dVar 5) (oPart (dOp fAdd (dVar 7) (dC (.int 1)))) oNo)))))
theorem cut_past {α : Type} (xs : List α) (k : Nat) : cutD xs (some (k : Int)) none = xs.drop k := by
  unfold cutD
  rw [HT.sIx_nat, HT.sIx_none]
  by_cases h : k ≤ xs.length
  · rw [show min k xs.length = k by omega]; exact List.take_of_length_le (by simp)
  · rw [show min k xs.length = xs.length by omega, List.drop_eq_nil_of_le (show xs.length ≤ k by omega)]; simp
theorem edit_ok (ns : List Int) (x4 x5 x6 x7 x8 x9 x10 x11 x12 x13 x14 x15 x16 x17 x18 x19 x20 : Slot) (o : Slot) (r : RSt) (ok : r.Ok) (w : List Row) (hg : Good w) (hw : w.length ≤ 50) : ∃ (w' : List Row) (r' : RSt) (x : Slot), edit ⟨[.d (.rol ns), .d (.ptr 0), .d (rl base3), o, x4, .d (rl w), x6, x7, x8, x9, x10, x11, x12, x13, x14, x15, x16, x17, x18, x19, x20], [RSt.cell r]⟩ = .nx ⟨[.d (.rol ns), .d (.ptr 0), .d (rl base3), o, x4, .d (rl w'), x6, x, x8, x9, x10, x11, x12, x13, x14, x15, x16, x17, x18, x19, x20], [RSt.cell r']⟩ ∧ r'.Ok ∧ Good w' ∧ w'.length ≤ w.length + 1 := by
  obtain ⟨v, r1, e1, hv, ok1⟩ := draw ok (L := (w.length : Int) + 1) (by omega) (by omega)
  obtain ⟨c, r2, e2, hc, ok2⟩ := draw ok1 (L := 2) (by decide) (by decide)
  obtain ⟨u, r3, e3, hu, ok3⟩ := draw ok2 (L := 3) (by decide) (by decide)
  obtain ⟨q, hq, e4⟩ := base_at hu
  have hv2 : v ≤ w.length := by omega
  have n1 : w.length ≤ cap := by unfold cap; omega
  have cc : (1 : Nat) ≤ cap := by decide
  have c1 : cutD (w.map rowD) none (some (v : Int)) = (w.take v).map rowD := by rw [cut_to _ _ (by simpa using hv2), List.map_take]
  have c2 : cutD (w.map rowD) (some (v : Int)) none = (w.drop v).map rowD := by rw [cut_past, List.map_drop]
  have c4 : cutD (w.map rowD) (some ((v : Int) + 1)) none = (w.drop (v + 1)).map rowD := by
    have := cut_past (w.map rowD) (v + 1)
    rw [Int.natCast_add] at this
    rw [List.map_drop]; exact this
  unfold edit
  have step1 : dSet 7 (dCall f__law_next [] (aCons (dVar 1) (aCons (dOp fAdd (dCb fLen (aCons (dVar 5) aNil)) (dC (.int 1))) aNil))) ⟨[.d (.rol ns), .d (.ptr 0), .d (rl base3), o, x4, .d (rl w), x6, x7, x8, x9, x10, x11, x12, x13, x14, x15, x16, x17, x18, x19, x20], [RSt.cell r]⟩ = .nx ⟨[.d (.rol ns), .d (.ptr 0), .d (rl base3), o, x4, .d (rl w), x6, .d (.int v), x8, x9, x10, x11, x12, x13, x14, x15, x16, x17, x18, x19, x20], [RSt.cell r1]⟩ := by
    simp [rl, e1, dSeq, dIfS, dAnd, dOr, dNot, dB, dTru, tru, dOp, dUn, dC, dVar, dCb, aNil, aCons, dSet, dSetO, dRet, dRetN, dExp, dNext, dIxO, dLenO, rdL, getL, setL, setAt, dAugIx, dSetIx, dMut, mApp, mPop, mIns, R.bind, R.st, toB, fEq, fNe, fLt, fLe, fGt, fGe, fI, fA, fSub, fDiv, fMod, fPow, pSub, pDiv, pMod, pPow, fAdd, fMul, fIx, fLen, lenD, seqOf, DL.listOf, fInt, fIs, fIsNot, isN, fIsi, tyD, fNeg, vAnd, vOr, vNot, dChain, dIf, dTup, dLst, fDisp, lim, dCall, useF, S.set, iSeq, srcD, dFrz, S.frz, dSl, oNo, oPart, fSl, fRev]
  by_cases hc0 : c = 0
  · subst hc0
    refine ⟨w.take v ++ [q] ++ w.drop v, r3, .d (.int v), (seq_nx step1).trans ?_, ok3, ?_, ?_⟩
    · have m1 : min v w.length + 1 + (w.length - v) ≤ cap := by unfold cap; omega
      have m2 : min v w.length + 1 ≤ cap := by unfold cap; omega
      have m3 : min v w.length + (w.length - v + 1) ≤ cap := by unfold cap; omega
      have e2' : f__law_next [.ptr 0, .int 2] [r1.cell] = .ok (.int 0) [r2.cell] := e2
      simp [rl, e2', e3, e4, c1, c2, deq_int, eqOk_int, m1, m2, m3, cc, dSeq, dIfS, dAnd, dOr, dNot, dB, dTru, tru, dOp, dUn, dC, dVar, dCb, aNil, aCons, dSet, dSetO, dRet, dRetN, dExp, dNext, dIxO, dLenO, rdL, getL, setL, setAt, dAugIx, dSetIx, dMut, mApp, mPop, mIns, R.bind, R.st, toB, fEq, fNe, fLt, fLe, fGt, fGe, fI, fA, fSub, fDiv, fMod, fPow, pSub, pDiv, pMod, pPow, fAdd, fMul, fIx, fLen, lenD, seqOf, DL.listOf, fInt, fIs, fIsNot, isN, fIsi, tyD, fNeg, vAnd, vOr, vNot, dChain, dIf, dTup, dLst, fDisp, lim, dCall, useF, S.set, iSeq, srcD, dFrz, S.frz, dSl, oNo, oPart, fSl, fRev]
    · intro x hx
      simp only [List.mem_append, List.mem_singleton] at hx
      rcases hx with (h | rfl) | h
      · exact hg x (List.mem_of_mem_take h)
      · exact hq
      · exact hg x (List.mem_of_mem_drop h)
    · simp; omega
  · refine ⟨w.take v ++ w.drop (v + 1), r2, .d (.int v), (seq_nx step1).trans ?_, ok2, ?_, ?_⟩
    · have m1 : min v w.length + (w.length - (v + 1)) ≤ cap := by unfold cap; omega
      simp [rl, e2, c1, c4, hc0, deq_int, eqOk_int, m1, dSeq, dIfS, dAnd, dOr, dNot, dB, dTru, tru, dOp, dUn, dC, dVar, dCb, aNil, aCons, dSet, dSetO, dRet, dRetN, dExp, dNext, dIxO, dLenO, rdL, getL, setL, setAt, dAugIx, dSetIx, dMut, mApp, mPop, mIns, R.bind, R.st, toB, fEq, fNe, fLt, fLe, fGt, fGe, fI, fA, fSub, fDiv, fMod, fPow, pSub, pDiv, pMod, pPow, fAdd, fMul, fIx, fLen, lenD, seqOf, DL.listOf, fInt, fIs, fIsNot, isN, fIsi, tyD, fNeg, vAnd, vOr, vNot, dChain, dIf, dTup, dLst, fDisp, lim, dCall, useF, S.set, iSeq, srcD, dFrz, S.frz, dSl, oNo, oPart, fSl, fRev]
    · intro x hx
      simp only [List.mem_append] at hx
      rcases hx with h | h
      · exact hg x (List.mem_of_mem_take h)
      · exact hg x (List.mem_of_mem_drop h)
    · simp; omega
def fresh : SDen := (dSeq (dSet 5 (dLst (fun s => ((aCons (dIxO 3 (dUn fNeg (dC (.int 1)))) aNil) s).bind fList)))
 (dSeq (dFor (iRg 1 (aCons (dCall f__law_next [] (aCons (dVar 1) (aCons (dC (.int 3)) aNil))) aNil)) (gN 6) edit)
 (dExp (dMut 3 mApp (aCons (dVar 5) aNil)))))
theorem fresh_ok (ns : List Int) (x4 x5 x6 x7 x8 x9 x10 x11 x12 x13 x14 x15 x16 x17 x18 x19 x20 : Slot) (ls : List (List Row)) (l : List Row) (r : RSt) (ok : r.Ok) (hg : Good l) (hl : l.length ≤ 40) (hls : ls.length ≤ 40) :
    ∃ (w : List Row) (r' : RSt) (a b c : Slot), fresh ⟨[.d (.rol ns), .d (.ptr 0), .d (rl base3), .own (.lst ((ls ++ [l]).map rl)), x4, x5, x6, x7, x8, x9, x10, x11, x12, x13, x14, x15, x16, x17, x18, x19, x20], [RSt.cell r]⟩ = .nx ⟨[.d (.rol ns), .d (.ptr 0), .d (rl base3), .own (.lst ((ls ++ [l] ++ [w]).map rl)), x4, a, b, c, x8, x9, x10, x11, x12, x13, x14, x15, x16, x17, x18, x19, x20], [RSt.cell r']⟩ ∧ r'.Ok ∧ Good w ∧ w.length ≤ l.length + 2 := by
  have n1 : l.length ≤ cap := by unfold cap; omega
  have a1 : atI ((ls ++ [l]).map rl) (-1) = some (rl l) := by
    unfold atI ixN
    simp only [List.length_map, List.length_append, List.length_cons, List.length_nil]
    rw [if_neg (by omega), if_pos (by omega), Option.bind_some]
    rw [show (-1 + ((ls.length + 1 : Nat) : Int)).toNat = ls.length by omega]
    simp
  unfold fresh
  have step1 : dSet 5 (dLst (fun s => ((aCons (dIxO 3 (dUn fNeg (dC (.int 1)))) aNil) s).bind fList)) ⟨[.d (.rol ns), .d (.ptr 0), .d (rl base3), .own (.lst ((ls ++ [l]).map rl)), x4, x5, x6, x7, x8, x9, x10, x11, x12, x13, x14, x15, x16, x17, x18, x19, x20], [RSt.cell r]⟩ = .nx ⟨[.d (.rol ns), .d (.ptr 0), .d (rl base3), .own (.lst ((ls ++ [l]).map rl)), x4, .d (rl l), x6, x7, x8, x9, x10, x11, x12, x13, x14, x15, x16, x17, x18, x19, x20], [RSt.cell r]⟩ := by
    simp only [dSet, dLst, aCons, dIxO, rdL, dUn, dC, fNeg, R.bind, List.getElem?_cons_succ, List.getElem?_cons_zero, a1, aNil, fList, seqOf, DL.listOf, lim, List.length_map, n1, if_true, R.st]
    rfl
  obtain ⟨v, r1, e1, hv, ok1⟩ := draw ok (L := 3) (by decide) (by decide)
  have hsrc := iRg1_ok (da := dCall f__law_next [] (aCons (dVar 1) (aCons (dC (.int 3)) aNil))) (s := ⟨[.d (.rol ns), .d (.ptr 0), .d (rl base3), .own (.lst ((ls ++ [l]).map rl)), x4, .d (rl l), x6, x7, x8, x9, x10, x11, x12, x13, x14, x15, x16, x17, x18, x19, x20], [RSt.cell r]⟩) (s1 := ⟨[.d (.rol ns), .d (.ptr 0), .d (rl base3), .own (.lst ((ls ++ [l]).map rl)), x4, .d (rl l), x6, x7, x8, x9, x10, x11, x12, x13, x14, x15, x16, x17, x18, x19, x20], [RSt.cell r1]⟩) (n := v) (by simp [e1, dSeq, dIfS, dAnd, dOr, dNot, dB, dTru, tru, dOp, dUn, dC, dVar, dCb, aNil, aCons, dSet, dSetO, dRet, dRetN, dExp, dNext, dIxO, dLenO, rdL, getL, setL, setAt, dAugIx, dSetIx, dMut, mApp, mPop, mIns, R.bind, R.st, toB, fEq, fNe, fLt, fLe, fGt, fGe, fI, fA, fSub, fDiv, fMod, fPow, pSub, pDiv, pMod, pPow, fAdd, fMul, fIx, fLen, lenD, seqOf, DL.listOf, fInt, fIs, fIsNot, isN, fIsi, tyD, fNeg, vAnd, vOr, vNot, dChain, dIf, dTup, dLst, fDisp, lim, dCall, useF, S.set, iSeq, srcD, dFrz, S.frz, dSl, oNo, oPart, fSl, fRev]) (by omega)
  obtain ⟨s', h1, r2, w, x, y, ok2, hg2, hl2, rfl⟩ := dfor_inv (g := gN 6) (b := edit) hsrc (by rw [nums_len]; unfold cap; omega)
    (fun i s => ∃ (r' : RSt) (w : List Row) (x y : Slot), r'.Ok ∧ Good w ∧ w.length ≤ l.length + i ∧ s = ⟨[.d (.rol ns), .d (.ptr 0), .d (rl base3), .own (.lst ((ls ++ [l]).map rl)), x4, .d (rl w), x, y, x8, x9, x10, x11, x12, x13, x14, x15, x16, x17, x18, x19, x20], [RSt.cell r']⟩) ⟨r1, l, _, _, ok1, hg, by omega, rfl⟩ (by
      rintro i x s hx ⟨r2, w, y, z, ok2, hg2, hl2, rfl⟩
      have hi : i < v := by
        have := (List.getElem?_eq_some_iff.mp hx).1
        rw [nums_len] at this; exact this
      obtain ⟨w', r3, q, e3, ok3, hg3, hl3⟩ := edit_ok ns x4 x5 (.d x) z x8 x9 x10 x11 x12 x13 x14 x15 x16 x17 x18 x19 x20 (.own (.lst ((ls ++ [l]).map rl))) r2 ok2 w hg2 (by omega)
      exact ⟨_, rfl, _, .inl e3, r3, w', _, _, ok3, hg3, by omega, rfl⟩)
  rw [nums_len] at hl2
  refine ⟨w, r2, .d (rl w), x, y, (seq_nx step1).trans ((seq_nx h1).trans ?_), ok2, hg2, by omega⟩
  have m1 : ls.length + 1 < cap := by unfold cap; omega
  simp [m1, dSeq, dIfS, dAnd, dOr, dNot, dB, dTru, tru, dOp, dUn, dC, dVar, dCb, aNil, aCons, dSet, dSetO, dRet, dRetN, dExp, dNext, dIxO, dLenO, rdL, getL, setL, setAt, dAugIx, dSetIx, dMut, mApp, mPop, mIns, R.bind, R.st, toB, fEq, fNe, fLt, fLe, fGt, fGe, fI, fA, fSub, fDiv, fMod, fPow, pSub, pDiv, pMod, pPow, fAdd, fMul, fIx, fLen, lenD, seqOf, DL.listOf, fInt, fIs, fIsNot, isN, fIsi, tyD, fNeg, vAnd, vOr, vNot, dChain, dIf, dTup, dLst, fDisp, lim, dCall, useF, S.set, iSeq, srcD, dFrz, S.frz, dSl, oNo, oPart, fSl, fRev]
end K15

set_option maxHeartbeats 4000000
namespace K15
open PySem DL L2

theorem chk {t : DenT} {b : SDen} {s : S} (h : t s = .ok false s) : dIfS t b dNext s = .nx s := by
  unfold dIfS dNext
  rw [h]
  simp [R.st]
theorem addR {a b : List Row} (s : S) (h : a.length + b.length ≤ 1000) : fAdd (rl a) (rl b) s = .ok (rl (a ++ b)) s := by
  simp only [rl, fAdd, DL.listOf, List.length_map]
  rw [if_pos (by unfold cap; omega), List.map_append]
theorem stp_len_comm (a b : List Row) : (stp b a).length = (stp a b).length := by
  rw [← turn_stp a b]; simp [turn]
def A2 : DenT := (dOr (dNot (dTru (dCall f__law_same [] (aCons (dVar 10) (aCons (dCall f__law_steps [] (aCons (dVar 8) (aCons (dVar 9) aNil))) aNil))))) (dOr (dNot (dTru (dCall f__law_same [] (aCons (dCall f_stepped [] (aCons (dVar 8) (aCons (dVar 10) aNil))) (aCons (dVar 9) aNil))))) (dNot (dTru (dCall f__law_same [] (aCons (dCall f_stepped [] (aCons (dVar 9) (aCons (dCall f_turned [] (aCons (dVar 10) aNil)) aNil))) (aCons (dVar 8) aNil)))))))
def A3 : DenT := (dOr (dNot (dTru (dCall f__law_same [] (aCons (dCall f_turned [] (aCons (dCall f_turned [] (aCons (dVar 10) aNil)) aNil)) (aCons (dVar 10) aNil))))) (dB (dOp fNe (dCb fLen (aCons (dCall f_turned [] (aCons (dVar 10) aNil)) aNil)) (dCb fLen (aCons (dVar 10) aNil)))))
def A6 : DenA := (fLc (iSeq (dVar 10)) [18, 19, 20] (gT 3 (gsCons (gN 18) (gsCons (gN 19) (gsCons (gN 20) gsNil)))) dYes (dTup (aCons (dVar 18) (aCons (dOp fAdd (dVar 19) (dCb fLen (aCons (dVar 11) aNil))) (aCons (dVar 20) aNil)))))
def A7 : DenT := (dNot (dTru (dCall f__law_same [] (aCons (dCall f_steps_between [] (aCons (dOp fAdd (dOp fAdd (dVar 11) (dVar 8)) (dVar 12)) (aCons (dOp fAdd (dOp fAdd (dVar 11) (dVar 9)) (dVar 12)) aNil))) (aCons (dVar 13) aNil)))))
def A8 : DenT := (dNot (dTru (dCall f__law_same [] (aCons (dCall f_folded [] (aCons (dVar 8) (aCons (dLst (fDisp (aCons (dVar 10) (aCons (dCall f_steps_between [] (aCons (dVar 9) (aCons (dVar 14) aNil))) aNil)))) aNil))) (aCons (dVar 14) aNil)))))
def LB9 : SDen := (dSeq (dSet 10 (dCall f_steps_between [] (aCons (dVar 8) (aCons (dVar 9) aNil))))
 (dSeq (dIfS A2 (dRet (dC (.bl false))) dNext)
 (dSeq (dIfS A3 (dRet (dC (.bl false))) dNext)
 (dSeq (dSet 11 (dOp fMul (dLst (fDisp (aCons (dTup (aCons (dC (.str "x")) (aCons (dC (.int 9)) aNil))) aNil))) (dCall f__law_next [] (aCons (dVar 1) (aCons (dC (.int 3)) aNil)))))
 (dSeq (dSet 12 (dOp fMul (dLst (fDisp (aCons (dTup (aCons (dC (.str "y")) (aCons (dC (.int 9)) aNil))) aNil))) (dCall f__law_next [] (aCons (dVar 1) (aCons (dC (.int 3)) aNil)))))
 (dSeq (dSet 13 (dLst A6))
 (dSeq (dIfS A7 (dRet (dC (.bl false))) dNext)
 (dFrz 3 (dFor (iSeq (dVar 3)) (gN 14) (dIfS A8 (dRet (dC (.bl false))) dNext))))))))))
section
variable {ns : List Int} {x4 x5 x6 x7 x8 x9 x10 x11 x12 x13 x14 x15 x16 x17 x18 x19 x20 : Slot} {O : Slot} {r : RSt}
theorem A2_ok (a b : List Row) (ga : Good a) (gb : Good b) (ha : a.length ≤ 50) (hb : b.length ≤ 50) :
    A2 ⟨[.d (.rol ns), .d (.ptr 0), .d (rl base3), O, x4, x5, x6, x7, .d (rl a), .d (rl b), .d (sl (stp a b)), x11, x12, x13, x14, x15, x16, x17, x18, x19, x20], [RSt.cell r]⟩ = .ok false ⟨[.d (.rol ns), .d (.ptr 0), .d (rl base3), O, x4, x5, x6, x7, .d (rl a), .d (rl b), .d (sl (stp a b)), x11, x12, x13, x14, x15, x16, x17, x18, x19, x20], [RSt.cell r]⟩ := by
  have hl := stp_len a b
  have h1 := law_steps_ok a b (by omega) (by omega) [r.cell]
  have h2 := same_sl (good_stp ga gb) (by omega) [r.cell]
  have h3 := stp_stepped a b [r.cell] (by omega) (by omega)
  have h4 := same_rl gb (by omega) [r.cell]
  have h5 := turned_ok (stp a b) (by omega) [r.cell]
  rw [turn_stp] at h5
  have h6 := stp_stepped b a [r.cell] (by omega) (by omega)
  have h7 := same_rl ga (by omega) [r.cell]
  simp only [A2, dOr, dNot, dTru, dCall, aCons, aNil, dVar, R.bind, List.getElem?_cons_succ, List.getElem?_cons_zero, List.append_nil, h1, h2, h3, h4, h5, h6, h7, useF, tru, Bool.not_true, Bool.false_eq_true, if_false]
theorem A3_ok (a b : List Row) (ga : Good a) (gb : Good b) (ha : a.length ≤ 50) (hb : b.length ≤ 50) :
    A3 ⟨[.d (.rol ns), .d (.ptr 0), .d (rl base3), O, x4, x5, x6, x7, .d (rl a), .d (rl b), .d (sl (stp a b)), x11, x12, x13, x14, x15, x16, x17, x18, x19, x20], [RSt.cell r]⟩ = .ok false ⟨[.d (.rol ns), .d (.ptr 0), .d (rl base3), O, x4, x5, x6, x7, .d (rl a), .d (rl b), .d (sl (stp a b)), x11, x12, x13, x14, x15, x16, x17, x18, x19, x20], [RSt.cell r]⟩ := by
  have hl := stp_len a b
  have hc := stp_len_comm a b
  have h2 := same_sl (good_stp ga gb) (by omega) [r.cell]
  have h5 := turned_ok (stp a b) (by omega) [r.cell]
  rw [turn_stp] at h5
  have h6 := turned_ok (stp b a) (by omega) [r.cell]
  rw [turn_stp] at h6
  simp only [A3, dOr, dNot, dTru, dCall, aCons, aNil, dVar, R.bind, List.getElem?_cons_succ, List.getElem?_cons_zero, List.append_nil, h2, h5, h6, useF, tru, Bool.not_true, Bool.false_eq_true, if_false,
    dB, dOp, dCb, fLen, sl, lenD, seqOf, DL.listOf, Option.map_some, List.length_map, hc, fNe, eqOk_int, deq_int, decide_true, if_true, toB]
theorem mul_ok (k : Nat) (x : Row) (s : S) (hk : k ≤ 100) : fMul (.lst [rowD x]) (.int k) s = .ok (rl (List.replicate k x)) s := by
  simp only [fMul, DL.listOf, List.length_cons, List.length_nil, Int.toNat_natCast]
  rw [if_pos ⟨by unfold cap; omega, by omega, by omega⟩]
  simp [rl]
theorem A6_ok (a b : List Row) (m : Nat) (X : List Row) (hX : X.length = m) (ha : a.length ≤ 50) (hb : b.length ≤ 50) :
    A6 ⟨[.d (.rol ns), .d (.ptr 0), .d (rl base3), O, x4, x5, x6, x7, .d (rl a), .d (rl b), .d (sl (stp a b)), .d (rl X), x12, x13, x14, x15, x16, x17, x18, x19, x20], [RSt.cell r]⟩ = .ok (((stp a b).map fun t => (t.1, t.2.1 + m, t.2.2)).map stepD) ⟨[.d (.rol ns), .d (.ptr 0), .d (rl base3), O, x4, x5, x6, x7, .d (rl a), .d (rl b), .d (sl (stp a b)), .d (rl X), x12, x13, x14, x15, x16, x17, dOnly (some x18), dOnly (some x19), dOnly (some x20)], [RSt.cell r]⟩ := by
  have hl := stp_len a b
  have := flc_pure (src := iSeq (dVar 10)) (vs := [18, 19, 20]) (g := (gT 3 (gsCons (gN 18) (gsCons (gN 19) (gsCons (gN 20) gsNil))))) (t := dYes) (e := (dTup (aCons (dVar 18) (aCons (dOp fAdd (dVar 19) (dCb fLen (aCons (dVar 11) aNil))) (aCons (dVar 20) aNil)))))
    (s := ⟨[.d (.rol ns), .d (.ptr 0), .d (rl base3), O, x4, x5, x6, x7, .d (rl a), .d (rl b), .d (sl (stp a b)), .d (rl X), x12, x13, x14, x15, x16, x17, x18, x19, x20], [RSt.cell r]⟩) (xs := (stp a b).map stepD) (fun _ => true)
    (fun d => match d with
      | .tup [k, .int i, q] => .tup [k, .int (i + m), q]
      | d => d) (by rfl) (by simp; unfold cap; omega) (by
      intro x hx
      obtain ⟨t, ht, rfl⟩ := List.mem_map.mp hx
      obtain ⟨k, i, q⟩ := t
      refine ⟨⟨[.d (.rol ns), .d (.ptr 0), .d (rl base3), O, x4, x5, x6, x7, .d (rl a), .d (rl b), .d (sl (stp a b)), .d (rl X), x12, x13, x14, x15, x16, x17, .d (.str (if k then "in" else "out")), .d (.int i), .d (rowD q)], [RSt.cell r]⟩, ?_, rfl, rfl, fun _ => ?_⟩
      · simp [stepD, wipeS, gT, gsCons, gN, gsNil, S.set]
      · simp [rl, stepD, c3, hX, dSeq, dIfS, dAnd, dOr, dNot, dB, dTru, tru, dOp, dUn, dC, dVar, dCb, aNil, aCons, dSet, dSetO, dRet, dRetN, dExp, dNext, dIxO, dLenO, rdL, getL, setL, setAt, dAugIx, dSetIx, dMut, mApp, mPop, mIns, R.bind, R.st, toB, fEq, fNe, fLt, fLe, fGt, fGe, fI, fA, fSub, fDiv, fMod, fPow, pSub, pDiv, pMod, pPow, fAdd, fMul, fIx, fLen, lenD, seqOf, DL.listOf, fInt, fIs, fIsNot, isN, fIsi, tyD, fNeg, vAnd, vOr, vNot, dChain, dIf, dTup, dLst, fDisp, lim, dCall, useF, S.set, iSeq, srcD, dFrz, S.frz, dSl, oNo, oPart, fSl, fRev])
  unfold A6
  rw [this]
  have e : (List.map (fun d => match d with
      | .tup [k, .int i, q] => .tup [k, .int (i + m), q]
      | d => d) (List.filter (fun _ => true) (List.map stepD (stp a b)))) = ((stp a b).map fun t => (t.1, t.2.1 + m, t.2.2)).map stepD := by
    rw [List.filter_eq_self.mpr (fun _ _ => rfl), List.map_map, List.map_map]
    refine List.map_congr_left fun t _ => ?_
    simp [stepD]
  rw [e]
  rfl
theorem A7_ok (a b : List Row) (m n : Nat) (ga : Good a) (gb : Good b) (ha : a.length ≤ 50) (hb : b.length ≤ 50) (hm : m ≤ 3) (hn : n ≤ 3) :
    A7 ⟨[.d (.rol ns), .d (.ptr 0), .d (rl base3), O, x4, x5, x6, x7, .d (rl a), .d (rl b), .d (sl (stp a b)), .d (rl (List.replicate m ("x", 9))), .d (rl (List.replicate n ("y", 9))), .d (sl ((stp a b).map fun t => (t.1, t.2.1 + m, t.2.2))), x14, x15, x16, x17, x18, x19, x20], [RSt.cell r]⟩ = .ok false ⟨[.d (.rol ns), .d (.ptr 0), .d (rl base3), O, x4, x5, x6, x7, .d (rl a), .d (rl b), .d (sl (stp a b)), .d (rl (List.replicate m ("x", 9))), .d (rl (List.replicate n ("y", 9))), .d (sl ((stp a b).map fun t => (t.1, t.2.1 + m, t.2.2))), x14, x15, x16, x17, x18, x19, x20], [RSt.cell r]⟩ := by
  have hl := stp_len a b
  have q1 := fun s => addR (a := List.replicate m (("x", 9) : Row)) (b := a) s (by simp; omega)
  have q2 := fun s => addR (a := List.replicate m (("x", 9) : Row) ++ a) (b := List.replicate n (("y", 9) : Row)) s (by simp; omega)
  have q3 := fun s => addR (a := List.replicate m (("x", 9) : Row)) (b := b) s (by simp; omega)
  have q4 := fun s => addR (a := List.replicate m (("x", 9) : Row) ++ b) (b := List.replicate n (("y", 9) : Row)) s (by simp; omega)
  have h1 := steps_ok (List.replicate m (("x", 9) : Row) ++ a ++ List.replicate n (("y", 9) : Row)) (List.replicate m (("x", 9) : Row) ++ b ++ List.replicate n (("y", 9) : Row)) (by simp; omega) (by simp; omega) [r.cell]
  rw [stp_move ("x", 9) ("y", 9) m n a b (good_ne ga _ (by decide)) (good_ne gb _ (by decide))] at h1
  have h2 := same_sl (s := (stp a b).map fun t => (t.1, t.2.1 + m, t.2.2)) (by
    intro t ht
    obtain ⟨u, hu, rfl⟩ := List.mem_map.mp ht
    exact good_stp ga gb u hu) (by simp; omega) [r.cell]
  simp only [A7, dNot, dTru, dCall, aCons, aNil, dOp, dVar, R.bind, List.getElem?_cons_succ, List.getElem?_cons_zero, List.append_nil, q1, q2, q3, q4, h1, h2, useF, tru, Bool.not_true]
theorem A8_ok (a b c : List Row) (gc : Good c) (ha : a.length ≤ 50) (hb : b.length ≤ 50) (hc : c.length ≤ 50) :
    A8 ⟨[.d (.rol ns), .d (.ptr 0), .d (rl base3), O, x4, x5, x6, x7, .d (rl a), .d (rl b), .d (sl (stp a b)), x11, x12, x13, .d (rl c), x15, x16, x17, x18, x19, x20], [RSt.cell r]⟩ = .ok false ⟨[.d (.rol ns), .d (.ptr 0), .d (rl base3), O, x4, x5, x6, x7, .d (rl a), .d (rl b), .d (sl (stp a b)), x11, x12, x13, .d (rl c), x15, x16, x17, x18, x19, x20], [RSt.cell r]⟩ := by
  have h1 := steps_ok b c (by omega) (by omega) [r.cell]
  have h2 := folded_ok a c [stp a b, stp b c] [r.cell] ⟨b, stp_stepped a b _ (by omega) (by omega), c, stp_stepped b c _ (by omega) (by omega), rfl⟩ (by omega) (show 2 ≤ 100 by decide)
  simp only [List.map_cons, List.map_nil] at h2
  have h3 := same_rl gc (by omega) [r.cell]
  have h4 : (2 : Nat) ≤ cap := by decide
  simp only [A8, dNot, dTru, dCall, aCons, aNil, dLst, fDisp, lim, List.length_cons, List.length_nil, Nat.zero_add, Nat.reduceAdd, h4, if_true, dVar, R.bind, List.getElem?_cons_succ, List.getElem?_cons_zero, List.append_nil, h1, h2, h3, useF, tru, Bool.not_true]
end
theorem srcList {ns : List Int} {r : RSt} (x4 x5 x6 x7 x8 x9 x10 x11 x12 x13 x14 x15 x16 x17 x18 x19 x20 : Slot) (ls : List (List Row)) : iSeq (dVar 3) ⟨[.d (.rol ns), .d (.ptr 0), .d (rl base3), .d (.lst (ls.map rl)), x4, x5, x6, x7, x8, x9, x10, x11, x12, x13, x14, x15, x16, x17, x18, x19, x20], [RSt.cell r]⟩ = .ok (ls.map rl) ⟨[.d (.rol ns), .d (.ptr 0), .d (rl base3), .d (.lst (ls.map rl)), x4, x5, x6, x7, x8, x9, x10, x11, x12, x13, x14, x15, x16, x17, x18, x19, x20], [RSt.cell r]⟩ := rfl
theorem LB9_ok (ns : List Int) (x4 x5 x6 x7 x8 x9 x10 x11 x12 x13 x14 x15 x16 x17 x18 x19 x20 : Slot) (ls : List (List Row)) (hg : ∀ l ∈ ls, Good l ∧ l.length ≤ 50) (hls : ls.length ≤ 100) (r : RSt) (ok : r.Ok) (a b : List Row) (ga : Good a) (gb : Good b) (ha : a.length ≤ 50) (hb : b.length ≤ 50) :
    ∃ (r' : RSt) (y10 y11 y12 y13 y14 y18 y19 y20 : Slot), LB9 ⟨[.d (.rol ns), .d (.ptr 0), .d (rl base3), .d (.lst (ls.map rl)), x4, x5, x6, x7, .d (rl a), .d (rl b), x10, x11, x12, x13, x14, x15, x16, x17, x18, x19, x20], [RSt.cell r]⟩ = .nx ⟨[.d (.rol ns), .d (.ptr 0), .d (rl base3), .d (.lst (ls.map rl)), x4, x5, x6, x7, .d (rl a), .d (rl b), y10, y11, y12, y13, y14, x15, x16, x17, y18, y19, y20], [RSt.cell r']⟩ ∧ r'.Ok := by
  obtain ⟨m, r1, e1, hm, ok1⟩ := draw ok (L := 3) (by decide) (by decide)
  obtain ⟨n, r2, e2, hn, ok2⟩ := draw ok1 (L := 3) (by decide) (by decide)
  have h1 := steps_ok a b (by omega) (by omega) [r.cell]
  have c1 : (1 : Nat) ≤ cap := by decide
  have c2 : (2 : Nat) ≤ cap := by decide
  have f1 := fun s => mul_ok m ("x", 9) s (by omega)
  have f2 := fun s => mul_ok n ("y", 9) s (by omega)
  obtain ⟨s', hf, z, rfl⟩ := dfor_inv (g := gN 14) (b := dIfS A8 (dRet (dC (.bl false))) dNext) (srcList (r := r2) (ns := ns) x4 x5 x6 x7 (.d (rl a)) (.d (rl b)) (.d (sl (stp a b))) (.d (rl (List.replicate m ("x", 9)))) (.d (rl (List.replicate n ("y", 9)))) (.d (sl ((stp a b).map fun t => (t.1, t.2.1 + m, t.2.2)))) x14 x15 x16 x17 (dOnly (some x18)) (dOnly (some x19)) (dOnly (some x20)) ls)
    (by simp; unfold cap; omega) (fun _ s => ∃ z, s = ⟨[.d (.rol ns), .d (.ptr 0), .d (rl base3), .d (.lst (ls.map rl)), x4, x5, x6, x7, .d (rl a), .d (rl b), .d (sl (stp a b)), .d (rl (List.replicate m ("x", 9))), .d (rl (List.replicate n ("y", 9))), .d (sl ((stp a b).map fun t => (t.1, t.2.1 + m, t.2.2))), z, x15, x16, x17, dOnly (some x18), dOnly (some x19), dOnly (some x20)], [RSt.cell r2]⟩) ⟨_, rfl⟩ (by
      rintro i x s hx ⟨z, rfl⟩
      obtain ⟨c, hc, rfl⟩ := List.mem_map.mp (List.mem_of_getElem? hx)
      have := hg c hc
      exact ⟨_, rfl, _, .inl (chk (A8_ok a b c this.1 ha hb this.2)), _, rfl⟩)
  refine ⟨r2, .d (sl (stp a b)), .d (rl (List.replicate m ("x", 9))), .d (rl (List.replicate n ("y", 9))), .d (sl ((stp a b).map fun t => (t.1, t.2.1 + m, t.2.2))), z, dOnly (some x18), dOnly (some x19), dOnly (some x20), ?_, ok2⟩
  unfold LB9
  refine (seq_nx (s1 := ⟨[.d (.rol ns), .d (.ptr 0), .d (rl base3), .d (.lst (ls.map rl)), x4, x5, x6, x7, .d (rl a), .d (rl b), .d (sl (stp a b)), x11, x12, x13, x14, x15, x16, x17, x18, x19, x20], [RSt.cell r]⟩) ?_).trans ?_
  · simp only [dSet, dCall, aCons, aNil, dVar, R.bind, List.getElem?_cons_succ, List.getElem?_cons_zero, List.append_nil, h1, useF, R.st]
    rfl
  refine (seq_nx (chk (A2_ok a b ga gb ha hb))).trans ?_
  refine (seq_nx (chk (A3_ok a b ga gb ha hb))).trans ?_
  refine (seq_nx (s1 := ⟨[.d (.rol ns), .d (.ptr 0), .d (rl base3), .d (.lst (ls.map rl)), x4, x5, x6, x7, .d (rl a), .d (rl b), .d (sl (stp a b)), .d (rl (List.replicate m ("x", 9))), x12, x13, x14, x15, x16, x17, x18, x19, x20], [RSt.cell r1]⟩) ?_).trans ?_
  · have f1 : ∀ s, fMul (.lst [.tup [.str "x", .int 9]]) (.int m) s = .ok (rl (List.replicate m ("x", 9))) s := f1
    simp only [dSet, dOp, dLst, fDisp, dTup, dC, dCall, aCons, aNil, dVar, R.bind, List.getElem?_cons_succ, List.getElem?_cons_zero, List.append_nil, List.length_cons, List.length_nil, Nat.zero_add, Nat.reduceAdd, lim, c1, c2, if_true, e1, useF, f1, R.st]
    rfl
  refine (seq_nx (s1 := ⟨[.d (.rol ns), .d (.ptr 0), .d (rl base3), .d (.lst (ls.map rl)), x4, x5, x6, x7, .d (rl a), .d (rl b), .d (sl (stp a b)), .d (rl (List.replicate m ("x", 9))), .d (rl (List.replicate n ("y", 9))), x13, x14, x15, x16, x17, x18, x19, x20], [RSt.cell r2]⟩) ?_).trans ?_
  · have f2 : ∀ s, fMul (.lst [.tup [.str "y", .int 9]]) (.int n) s = .ok (rl (List.replicate n ("y", 9))) s := f2
    simp only [dSet, dOp, dLst, fDisp, dTup, dC, dCall, aCons, aNil, dVar, R.bind, List.getElem?_cons_succ, List.getElem?_cons_zero, List.append_nil, List.length_cons, List.length_nil, Nat.zero_add, Nat.reduceAdd, lim, c1, c2, if_true, e2, useF, f2, R.st]
    rfl
  refine (seq_nx (s1 := ⟨[.d (.rol ns), .d (.ptr 0), .d (rl base3), .d (.lst (ls.map rl)), x4, x5, x6, x7, .d (rl a), .d (rl b), .d (sl (stp a b)), .d (rl (List.replicate m ("x", 9))), .d (rl (List.replicate n ("y", 9))), .d (sl ((stp a b).map fun t => (t.1, t.2.1 + m, t.2.2))), x14, x15, x16, x17, dOnly (some x18), dOnly (some x19), dOnly (some x20)], [RSt.cell r2]⟩) ?_).trans ?_
  · unfold dSet dLst
    rw [A6_ok a b m _ (by simp) ha hb]
    rfl
  refine (seq_nx (chk (A7_ok a b m n ga gb ha hb (by omega) (by omega)))).trans ?_
  exact hf
end K15

set_option maxHeartbeats 4000000
namespace K15
open PySem DL L2

def B0 : DenT := (dNot (dTru (dCall f__law_same [] (aCons (dCall f_steps_between [] (aCons (dVar 8) (aCons (dVar 8) aNil))) (aCons (dLst (fDisp aNil)) aNil)))))
def LB8 : SDen := (dSeq (dIfS B0 (dRet (dC (.bl false))) dNext) (dFrz 3 (dFor (iSeq (dVar 3)) (gN 9) LB9)))
theorem LB8_ok (ns : List Int) (x4 x5 x6 x7 x8 x9 x10 x11 x12 x13 x14 x15 x16 x17 x18 x19 x20 : Slot) (ls : List (List Row)) (hg : ∀ l ∈ ls, Good l ∧ l.length ≤ 50) (hls : ls.length ≤ 100) (r : RSt) (ok : r.Ok) (a : List Row) (ga : Good a) (ha : a.length ≤ 50) :
    ∃ (r' : RSt) (y9 y10 y11 y12 y13 y14 y18 y19 y20 : Slot), LB8 ⟨[.d (.rol ns), .d (.ptr 0), .d (rl base3), .d (.lst (ls.map rl)), x4, x5, x6, x7, .d (rl a), x9, x10, x11, x12, x13, x14, x15, x16, x17, x18, x19, x20], [RSt.cell r]⟩ = .nx ⟨[.d (.rol ns), .d (.ptr 0), .d (rl base3), .d (.lst (ls.map rl)), x4, x5, x6, x7, .d (rl a), y9, y10, y11, y12, y13, y14, x15, x16, x17, y18, y19, y20], [RSt.cell r']⟩ ∧ r'.Ok := by
  have h1 := steps_ok a a (by omega) (by omega) [r.cell]
  rw [stp_self] at h1
  have h2 := same_sl (s := []) (fun t h => by simp at h) (by simp) [r.cell]
  have c0 : (0 : Nat) ≤ cap := by decide
  obtain ⟨s', hf, r2, y9, y10, y11, y12, y13, y14, y18, y19, y20, ok2, rfl⟩ := dfor_inv (g := gN 9) (b := LB9) (srcList (r := r) (ns := ns) x4 x5 x6 x7 (.d (rl a)) x9 x10 x11 x12 x13 x14 x15 x16 x17 x18 x19 x20 ls)
    (by simp; unfold cap; omega) (fun _ s => ∃ (r' : RSt) (y9 y10 y11 y12 y13 y14 y18 y19 y20 : Slot), r'.Ok ∧ s = ⟨[.d (.rol ns), .d (.ptr 0), .d (rl base3), .d (.lst (ls.map rl)), x4, x5, x6, x7, .d (rl a), y9, y10, y11, y12, y13, y14, x15, x16, x17, y18, y19, y20], [RSt.cell r']⟩) ⟨r, _, _, _, _, _, _, _, _, _, ok, rfl⟩ (by
      rintro i x s hx ⟨r2, y9, y10, y11, y12, y13, y14, y18, y19, y20, ok2, rfl⟩
      obtain ⟨b, hb, rfl⟩ := List.mem_map.mp (List.mem_of_getElem? hx)
      have gb := hg b hb
      obtain ⟨r3, z10, z11, z12, z13, z14, z18, z19, z20, e, ok3⟩ := LB9_ok ns x4 x5 x6 x7 x8 y9 y10 y11 y12 y13 y14 x15 x16 x17 y18 y19 y20 ls hg hls r2 ok2 a b ga gb.1 ha gb.2
      exact ⟨_, rfl, _, .inl e, r3, _, _, _, _, _, _, _, _, _, ok3, rfl⟩)
  refine ⟨r2, y9, y10, y11, y12, y13, y14, y18, y19, y20, ?_, ok2⟩
  unfold LB8
  refine (seq_nx (chk ?_)).trans hf
  have e : sl [] = .lst [] := rfl
  rw [e] at h1 h2
  simp only [B0, dNot, dTru, dCall, aCons, aNil, dLst, fDisp, lim, List.length_nil, c0, if_true, dVar, R.bind, List.getElem?_cons_succ, List.getElem?_cons_zero, List.append_nil, h1, h2, useF, tru, Bool.not_true]

/-! ### all the steps one behind the other -/
def pairs : List (List Row) → List (List Stp)
  | a :: b :: r => stp a b :: pairs (b :: r)
  | _ => []
theorem pairs_get : ∀ (ls : List (List Row)) (i : Nat), (pairs ls)[i]? = match ls[i]?, ls[i + 1]? with
      | some a, some b => some (stp a b)
      | _, _ => none
  | [], i => by simp [pairs]
  | [a], 0 => by simp [pairs]
  | [a], i + 1 => by simp [pairs]
  | a :: b :: r, 0 => by simp [pairs]
  | a :: b :: r, i + 1 => by
    simp only [pairs, List.getElem?_cons_succ]
    rw [pairs_get (b :: r) i]
    simp
theorem pairs_len : ∀ (ls : List (List Row)), (pairs ls).length = ls.length - 1
  | [] => rfl
  | [a] => rfl
  | a :: b :: r => by
    have := pairs_len (b :: r)
    simp only [pairs, List.length_cons] at *
    omega
theorem pairs_chain (M : List Cell) : ∀ (a : List Row) (r : List (List Row)) (z : List Row), (∀ l ∈ a :: r, l.length ≤ 50) → (a :: r).getLast? = some z → Chain M a (pairs (a :: r)) z
  | a, [], z, _, h => by simpa [pairs, Chain] using h
  | a, b :: r, z, hl, h => by
    refine ⟨b, stp_stepped a b M (by have := hl a List.mem_cons_self; omega) (by have := hl b (by simp); omega), ?_⟩
    exact pairs_chain M b r z (fun l h => hl l (List.mem_cons_of_mem _ h)) (by simpa using h)
theorem pairs_rev (ls : List (List Row)) : (pairs ls).reverse.map turn = pairs ls.reverse := by
  refine List.ext_getElem? fun i => ?_
  have hl := pairs_len ls
  rw [List.getElem?_map, pairs_get]
  by_cases h : i + 1 < ls.length
  · rw [List.getElem?_reverse (by omega), hl, pairs_get, List.getElem?_reverse (by omega), List.getElem?_reverse (by omega)]
    rw [show ls.length - 1 - 1 - i = ls.length - 1 - (i + 1) by omega, show ls.length - 1 - (i + 1) + 1 = ls.length - 1 - i by omega]
    rw [List.getElem?_eq_getElem (show ls.length - 1 - i < ls.length by omega), List.getElem?_eq_getElem (show ls.length - 1 - (i + 1) < ls.length by omega)]
    simp only [Option.map_some, turn_stp]
  · rw [List.getElem?_eq_none (by rw [List.length_reverse, hl]; omega), List.getElem?_eq_none (l := ls.reverse) (i := i + 1) (by rw [List.length_reverse]; omega)]
    simp
def cAll : DenA := (fLc (iRg 1 (aCons (dOp fSub (dLenO 3) (dC (.int 1))) aNil)) [6] (gN 6) dYes (dCall f_steps_between [] (aCons (dIxO 3 (dVar 6)) (aCons (dIxO 3 (dOp fAdd (dVar 6) (dC (.int 1)))) aNil))))
theorem atI_ls {ls : List (List Row)} {i : Nat} (h : i < ls.length) : atI (ls.map rl) (i : Int) = some (rl ls[i]) := by
  rw [atI_nat (v := rl ls[i])]
  rw [List.getElem?_map, List.getElem?_eq_getElem h]; rfl
theorem cAll_ok (ns : List Int) (x4 x5 x6 x7 x8 x9 x10 x11 x12 x13 x14 x15 x16 x17 x18 x19 x20 : Slot) (ls : List (List Row)) (hg : ∀ l ∈ ls, Good l ∧ l.length ≤ 50) (hls : ls.length ≤ 100) (h1 : 1 ≤ ls.length) (r : RSt) :
    cAll ⟨[.d (.rol ns), .d (.ptr 0), .d (rl base3), .d (.lst (ls.map rl)), x4, x5, x6, x7, x8, x9, x10, x11, x12, x13, x14, x15, x16, x17, x18, x19, x20], [RSt.cell r]⟩ = .ok ((pairs ls).map sl) ⟨[.d (.rol ns), .d (.ptr 0), .d (rl base3), .d (.lst (ls.map rl)), x4, x5, dOnly (some x6), x7, x8, x9, x10, x11, x12, x13, x14, x15, x16, x17, x18, x19, x20], [RSt.cell r]⟩ := by
  have e0 : ((ls.length : Int) - 1) = ((ls.length - 1 : Nat) : Int) := by omega
  have hsrc := iRg1_ok (da := dOp fSub (dLenO 3) (dC (.int 1))) (s := ⟨[.d (.rol ns), .d (.ptr 0), .d (rl base3), .d (.lst (ls.map rl)), x4, x5, x6, x7, x8, x9, x10, x11, x12, x13, x14, x15, x16, x17, x18, x19, x20], [RSt.cell r]⟩) (s1 := ⟨[.d (.rol ns), .d (.ptr 0), .d (rl base3), .d (.lst (ls.map rl)), x4, x5, x6, x7, x8, x9, x10, x11, x12, x13, x14, x15, x16, x17, x18, x19, x20], [RSt.cell r]⟩) (n := ls.length - 1) (by
    simp only [dOp, dLenO, rdL, dC, R.bind, List.getElem?_cons_succ, List.getElem?_cons_zero, DL.listOf, List.length_map, fSub, fA, pSub, e0]) (by omega)
  have := flc_pure (vs := [6]) (g := gN 6) (t := dYes) (e := (dCall f_steps_between [] (aCons (dIxO 3 (dVar 6)) (aCons (dIxO 3 (dOp fAdd (dVar 6) (dC (.int 1)))) aNil)))) (fun _ => true)
    (fun d => match d with
      | .int i => match ls[i.toNat]?, ls[i.toNat + 1]? with
        | some a, some b => sl (stp a b)
        | _, _ => .non
      | _ => .non) hsrc (by rw [nums_len]; unfold cap; omega) (by
      intro x hx
      obtain ⟨i, hi, rfl⟩ := mid_lt (a := []) (p := 0) (e := 0) _ _ _ hx
      have e2 : ((0 : Int) + (i : Nat) * 1) = (i : Int) := by omega
      have e3 : ((i : Int) + 1) = ((i + 1 : Nat) : Int) := by omega
      rw [e2]
      have g1 : i < ls.length := by omega
      have g2 : i + 1 < ls.length := by omega
      have l1 := hg _ (List.getElem_mem g1)
      have l2 := hg _ (List.getElem_mem g2)
      have q := steps_ok ls[i] ls[i + 1] (by omega) (by omega) [r.cell]
      refine ⟨_, rfl, rfl, rfl, fun _ => ?_⟩
      simp only [gN, S.set, wipeS, List.set_cons_succ, List.set_cons_zero, dCall, aCons, aNil, dIxO, dOp, dC, rdL, DL.listOf, dVar, R.bind, List.getElem?_cons_succ, List.getElem?_cons_zero, List.append_nil, fAdd, e3, atI_ls g1, atI_ls g2, q, useF, Int.toNat_natCast, List.getElem?_eq_getElem g1, List.getElem?_eq_getElem g2])
  unfold cAll
  rw [this, nums_all]
  have e : (List.map (fun i : Nat => (fun d : D => match d with
      | .int i => match ls[i.toNat]?, ls[i.toNat + 1]? with
        | some a, some b => sl (stp a b)
        | _, _ => .non
      | _ => .non) (.int ((0 : Int) + (i : Nat) * 1))) (List.range (ls.length - 1))) = (pairs ls).map sl := by
    refine List.ext_getElem? fun i => ?_
    rw [List.getElem?_map, List.getElem?_map, pairs_get]
    by_cases h : i < ls.length - 1
    · have e2 : ((0 : Int) + (i : Nat) * 1) = (i : Int) := by omega
      rw [List.getElem?_range h, List.getElem?_eq_getElem (show i < ls.length by omega), List.getElem?_eq_getElem (show i + 1 < ls.length by omega)]
      simp only [Option.map_some, e2, Int.toNat_natCast, List.getElem?_eq_getElem (show i < ls.length by omega), List.getElem?_eq_getElem (show i + 1 < ls.length by omega)]
    · rw [List.getElem?_eq_none (by simp; omega), List.getElem?_eq_none (l := ls) (i := i + 1) (by omega)]
      simp
  rw [e]
  rfl
def cTurn : DenA := (fLc (iSeq (dUn fRev (dVar 15))) [10] (gN 10) dYes (dCall f_turned [] (aCons (dVar 10) aNil)))
theorem cTurn_ok (ns : List Int) (x4 x5 x6 x7 x8 x9 x10 x11 x12 x13 x14 x15 x16 x17 x18 x19 x20 : Slot) (O : Slot) (tss : List (List Stp)) (hl : tss.length ≤ 100) (ht : ∀ t ∈ tss, t.length ≤ 100) (r : RSt) :
    cTurn ⟨[.d (.rol ns), .d (.ptr 0), .d (rl base3), O, x4, x5, x6, x7, x8, x9, x10, x11, x12, x13, x14, .d (.lst (tss.map sl)), x16, x17, x18, x19, x20], [RSt.cell r]⟩ = .ok ((tss.reverse.map turn).map sl) ⟨[.d (.rol ns), .d (.ptr 0), .d (rl base3), O, x4, x5, x6, x7, x8, x9, dOnly (some x10), x11, x12, x13, x14, .d (.lst (tss.map sl)), x16, x17, x18, x19, x20], [RSt.cell r]⟩ := by
  have := flc_pure (src := iSeq (dUn fRev (dVar 15))) (vs := [10]) (g := gN 10) (t := dYes) (e := dCall f_turned [] (aCons (dVar 10) aNil)) (s := ⟨[.d (.rol ns), .d (.ptr 0), .d (rl base3), O, x4, x5, x6, x7, x8, x9, x10, x11, x12, x13, x14, .d (.lst (tss.map sl)), x16, x17, x18, x19, x20], [RSt.cell r]⟩) (xs := (tss.map sl).reverse) (fun _ => true)
    (fun d => match f_turned [d] [r.cell] with
      | .ok v _ => v
      | _ => .non) (by rfl) (by simp; unfold cap; omega) (by
      intro x hx
      obtain ⟨t, h, rfl⟩ := List.mem_map.mp (List.mem_reverse.mp hx)
      have q := turned_ok t (by have := ht t h; omega) [r.cell]
      refine ⟨_, rfl, rfl, rfl, fun _ => ?_⟩
      simp only [gN, S.set, wipeS, List.set_cons_succ, List.set_cons_zero, dCall, aCons, aNil, dVar, R.bind, List.getElem?_cons_succ, List.getElem?_cons_zero, List.append_nil, q, useF])
  unfold cTurn
  rw [this]
  have e : List.map (fun d => match f_turned [d] [r.cell] with
      | .ok v _ => v
      | _ => .non) (List.filter (fun _ => true) (List.map sl tss).reverse) = (tss.reverse.map turn).map sl := by
    rw [List.filter_eq_self.mpr (fun _ _ => rfl), ← List.map_reverse, List.map_map, List.map_map]
    refine List.map_congr_left fun t h => ?_
    have q := turned_ok t (by have := ht t (List.mem_reverse.mp h); omega) [r.cell]
    simp only [Function.comp, q]
  rw [e]
  rfl
def wrongs (w : List Row) : List D := [.lst [.tup [.str "out", .int w.length, rowD ("a", 1)]], .lst [.tup [.str "in", .int (w.length + 1), rowD ("a", 1)]], .lst [.tup [.str "in", .int (-1), rowD ("a", 1)]], .lst [.tup [.str "out", .int 0, rowD ("z", 0)]], .lst [.tup [.str "off", .int 0, rowD ("a", 1)]]]
def cBad : DenA := (fLc (iSeq (dVar 16)) [10] (gN 10) (dNot (dTru (dCall f__law_is_unfit [] (aCons (dVar 5) (aCons (dVar 10) aNil))))) (dVar 10))
theorem wrong_ok {w : List Row} (g : Good w) (hw : w.length ≤ 50) {x : D} (hx : x ∈ wrongs w) (M : List Cell) : f__law_is_unfit [rl w, x] M = .ok (.bl true) M := by
  simp only [wrongs, List.mem_cons, List.mem_nil_iff, or_false] at hx
  rcases hx with rfl | rfl | rfl | rfl | rfl
  · exact unfit_ok _ _ _ _ _ (bad_out w _ M (by omega))
  · exact unfit_ok _ _ _ _ _ (bad_in w _ M (by omega))
  · exact unfit_ok _ _ _ _ _ (bad_neg w _ M (by omega))
  · exact unfit_ok _ _ _ _ _ (bad_row w _ M (by omega) (good_ne g _ (by decide)))
  · exact unfit_ok _ _ _ _ _ (bad_off w _ M (by omega))
theorem cBad_ok (ns : List Int) (x4 x5 x6 x7 x8 x9 x10 x11 x12 x13 x14 x15 x16 x17 x18 x19 x20 : Slot) (O : Slot) (w : List Row) (g : Good w) (hw : w.length ≤ 50) (r : RSt) :
    cBad ⟨[.d (.rol ns), .d (.ptr 0), .d (rl base3), O, x4, .d (rl w), x6, x7, x8, x9, x10, x11, x12, x13, x14, x15, .d (.lst (wrongs w)), x17, x18, x19, x20], [RSt.cell r]⟩ = .ok [] ⟨[.d (.rol ns), .d (.ptr 0), .d (rl base3), O, x4, .d (rl w), x6, x7, x8, x9, dOnly (some x10), x11, x12, x13, x14, x15, .d (.lst (wrongs w)), x17, x18, x19, x20], [RSt.cell r]⟩ := by
  have := flc_pure (src := iSeq (dVar 16)) (vs := [10]) (g := gN 10) (t := (dNot (dTru (dCall f__law_is_unfit [] (aCons (dVar 5) (aCons (dVar 10) aNil)))))) (e := dVar 10) (s := ⟨[.d (.rol ns), .d (.ptr 0), .d (rl base3), O, x4, .d (rl w), x6, x7, x8, x9, x10, x11, x12, x13, x14, x15, .d (.lst (wrongs w)), x17, x18, x19, x20], [RSt.cell r]⟩) (xs := wrongs w) (fun _ => false) id (by rfl) (show 5 ≤ cap by decide) (by
      intro x hx
      have q := wrong_ok g hw hx [r.cell]
      refine ⟨_, rfl, rfl, ?_, fun h => absurd h (by decide)⟩
      simp only [gN, S.set, wipeS, List.set_cons_succ, List.set_cons_zero, dNot, dTru, dCall, aCons, aNil, dVar, R.bind, List.getElem?_cons_succ, List.getElem?_cons_zero, List.append_nil, q, useF, tru, Bool.not_true])
  unfold cBad
  rw [this]
  rw [List.filter_eq_nil_iff.mpr (by simp)]
  rfl
end K15

set_option maxHeartbeats 4000000
namespace K15
open PySem DL L2

def C2 : DenT := (dOr (dNot (dTru (dCall f__law_same [] (aCons (dCall f_folded [] (aCons (dIxO 3 (dC (.int 0))) (aCons (dVar 15) aNil))) (aCons (dIxO 3 (dUn fNeg (dC (.int 1)))) aNil))))) (dNot (dTru (dCall f__law_same [] (aCons (dCall f_folded [] (aCons (dIxO 3 (dC (.int 0))) (aCons (dLst (fDisp aNil)) aNil))) (aCons (dIxO 3 (dC (.int 0))) aNil))))))
def C3 : DenT := (dNot (dTru (dCall f__law_same [] (aCons (dCall f_folded [] (aCons (dIxO 3 (dUn fNeg (dC (.int 1)))) (aCons (dLst cTurn) aNil))) (aCons (dIxO 3 (dC (.int 0))) aNil)))))
def C5 : Den := (dLst (fDisp (aCons (dLst (fDisp (aCons (dTup (aCons (dC (.str "out")) (aCons (dCb fLen (aCons (dVar 5) aNil)) (aCons (dTup (aCons (dC (.str "a")) (aCons (dC (.int 1)) aNil))) aNil)))) aNil))) (aCons (dLst (fDisp (aCons (dTup (aCons (dC (.str "in")) (aCons (dOp fAdd (dCb fLen (aCons (dVar 5) aNil)) (dC (.int 1))) (aCons (dTup (aCons (dC (.str "a")) (aCons (dC (.int 1)) aNil))) aNil)))) aNil))) (aCons (dLst (fDisp (aCons (dTup (aCons (dC (.str "in")) (aCons (dUn fNeg (dC (.int 1))) (aCons (dTup (aCons (dC (.str "a")) (aCons (dC (.int 1)) aNil))) aNil)))) aNil))) (aCons (dLst (fDisp (aCons (dTup (aCons (dC (.str "out")) (aCons (dC (.int 0)) (aCons (dTup (aCons (dC (.str "z")) (aCons (dC (.int 0)) aNil))) aNil)))) aNil))) (aCons (dLst (fDisp (aCons (dTup (aCons (dC (.str "off")) (aCons (dC (.int 0)) (aCons (dTup (aCons (dC (.str "a")) (aCons (dC (.int 1)) aNil))) aNil)))) aNil))) aNil)))))))
def C7 : Den := (vAnd (dOp fEq (dLst cBad) (dLst (fDisp aNil))) (vAnd (dOp fEq (dVar 5) (dVar 17)) (dOp fEq (dCall f_stepped [] (aCons (dVar 5) (aCons (dLst (fDisp (aCons (dTup (aCons (dC (.str "in")) (aCons (dCb fLen (aCons (dVar 5) aNil)) (aCons (dTup (aCons (dC (.str "a")) (aCons (dC (.int 1)) aNil))) aNil)))) aNil))) aNil))) (dOp fAdd (dVar 5) (dLst (fDisp (aCons (dTup (aCons (dC (.str "a")) (aCons (dC (.int 1)) aNil))) aNil)))))))
def Rest : SDen := (dSeq (dSet 15 (dLst cAll))
 (dSeq (dIfS C2 (dRet (dC (.bl false))) dNext)
 (dSeq (dIfS C3 (dRet (dC (.bl false))) dNext)
 (dSeq (dSet 5 (dIxO 3 (dUn fNeg (dC (.int 1)))))
 (dSeq (dSet 16 C5)
 (dSeq (dSet 17 (dLst (fun s => ((aCons (dVar 5) aNil) s).bind fList)))
 (dRet C7)))))))
theorem law_eq : b_law = dSeq (dSetC 1 (fDisp (aCons (dLst (fun s => ((aCons (dVar 0) aNil) s).bind fList)) (aCons (dC (.int 0)) (aCons (dC (.int 0)) (aCons (dC (.int 1)) aNil))))))
 (dSeq (dSet 2 (dLst (fDisp (aCons (dTup (aCons (dC (.str "a")) (aCons (dC (.int 1)) aNil))) (aCons (dTup (aCons (dC (.str "b")) (aCons (dC (.int 2)) aNil))) (aCons (dTup (aCons (dC (.str "a")) (aCons (dC (.int 2)) aNil))) aNil))))))
 (dSeq (dSetO 3 (fDisp (aCons (dLst mkRows) aNil)))
 (dSeq (dFor (iRg 1 (aCons (dOp fAdd (dC (.int 1)) (dCall f__law_next [] (aCons (dVar 1) (aCons (dC (.int 4)) aNil)))) aNil)) (gN 4) fresh)
 (dFrz 3 (dSeq (dFor (iSeq (dVar 3)) (gN 8) LB8) Rest))))) := rfl
theorem Rest_ok (ns : List Int) (x4 x5 x6 x7 x8 x9 x10 x11 x12 x13 x14 x15 x16 x17 x18 x19 x20 : Slot) (ls : List (List Row)) (hg : ∀ l ∈ ls, Good l ∧ l.length ≤ 50) (hls : ls.length ≤ 100) (h1 : 1 ≤ ls.length) (r : RSt) : ∃ s, Rest ⟨[.d (.rol ns), .d (.ptr 0), .d (rl base3), .d (.lst (ls.map rl)), x4, x5, x6, x7, x8, x9, x10, x11, x12, x13, x14, x15, x16, x17, x18, x19, x20], [RSt.cell r]⟩ = .rt (.bl true) s := by
  obtain ⟨a, as, rfl⟩ : ∃ a as, ls = a :: as := by
    cases ls with
    | nil => simp at h1
    | cons a as => exact ⟨a, as, rfl⟩
  obtain ⟨z, hz⟩ : ∃ z, (a :: as).getLast? = some z := ⟨_, List.getLast?_eq_some_getLast (by simp)⟩
  have ga := hg a List.mem_cons_self
  have gz := hg z (List.mem_of_getLast? hz)
  have lens : ∀ l ∈ a :: as, l.length ≤ 50 := fun l h => (hg l h).2
  have pl := pairs_len (a :: as)
  have a0 : atI ((a :: as).map rl) 0 = some (rl a) := atI_ls (ls := a :: as) (i := 0) (by simp)
  have az : atI ((a :: as).map rl) (-1) = some (rl z) := by
    unfold atI ixN
    rw [List.length_map, if_neg (by omega), if_pos (by omega), Option.bind_some, List.getElem?_map]
    rw [List.getLast?_eq_getElem?] at hz
    rw [show (-1 + ((a :: as).length : Int)).toNat = (a :: as).length - 1 by omega, hz]
    rfl
  have f1 := folded_ok a z (pairs (a :: as)) [r.cell] (pairs_chain _ a as z lens hz) (by omega) (by omega)
  have f2 := folded_ok a a [] [r.cell] rfl (by omega) (by decide)
  have f3 : f_folded [rl z, .lst (((pairs (a :: as)).reverse.map turn).map sl)] [r.cell] = .ok (rl a) [r.cell] := by
    rw [pairs_rev]
    obtain ⟨bs, hb⟩ : ∃ bs, (a :: as).reverse = z :: bs := by
      cases hq : (a :: as).reverse with
      | nil => simp at hq
      | cons y bs =>
        refine ⟨bs, ?_⟩
        have : (a :: as).reverse.head? = some y := by rw [hq]; rfl
        rw [List.head?_reverse, hz] at this
        rw [Option.some.inj this]
    rw [hb]
    refine folded_ok z a _ _ (pairs_chain _ z bs a (fun l h => lens l ?_) ?_) (by omega) ?_
    · rw [← hb] at h; exact List.mem_reverse.mp h
    · rw [← hb, List.getLast?_reverse]; rfl
    · rw [pairs_len, ← hb, List.length_reverse]; omega
  have s1 := same_rl gz.1 (by omega) [r.cell]
  have s2 := same_rl ga.1 (by omega) [r.cell]
  have tl : ∀ t ∈ pairs (a :: as), t.length ≤ 100 := by
    intro t ht
    obtain ⟨i, hi⟩ := List.mem_iff_getElem?.mp ht
    rw [pairs_get] at hi
    cases e1 : (a :: as)[i]? with
    | none => rw [e1] at hi; simp at hi
    | some x =>
      cases e2 : (a :: as)[i + 1]? with
      | none => rw [e1, e2] at hi; simp at hi
      | some y =>
        rw [e1, e2] at hi
        have := stp_len x y
        have h1 := lens x (List.mem_of_getElem? e1)
        have h2 := lens y (List.mem_of_getElem? e2)
        rw [← Option.some.inj hi]; omega
  have c0 : (0 : Nat) ≤ cap := by decide
  have c1 : (1 : Nat) ≤ cap := by decide
  have c2 : (2 : Nat) ≤ cap := by decide
  have c5 : (5 : Nat) ≤ cap := by decide
  refine ⟨⟨[.d (.rol ns), .d (.ptr 0), .d (rl base3), .d (.lst ((a :: as).map rl)), x4, .d (rl z), dOnly (some x6), x7, x8, x9, dOnly (some (dOnly (some x10))), x11, x12, x13, x14, .d (.lst ((pairs (a :: as)).map sl)), .d (.lst (wrongs z)), .d (rl z), x18, x19, x20], [RSt.cell r]⟩, ?_⟩
  unfold Rest
  refine (seq_nx (s1 := ⟨[.d (.rol ns), .d (.ptr 0), .d (rl base3), .d (.lst ((a :: as).map rl)), x4, x5, dOnly (some x6), x7, x8, x9, x10, x11, x12, x13, x14, .d (.lst ((pairs (a :: as)).map sl)), x16, x17, x18, x19, x20], [RSt.cell r]⟩) ?_).trans ?_
  · unfold dSet dLst
    rw [cAll_ok ns x4 x5 x6 x7 x8 x9 x10 x11 x12 x13 x14 x15 x16 x17 x18 x19 x20 (a :: as) hg hls h1 r]
    rfl
  refine (seq_nx (chk ?_)).trans ?_
  · have f2 : f_folded [rl a, .lst []] [r.cell] = .ok (rl a) [r.cell] := f2
    simp only [C2, f2, s2, dOr, dNot, dTru, dCall, aCons, aNil, dIxO, rdL, DL.listOf, dC, dUn, fNeg, dVar, dLst, fDisp, lim, List.length_nil, c0, if_true, R.bind, List.getElem?_cons_succ, List.getElem?_cons_zero, List.append_nil, a0, az, f1, useF, s1, tru, Bool.not_true, Bool.false_eq_true, if_false]
  refine (seq_nx (s1 := ⟨[.d (.rol ns), .d (.ptr 0), .d (rl base3), .d (.lst ((a :: as).map rl)), x4, x5, dOnly (some x6), x7, x8, x9, dOnly (some x10), x11, x12, x13, x14, .d (.lst ((pairs (a :: as)).map sl)), x16, x17, x18, x19, x20], [RSt.cell r]⟩) ?_).trans ?_
  · have t := cTurn_ok ns x4 x5 (dOnly (some x6)) x7 x8 x9 x10 x11 x12 x13 x14 x15 x16 x17 x18 x19 x20 (.d (.lst ((a :: as).map rl))) (pairs (a :: as)) (by omega) tl r
    unfold dIfS C3 dNot dTru dCall aCons aNil dLst dIxO
    simp only [rdL, DL.listOf, dC, dUn, fNeg, R.bind, List.getElem?_cons_succ, List.getElem?_cons_zero, List.append_nil, a0, az, t, f3, s2, useF, tru, Bool.not_true, R.st, Bool.false_eq_true, if_false, aCons, aNil, dIxO]
    rfl
  refine (seq_nx (s1 := ⟨[.d (.rol ns), .d (.ptr 0), .d (rl base3), .d (.lst ((a :: as).map rl)), x4, .d (rl z), dOnly (some x6), x7, x8, x9, dOnly (some x10), x11, x12, x13, x14, .d (.lst ((pairs (a :: as)).map sl)), x16, x17, x18, x19, x20], [RSt.cell r]⟩) ?_).trans ?_
  · simp only [dSet, dIxO, rdL, DL.listOf, dC, dUn, fNeg, R.bind, List.getElem?_cons_succ, List.getElem?_cons_zero, az, R.st]
    rfl
  refine (seq_nx (s1 := ⟨[.d (.rol ns), .d (.ptr 0), .d (rl base3), .d (.lst ((a :: as).map rl)), x4, .d (rl z), dOnly (some x6), x7, x8, x9, dOnly (some x10), x11, x12, x13, x14, .d (.lst ((pairs (a :: as)).map sl)), .d (.lst (wrongs z)), x17, x18, x19, x20], [RSt.cell r]⟩) ?_).trans ?_
  · have c3 := c3
    simp only [dSet, C5, dLst, fDisp, dTup, aCons, aNil, dC, dUn, fNeg, dCb, dVar, dOp, fAdd, R.bind, List.getElem?_cons_succ, List.getElem?_cons_zero, fLen, rl, lenD, seqOf, DL.listOf, Option.map_some, List.length_map, List.length_cons, List.length_nil, Nat.zero_add, Nat.reduceAdd, lim, c1, c2, c3, c5, if_true, R.st]
    rfl
  refine (seq_nx (s1 := ⟨[.d (.rol ns), .d (.ptr 0), .d (rl base3), .d (.lst ((a :: as).map rl)), x4, .d (rl z), dOnly (some x6), x7, x8, x9, dOnly (some x10), x11, x12, x13, x14, .d (.lst ((pairs (a :: as)).map sl)), .d (.lst (wrongs z)), .d (rl z), x18, x19, x20], [RSt.cell r]⟩) ?_).trans ?_
  · have n1 : z.length ≤ cap := by unfold cap; omega
    simp only [dSet, dLst, aCons, aNil, dVar, R.bind, List.getElem?_cons_succ, List.getElem?_cons_zero, fList, rl, seqOf, DL.listOf, lim, List.length_map, n1, if_true, R.st]
    rfl
  · have t := cBad_ok ns x4 x5 (dOnly (some x6)) x7 x8 x9 (dOnly (some x10)) x11 x12 x13 x14 (.d (.lst ((pairs (a :: as)).map sl))) x16 (.d (rl z)) x18 x19 x20 (.d (.lst ((a :: as).map rl))) z gz.1 gz.2 r
    have st := stepped_ok z [(true, z.length, ("a", 1))] [r.cell] ⟨by simp [fit1], trivial⟩ (by simp; omega)
    have e1 : [(true, z.length, (("a", 1) : Row))].foldl app1 z = z ++ [(("a", 1) : Row)] := by simp [app1]
    rw [e1] at st
    have st' : f_stepped [rl z, .lst [.tup [.str "in", .int z.length, .tup [.str "a", .int 1]]]] [r.cell] = .ok (rl (z ++ [(("a", 1) : Row)])) [r.cell] := st
    have ad := fun s => addR (a := z) (b := [(("a", 1) : Row)]) s (by simp; omega)
    have ad' : ∀ s, fAdd (rl z) (.lst [.tup [.str "a", .int 1]]) s = .ok (rl (z ++ [(("a", 1) : Row)])) s := ad
    have q1 : eqOk (.lst []) (.lst []) = true := eqOk_rl [] []
    have q2 : deq (.lst []) (.lst []) = true := by rw [show deq (.lst []) (.lst []) = _ from deq_rl [] []]; rfl
    have c3 := c3
    have ln : lenD ⟨[], []⟩ (rl z) = some z.length := by simp [lenD, seqOf, DL.listOf, rl]
    have ln' : ∀ s, lenD s (rl z) = some z.length := fun s => by simp [lenD, seqOf, DL.listOf, rl]
    unfold dRet C7 vAnd dOp
    simp only [dLst, t, fDisp, aNil, lim, List.length_nil, c0, if_true, R.bind, fEq, q1, q2, dVar, List.getElem?_cons_succ, List.getElem?_cons_zero, eqOk_rl, deq_rl, decide_true, dCall, aCons, dTup, dC, dCb, fLen, ln', List.length_cons, Nat.zero_add, Nat.reduceAdd, c1, c2, c3, List.append_nil, st', useF, ad', R.st]
theorem law_holds : ∀ ns : List Int, ns.length ≤ 63 → ∃ M, f_law [.rol ns] [] = .ok (.bl true) M := by
  intro ns hn
  have key : ∃ s, b_law ⟨[.d (.rol ns), .no, .no, .no, .no, .no, .no, .no, .no, .no, .no, .no, .no, .no, .no, .no, .no, .no, .no, .no, .no], []⟩ = .rt (.bl true) s := by
    have c2 : (2 : Nat) ≤ cap := by decide
    have c3 := c3
    have c1 : (1 : Nat) ≤ cap := by decide
    have c4 : (4 : Nat) ≤ cap := by decide
    have n1 : ns.length ≤ cap := by unfold cap; omega
    have ok0 : RSt.Ok ⟨ns, 0, 0, 1⟩ := ⟨Int.le_refl 0, Int.le_refl 0, show (0 : Int) ≤ 1 ∧ (1 : Int) < 2147483647 by decide⟩
    rw [law_eq]
    obtain ⟨zs, r1, x, e3, ok1, g1, l1⟩ := mkRows_ok ns .no .no .no .no .no .no .no .no .no .no .no .no .no .no .no .no .no .no ⟨ns, 0, 0, 1⟩ ok0
    obtain ⟨v, r2, e4, hv, ok2⟩ := draw ok1 (L := 4) (by decide) (by decide)
    have hsrc := iRg1_ok (da := dOp fAdd (dC (.int 1)) (dCall f__law_next [] (aCons (dVar 1) (aCons (dC (.int 4)) aNil)))) (s := ⟨[.d (.rol ns), .d (.ptr 0), .d (rl base3), .own (.lst [rl zs]), .no, .no, x, .no, .no, .no, .no, .no, .no, .no, .no, .no, .no, .no, .no, .no, .no], [r1.cell]⟩) (s1 := ⟨[.d (.rol ns), .d (.ptr 0), .d (rl base3), .own (.lst [rl zs]), .no, .no, x, .no, .no, .no, .no, .no, .no, .no, .no, .no, .no, .no, .no, .no, .no], [r2.cell]⟩) (n := v + 1) (by
        have : (1 + (v : Int)) = ((v + 1 : Nat) : Int) := by omega
        simp only [dOp, dC, dCall, aCons, aNil, dVar, R.bind, List.getElem?_cons_succ, List.getElem?_cons_zero, List.append_nil, e4, useF, fAdd, this]) (by omega)
    obtain ⟨s', h5, r3, ls, l, y4, y5, y6, y7, ok3, hl3, g3, rfl⟩ := dfor_inv (g := gN 4) (b := fresh) hsrc (by rw [nums_len]; unfold cap; omega)
      (fun i s => ∃ (r' : RSt) (ls : List (List Row)) (l : List Row) (y4 y5 y6 y7 : Slot), r'.Ok ∧ ls.length = i ∧ (∀ q ∈ ls ++ [l], Good q ∧ q.length ≤ 12 + 2 * i) ∧ s = ⟨[.d (.rol ns), .d (.ptr 0), .d (rl base3), .own (.lst ((ls ++ [l]).map rl)), y4, y5, y6, y7, .no, .no, .no, .no, .no, .no, .no, .no, .no, .no, .no, .no, .no], [r'.cell]⟩)
      ⟨r2, [], zs, _, _, _, _, ok2, rfl, by intro q hq; simp at hq; subst hq; exact ⟨g1, by omega⟩, rfl⟩ (by
        rintro i q s hx ⟨r3, ls, l, y4, y5, y6, y7, ok3, hl, hg, rfl⟩
        have hi : i < v + 1 := by
          have := (List.getElem?_eq_some_iff.mp hx).1
          rw [nums_len] at this; exact this
        have gl := hg l (by simp)
        obtain ⟨w, r4, a, b, c, e, ok4, gw, lw⟩ := fresh_ok ns (.d q) y5 y6 y7 .no .no .no .no .no .no .no .no .no .no .no .no .no ls l r3 ok3 gl.1 (by omega) (by omega)
        refine ⟨_, rfl, _, .inl e, r4, ls ++ [l], w, _, _, _, _, ok4, by simp [hl], ?_, rfl⟩
        intro u hu
        rcases List.mem_append.mp hu with h | h
        · have := hg u h
          exact ⟨this.1, by omega⟩
        · rw [List.mem_singleton.mp h]; exact ⟨gw, by omega⟩)
    rw [nums_len] at hl3 g3
    have hg : ∀ q ∈ ls ++ [l], Good q ∧ q.length ≤ 50 := fun q hq => ⟨(g3 q hq).1, by have := (g3 q hq).2; omega⟩
    have hls : (ls ++ [l]).length ≤ 100 := by simp; omega
    obtain ⟨s', h6, r4, z8, z9, z10, z11, z12, z13, z14, z18, z19, z20, ok4, rfl⟩ := dfor_inv (g := gN 8) (b := LB8) (srcList (r := r3) (ns := ns) y4 y5 y6 y7 .no .no .no .no .no .no .no .no .no .no .no .no .no (ls ++ [l]))
      (by rw [List.length_map]; unfold cap; omega) (fun _ s => ∃ (r' : RSt) (x8 x9 x10 x11 x12 x13 x14 x18 x19 x20 : Slot), r'.Ok ∧ s = ⟨[.d (.rol ns), .d (.ptr 0), .d (rl base3), .d (.lst ((ls ++ [l]).map rl)), y4, y5, y6, y7, x8, x9, x10, x11, x12, x13, x14, .no, .no, .no, x18, x19, x20], [r'.cell]⟩) ⟨r3, _, _, _, _, _, _, _, _, _, _, ok3, rfl⟩ (by
        rintro i x s hx ⟨r4, x8, x9, x10, x11, x12, x13, x14, x18, x19, x20, ok4, rfl⟩
        obtain ⟨a, ha, rfl⟩ := List.mem_map.mp (List.mem_of_getElem? hx)
        have ga := hg a ha
        obtain ⟨r5, y9, y10, y11, y12, y13, y14, y18, y19, y20, e, ok5⟩ := LB8_ok ns y4 y5 y6 y7 x8 x9 x10 x11 x12 x13 x14 .no .no .no x18 x19 x20 (ls ++ [l]) hg hls r4 ok4 a ga.1 ga.2
        exact ⟨_, rfl, _, .inl e, r5, _, _, _, _, _, _, _, _, _, _, ok5, rfl⟩)
    obtain ⟨s', h7⟩ := Rest_ok ns y4 y5 y6 y7 z8 z9 z10 z11 z12 z13 z14 .no .no .no z18 z19 z20 (ls ++ [l]) hg hls (by simp) r4
    refine ⟨s', ?_⟩
    refine (seq_nx (s1 := ⟨[.d (.rol ns), .d (.ptr 0), .no, .no, .no, .no, .no, .no, .no, .no, .no, .no, .no, .no, .no, .no, .no, .no, .no, .no, .no], [RSt.cell ⟨ns, 0, 0, 1⟩]⟩) ?_).trans ?_
    · simp only [dSetC, fDisp, aCons, aNil, dLst, dC, dVar, R.bind, List.getElem?_cons_zero, fList, seqOf, lim, List.length_map, n1, if_true, List.length_cons, List.length_nil, Nat.zero_add, Nat.reduceAdd, c4, R.st]
      rfl
    refine (seq_nx (s1 := ⟨[.d (.rol ns), .d (.ptr 0), .d (rl base3), .no, .no, .no, .no, .no, .no, .no, .no, .no, .no, .no, .no, .no, .no, .no, .no, .no, .no], [RSt.cell ⟨ns, 0, 0, 1⟩]⟩) ?_).trans ?_
    · simp only [dSet, fDisp, aCons, aNil, dLst, dTup, dC, R.bind, lim, if_true, List.length_cons, List.length_nil, Nat.zero_add, Nat.reduceAdd, c2, c3, R.st]
      rfl
    refine (seq_nx (s1 := ⟨[.d (.rol ns), .d (.ptr 0), .d (rl base3), .own (.lst [rl zs]), .no, .no, x, .no, .no, .no, .no, .no, .no, .no, .no, .no, .no, .no, .no, .no, .no], [r1.cell]⟩) ?_).trans ?_
    · unfold dSetO fDisp aCons dLst
      rw [e3]
      simp only [aNil, R.bind, lim, List.length_cons, List.length_nil, Nat.zero_add, c1, if_true, R.st]
      rfl
    refine (seq_nx h5).trans ?_
    show dSeq (dFor (iSeq (dVar 3)) (gN 8) LB8) Rest ⟨[.d (.rol ns), .d (.ptr 0), .d (rl base3), .d (.lst ((ls ++ [l]).map rl)), y4, y5, y6, y7, .no, .no, .no, .no, .no, .no, .no, .no, .no, .no, .no, .no, .no], [r3.cell]⟩ = _
    exact (seq_nx h6).trans h7
  obtain ⟨s, e⟩ := key
  refine ⟨s.M, ?_⟩
  show (match b_law ⟨[.d (.rol ns), .no, .no, .no, .no, .no, .no, .no, .no, .no, .no, .no, .no, .no, .no, .no, .no, .no, .no, .no, .no], []⟩ with
    | .rt d s => FR.ok d s.M
    | .nx s => .ok .non s.M
    | .ex c s => .ex c s.M
    | _ => .no) = _
  rw [e]
end K15

set_option maxHeartbeats 8000000
namespace K15
open PySem PySem.Spec PyProof.Rows L2 DL
/-! ### the text -/
def topS (i : Nat) : Stmt := PySem.Challenge.pw_desksagree_k15_whole_steps_between_rows.main.body.getD i (.Pass ⟨0, 0, 0, 0⟩)
abbrev s_steps_between : Stmt := topS 4
abbrev N_steps_between : List Str := ["one", "other", "start", "end", "found", "at"]
theorem sc_steps_between : FnScope N_steps_between ["one", "other"] (defScope s_steps_between) := ⟨rfl, rfl, rfl, by decide +kernel, rfl, by decide +kernel, by decide +kernel⟩
abbrev s_stepped : Stmt := topS 5
abbrev N_stepped : List Str := ["rows", "steps", "found", "word", "at", "row"]
theorem sc_stepped : FnScope N_stepped ["rows", "steps"] (defScope s_stepped) := ⟨rfl, rfl, rfl, by decide +kernel, rfl, by decide +kernel, by decide +kernel⟩
abbrev s_turned : Stmt := topS 6
abbrev N_turned : List Str := ["steps", "word", "at", "row"]
theorem sc_turned : FnScope N_turned ["steps"] (defScope s_turned) := ⟨rfl, rfl, rfl, by decide +kernel, rfl, by decide +kernel, by decide +kernel⟩
abbrev s_folded : Stmt := topS 7
abbrev N_folded : List Str := ["rows", "all_steps", "found", "steps"]
theorem sc_folded : FnScope N_folded ["rows", "all_steps"] (defScope s_folded) := ⟨rfl, rfl, rfl, by decide +kernel, rfl, by decide +kernel, by decide +kernel⟩
abbrev s__law_next : Stmt := topS 9
abbrev N__law_next : List Str := ["state", "limit", "cell", "value"]
theorem sc__law_next : FnScope N__law_next ["state", "limit"] (defScope s__law_next) := ⟨rfl, rfl, rfl, by decide +kernel, rfl, by decide +kernel, by decide +kernel⟩
abbrev s__law_same : Stmt := topS 10
abbrev N__law_same : List Str := ["actual", "expected", "k"]
theorem sc__law_same : FnScope N__law_same ["actual", "expected"] (defScope s__law_same) := ⟨rfl, rfl, rfl, by decide +kernel, rfl, by decide +kernel, by decide +kernel⟩
abbrev s__law_steps : Stmt := topS 11
abbrev N__law_steps : List Str := ["one", "other", "start", "room", "end", "gone", "k"]
theorem sc__law_steps : FnScope N__law_steps ["one", "other"] (defScope s__law_steps) := ⟨rfl, rfl, rfl, by decide +kernel, rfl, by decide +kernel, by decide +kernel⟩
abbrev s__law_is_unfit : Stmt := topS 12
abbrev N__law_is_unfit : List Str := ["rows", "steps"]
theorem sc__law_is_unfit : FnScope N__law_is_unfit ["rows", "steps"] (defScope s__law_is_unfit) := ⟨rfl, rfl, rfl, by decide +kernel, rfl, by decide +kernel, by decide +kernel⟩
abbrev s_law : Stmt := topS 13
abbrev N_law : List Str := ["script", "state", "some", "lists", "turn", "rows", "k", "at", "one", "other", "steps", "ahead", "behind", "moved", "third", "all_steps", "wrong", "before", "word", "place", "row"]
theorem sc_law : FnScope N_law ["script"] (defScope s_law) := ⟨rfl, rfl, rfl, by decide +kernel, rfl, by decide +kernel, by decide +kernel⟩
structure Tx (K : PySem.W.Frag) (mg : Str → Option Value) where
  z_bool : mg "bool" = none
  z_int : mg "int" = none
  z_isinstance : mg "isinstance" = none
  z_len : mg "len" = none
  z_list : mg "list" = none
  z_min : mg "min" = none
  z_range : mg "range" = none
  z_reversed : mg "reversed" = none
  z_str : mg "str" = none
  z_tuple : mg "tuple" = none
  a_InvalidPaper : Addr
  g_InvalidPaper : mg "InvalidPaper" = some (.ref a_InvalidPaper)
  xP_InvalidPaper : PySem.W.excIn K a_InvalidPaper [.type "ValueError", .type "Exception", .type "BaseException", .type "object"] "ValueError.__new__" = true
  kP_InvalidPaper : PySem.W.keepIn K (.ref a_InvalidPaper) = true
  bP_InvalidPaper : PySem.W.subIn K (.ref a_InvalidPaper) (.type "BaseException") = some true
  tP_InvalidPaper : PySem.W.typeIn K (.ref a_InvalidPaper) = some (.type "type")
  a_DeskError : Addr
  g_DeskError : mg "DeskError" = some (.ref a_DeskError)
  e_DeskError_InvalidPaper : PySem.W.exmOne K (.ref a_DeskError) (.ref a_InvalidPaper) = some false
  e_InvalidPaper_InvalidPaper : PySem.W.exmOne K (.ref a_InvalidPaper) (.ref a_InvalidPaper) = some true
  a_steps_between : Addr
  d_steps_between : FuncData
  F_steps_between : Fun K "steps_between" "steps_between" s_steps_between a_steps_between d_steps_between
  g_steps_between : mg "steps_between" = some (.ref a_steps_between)
  b_steps_between : Binds K d_steps_between ["one", "other"] []
  a_stepped : Addr
  d_stepped : FuncData
  F_stepped : Fun K "stepped" "stepped" s_stepped a_stepped d_stepped
  g_stepped : mg "stepped" = some (.ref a_stepped)
  b_stepped : Binds K d_stepped ["rows", "steps"] []
  a_turned : Addr
  d_turned : FuncData
  F_turned : Fun K "turned" "turned" s_turned a_turned d_turned
  g_turned : mg "turned" = some (.ref a_turned)
  b_turned : Binds K d_turned ["steps"] []
  a_folded : Addr
  d_folded : FuncData
  F_folded : Fun K "folded" "folded" s_folded a_folded d_folded
  g_folded : mg "folded" = some (.ref a_folded)
  b_folded : Binds K d_folded ["rows", "all_steps"] []
  a__law_next : Addr
  d__law_next : FuncData
  F__law_next : Fun K "_law_next" "_law_next" s__law_next a__law_next d__law_next
  g__law_next : mg "_law_next" = some (.ref a__law_next)
  b__law_next : Binds K d__law_next ["state", "limit"] []
  a__law_same : Addr
  d__law_same : FuncData
  F__law_same : Fun K "_law_same" "_law_same" s__law_same a__law_same d__law_same
  g__law_same : mg "_law_same" = some (.ref a__law_same)
  b__law_same : Binds K d__law_same ["actual", "expected"] []
  a__law_steps : Addr
  d__law_steps : FuncData
  F__law_steps : Fun K "_law_steps" "_law_steps" s__law_steps a__law_steps d__law_steps
  g__law_steps : mg "_law_steps" = some (.ref a__law_steps)
  b__law_steps : Binds K d__law_steps ["one", "other"] []
  a__law_is_unfit : Addr
  d__law_is_unfit : FuncData
  F__law_is_unfit : Fun K "_law_is_unfit" "_law_is_unfit" s__law_is_unfit a__law_is_unfit d__law_is_unfit
  g__law_is_unfit : mg "_law_is_unfit" = some (.ref a__law_is_unfit)
  b__law_is_unfit : Binds K d__law_is_unfit ["rows", "steps"] []
  a_law : Addr
  d_law : FuncData
  F_law : Fun K "law" "law" s_law a_law d_law
  g_law : mg "law" = some (.ref a_law)
  b_law : Binds K d_law ["script"] []
section
variable {P : Program} {wd : World} {K : PySem.W.Frag} {mg : Str → Option Value} {base : Heap}
theorem w_steps_between (T : Tx K mg) : FnOk P wd K mg base (L2.CX P wd) 1 T.a_steps_between T.d_steps_between ["one", "other"] (spD K mg 2 f_steps_between) :=
  fn_d T.F_steps_between sc_steps_between fun cdv A outer s H E w0 hr tk po =>
 (dss_cons (ds_set (i := 2) sc_steps_between.nd rfl (Or.inl rfl) de_int)
 (dss_cons (ds_while whileMax po (DW.dt (dw_and (dt_cmp of_lt (de_var 2) (de_callB cf_len (by rfl) T.z_len PySem.boot_len (da_cons (de_var 0) da_nil))) (dw_and (dt_cmp of_lt (de_var 2) (de_callB cf_len (by rfl) T.z_len PySem.boot_len (da_cons (de_var 1) da_nil))) (dw_and1 (dt_cmp (of_eq hr.units) (de_ix (de_var 0) (de_var 2)) (de_ix (de_var 1) (de_var 2)))))))
 (dss_one (ds_set (i := 2) sc_steps_between.nd rfl (Or.inl rfl) (de_op of_add (de_var 2) de_int))))
 (dss_cons (ds_set (i := 3) sc_steps_between.nd rfl (Or.inl rfl) de_int)
 (dss_cons (ds_while whileMax po (DW.dt (dw_and (dt_cmp of_lt (de_var 3) (de_op of_sub (de_callB cf_len (by rfl) T.z_len PySem.boot_len (da_cons (de_var 0) da_nil)) (de_var 2))) (dw_and (dt_cmp of_lt (de_var 3) (de_op of_sub (de_callB cf_len (by rfl) T.z_len PySem.boot_len (da_cons (de_var 1) da_nil)) (de_var 2))) (dw_and1 (dt_cmp (of_eq hr.units) (de_ix (de_var 0) (de_op of_sub (de_neg de_int) (de_var 3))) (de_ix (de_var 1) (de_op of_sub (de_neg de_int) (de_var 3))))))))
 (dss_one (ds_set (i := 3) sc_steps_between.nd rfl (Or.inl rfl) (de_op of_add (de_var 3) de_int))))
 (dss_cons (ds_setLc (i := 4) rfl sc_steps_between.nd rfl rfl (sw_true rfl rfl rfl (by decide +kernel)) (di_range3 (by rfl) T.z_range (da_cons (de_op of_sub (de_op of_sub (de_callB cf_len (by rfl) T.z_len PySem.boot_len (da_cons (de_var 0) da_nil)) (de_var 3)) de_int) (da_cons (de_op of_sub (de_var 2) de_int) (da_cons (de_neg de_int) da_nil)))) (blkOk_by (own := [("at", 5)]) (N := N_steps_between) (sc := defScope s_steps_between) (by decide +kernel)) (fun _ _ _ _ _ _ => (dg_name (i := 5) sc_steps_between.nd rfl (Or.inl rfl))) (fun _ _ _ _ _ _ => dts_nil) (fun _ _ _ _ _ _ => (de_tup (da_cons de_str (da_cons (de_var 5) (da_cons (de_ix (de_var 0) (de_var 5)) da_nil))))))
 (dss_one (ds_ret (de_op of_add (de_var 4) (de_of (df_lc rfl sc_steps_between.nd (di_range2 (by rfl) T.z_range (da_cons (de_var 2) (da_cons (de_op of_sub (de_callB cf_len (by rfl) T.z_len PySem.boot_len (da_cons (de_var 1) da_nil)) (de_var 3)) da_nil))) (blkOk_by (own := [("at", 5)]) (N := N_steps_between) (sc := defScope s_steps_between) (by decide +kernel)) (fun _ _ _ _ _ _ => (dg_name (i := 5) sc_steps_between.nd rfl (Or.inl rfl))) (fun _ _ _ _ _ _ => dts_nil) (fun _ _ _ _ _ _ => (de_tup (da_cons de_str (da_cons (de_var 5) (da_cons (de_ix (de_var 1) (de_var 5)) da_nil)))))))))))))))
theorem w_stepped (T : Tx K mg) : FnOk P wd K mg base (L2.CX P wd) 1 T.a_stepped T.d_stepped ["rows", "steps"] (spD K mg 2 f_stepped) :=
  fn_d T.F_stepped sc_stepped fun cdv A outer s H E w0 hr tk po =>
 (dss_cons (ds_setO (i := 2) sc_stepped.nd rfl (Or.inl rfl) (df_list (by rfl) T.z_list (by decide +kernel) (da_cons (de_var 0) da_nil)))
 (dss_cons (ds_for po rfl (di_seq (de_var 1)) (dg_tup rfl (dgs_cons (dg_name (i := 3) sc_stepped.nd rfl (Or.inl rfl)) (dgs_cons (dg_name (i := 4) sc_stepped.nd rfl (Or.inl rfl)) (dgs_cons (dg_name (i := 5) sc_stepped.nd rfl (Or.inl rfl)) dgs_nil))))
 (dss_cons (ds_if (DW.dt (dw_or (dt_tru (de_isi (T := "bool") (by decide +kernel) (by rfl) T.z_isinstance (by decide +kernel) (de_var 4) (by rfl) T.z_bool (by decide +kernel))) (dw_or (dt_not (dt_tru (de_isi (T := "int") (by decide +kernel) (by rfl) T.z_isinstance (by decide +kernel) (de_var 4) (by rfl) T.z_int (by decide +kernel)))) (dw_or1 (dt_not (dt_chain of_le of_le de_int (de_var 4) (de_lenO (pv 2) (by rfl) T.z_len PySem.boot_len)))))))
 (dss_one (ds_raise rfl tk (pmk_own PySem.F.excBase_ValueError T.xP_InvalidPaper T.g_InvalidPaper T.kP_InvalidPaper (raises_own T.bP_InvalidPaper T.tP_InvalidPaper) rfl) T.g_InvalidPaper))
 dss_nil)
 (dss_one (ds_if (dt_cmp (of_eq hr.units) (de_var 3) de_str)
 (dss_one (ds_expr (de_mut PySem.F.slot_list_insert PySem.F.type_list_insert mf_insert (pv 2) (da_cons (de_var 4) (da_cons (de_var 5) da_nil)))))
 (dss_one (ds_if (DW.dt (dw_and (dt_cmp (of_eq hr.units) (de_var 3) de_str) (dw_and (dt_cmp of_lt (de_var 4) (de_lenO (pv 2) (by rfl) T.z_len PySem.boot_len)) (dw_and1 (dt_cmp (of_eq hr.units) (de_ixO (pv 2) (de_var 4)) (de_var 5))))))
 (dss_one (ds_expr (de_mut PySem.F.slot_list_pop PySem.F.type_list_pop mf_pop (pv 2) (da_cons (de_var 4) da_nil))))
 (dss_one (ds_raise rfl tk (pmk_own PySem.F.excBase_ValueError T.xP_InvalidPaper T.g_InvalidPaper T.kP_InvalidPaper (raises_own T.bP_InvalidPaper T.tP_InvalidPaper) rfl) T.g_InvalidPaper))))))))
 (dss_frz 2 (dss_one (ds_ret (de_var 2))))))
theorem w_turned (T : Tx K mg) : FnOk P wd K mg base (L2.CX P wd) 1 T.a_turned T.d_turned ["steps"] (spD K mg 1 f_turned) :=
  fn_d T.F_turned sc_turned fun cdv A outer s H E w0 hr tk po =>
 (dss_one (ds_ret (de_of (df_lc rfl sc_turned.nd (di_rev (by rfl) T.z_reversed (de_var 0)) (blkOk_by (own := [("word", 1), ("at", 2), ("row", 3)]) (N := N_turned) (sc := defScope s_turned) (by decide +kernel)) (fun _ _ _ _ _ _ => (dg_tup rfl (dgs_cons (dg_name (i := 1) sc_turned.nd rfl (Or.inl rfl)) (dgs_cons (dg_name (i := 2) sc_turned.nd rfl (Or.inl rfl)) (dgs_cons (dg_name (i := 3) sc_turned.nd rfl (Or.inl rfl)) dgs_nil))))) (fun _ _ _ _ _ _ => dts_nil) (fun _ _ _ _ _ _ => (de_tup (da_cons (de_if (dt_cmp (of_eq hr.units) (de_var 1) de_str) de_str de_str) (da_cons (de_var 2) (da_cons (de_var 3) da_nil)))))))))
theorem w_folded (T : Tx K mg) : FnOk P wd K mg base (L2.CX P wd) 2 T.a_folded T.d_folded ["rows", "all_steps"] (spD K mg 2 f_folded) :=
  fn_d T.F_folded sc_folded fun cdv A outer s H E w0 hr tk po =>
 (dss_cons (ds_set (i := 2) sc_folded.nd rfl (Or.inl rfl) (de_of (df_list (by rfl) T.z_list (by decide +kernel) (da_cons (de_var 0) da_nil))))
 (dss_cons (ds_for po rfl (di_seq (de_var 1)) (dg_name (i := 3) sc_folded.nd rfl (Or.inl rfl))
 (dss_one (ds_set (i := 2) sc_folded.nd rfl (Or.inl rfl) (de_call tk ((w_stepped T).mono (by decide)) hr (by rfl) T.g_stepped T.F_stepped.kp T.b_stepped .nil (fun _ _ => rfl) (da_cons (de_var 2) (da_cons (de_var 3) da_nil)) (len_dd (len_cons (len_cons len_nil)) rfl)))))
 (dss_one (ds_ret (de_var 2)))))
theorem w__law_next (T : Tx K mg) : FnOk P wd K mg base (L2.CX P wd) 1 T.a__law_next T.d__law_next ["state", "limit"] (spD K mg 2 f__law_next) :=
  fn_d T.F__law_next sc__law_next fun cdv A outer s H E w0 hr tk po =>
 (dss_cons (ds_if (DW.dt (dw_and (dt_cmp (of_eq hr.units) (de_ixO (pv 0) de_int) de_int) (dw_and1 (dt_cmp of_lt (de_ixO (pv 0) de_int) (de_callB cf_len (by rfl) T.z_len PySem.boot_len (da_cons (de_ixO (pv 0) de_int) da_nil))))))
 (dss_cons (ds_set (i := 2) sc__law_next.nd rfl (Or.inl rfl) (de_ix (de_ixO (pv 0) de_int) (de_ixO (pv 0) de_int)))
 (dss_cons (ds_augIx (pv 0) de_int de_int)
 (dss_one (ds_if (dt_cmp of_ge (de_var 2) (de_op of_pow de_int de_int))
 (dss_one (ds_setIx (de_var 2) (pv 0) de_int))
 (dss_one (ds_setIx (de_op of_mod (de_callTy cf_int (by rfl) T.z_int (by decide +kernel) (da_cons (de_op of_add (de_op of_add (de_op of_mul (de_ixO (pv 0) de_int) de_int) (de_op of_mod (de_callTy cf_int (by rfl) T.z_int (by decide +kernel) (da_cons (de_var 2) da_nil)) de_int)) de_int) da_nil)) de_int) (pv 0) de_int))))))
 dss_nil)
 (dss_cons (ds_if (dt_cmp of_gt (de_ixO (pv 0) de_int) de_int)
 (dss_cons (ds_set (i := 3) sc__law_next.nd rfl (Or.inl rfl) (de_op of_mod (de_callTy cf_int (by rfl) T.z_int (by decide +kernel) (da_cons (de_ixO (pv 0) de_int) da_nil)) (de_var 1)))
 (dss_cons (ds_setIx (de_op of_div (de_ixO (pv 0) de_int) (de_var 1)) (pv 0) de_int)
 (dss_one (ds_ret (de_var 3)))))
 dss_nil)
 (dss_cons (ds_setIx (de_op of_mod (de_callTy cf_int (by rfl) T.z_int (by decide +kernel) (da_cons (de_op of_add (de_op of_mul (de_ixO (pv 0) de_int) de_int) de_int) da_nil)) de_int) (pv 0) de_int)
 (dss_one (ds_ret (de_op of_mod (de_callTy cf_int (by rfl) T.z_int (by decide +kernel) (da_cons (de_op of_div (de_ixO (pv 0) de_int) de_int) da_nil)) (de_var 1)))))))
theorem wr__law_same (T : Tx K mg) : ∀ n : Nat, FnOk P wd K mg base (L2.CX P wd) (0 + n) T.a__law_same T.d__law_same ["actual", "expected"] (spD K mg 2 (r__law_same n))
  | 0 => fn_no
  | n + 1 => by
    have ih : FnOk P wd K mg base (L2.CX P wd) (0 + n) T.a__law_same T.d__law_same ["actual", "expected"] (spD K mg 2 (r__law_same n)) := wr__law_same T n
    refine fn_d T.F__law_same sc__law_same fun cdv A outer s H E w0 hr tk po => ?_
    exact (dss_cons (ds_if (dt_cmp of_is (de_var 1) de_non)
 (dss_one (ds_ret (de_cmp of_is (de_var 0) de_non)))
 dss_nil)
 (dss_cons (ds_if (dt_tru (de_isi (T := "bool") (by decide +kernel) (by rfl) T.z_isinstance (by decide +kernel) (de_var 1) (by rfl) T.z_bool (by decide +kernel)))
 (dss_one (ds_ret (de_and (de_isi (T := "bool") (by decide +kernel) (by rfl) T.z_isinstance (by decide +kernel) (de_var 0) (by rfl) T.z_bool (by decide +kernel)) (de_one (de_cmp (of_eq hr.units) (de_var 0) (de_var 1))))))
 dss_nil)
 (dss_cons (ds_if (dt_tru (de_isi (T := "int") (by decide +kernel) (by rfl) T.z_isinstance (by decide +kernel) (de_var 1) (by rfl) T.z_int (by decide +kernel)))
 (dss_one (ds_ret (de_and (de_isi (T := "int") (by decide +kernel) (by rfl) T.z_isinstance (by decide +kernel) (de_var 0) (by rfl) T.z_int (by decide +kernel)) (de_and (de_not (de_isi (T := "bool") (by decide +kernel) (by rfl) T.z_isinstance (by decide +kernel) (de_var 0) (by rfl) T.z_bool (by decide +kernel))) (de_one (de_cmp (of_eq hr.units) (de_var 0) (de_var 1)))))))
 dss_nil)
 (dss_cons (ds_if (dt_tru (de_isi (T := "str") (by decide +kernel) (by rfl) T.z_isinstance (by decide +kernel) (de_var 1) (by rfl) T.z_str (by decide +kernel)))
 (dss_one (ds_ret (de_and (de_isi (T := "str") (by decide +kernel) (by rfl) T.z_isinstance (by decide +kernel) (de_var 0) (by rfl) T.z_str (by decide +kernel)) (de_one (de_cmp (of_eq hr.units) (de_var 0) (de_var 1))))))
 dss_nil)
 (dss_cons (ds_if (DW.dt (dw_and (dt_tru (de_isi (T := "tuple") (by decide +kernel) (by rfl) T.z_isinstance (by decide +kernel) (de_var 1) (by rfl) T.z_tuple (by decide +kernel))) (dw_and1 (dt_not (dt_tru (de_isi (T := "tuple") (by decide +kernel) (by rfl) T.z_isinstance (by decide +kernel) (de_var 0) (by rfl) T.z_tuple (by decide +kernel)))))))
 (dss_one (ds_ret de_bl))
 dss_nil)
 (dss_cons (ds_if (DW.dt (dw_and (dt_tru (de_isi (T := "list") (by decide +kernel) (by rfl) T.z_isinstance (by decide +kernel) (de_var 1) (by rfl) T.z_list (by decide +kernel))) (dw_and1 (dt_not (dt_tru (de_isi (T := "list") (by decide +kernel) (by rfl) T.z_isinstance (by decide +kernel) (de_var 0) (by rfl) T.z_list (by decide +kernel)))))))
 (dss_one (ds_ret de_bl))
 dss_nil)
 (dss_cons (ds_if (dt_cmp (of_ne hr.units) (de_callB cf_len (by rfl) T.z_len PySem.boot_len (da_cons (de_var 0) da_nil)) (de_callB cf_len (by rfl) T.z_len PySem.boot_len (da_cons (de_var 1) da_nil)))
 (dss_one (ds_ret de_bl))
 dss_nil)
 (dss_cons (ds_for po rfl (di_range1 (by rfl) T.z_range (da_cons (de_callB cf_len (by rfl) T.z_len PySem.boot_len (da_cons (de_var 1) da_nil)) da_nil)) (dg_name (i := 2) sc__law_same.nd rfl (Or.inl rfl))
 (dss_one (ds_if (dt_not (dt_tru (de_call tk ih hr (by rfl) T.g__law_same T.F__law_same.kp T.b__law_same .nil (fun _ _ => rfl) (da_cons (de_ix (de_var 0) (de_var 2)) (da_cons (de_ix (de_var 1) (de_var 2)) da_nil)) (len_dd (len_cons (len_cons len_nil)) rfl))))
 (dss_one (ds_ret de_bl))
 dss_nil)))
 (dss_one (ds_ret de_bl))))))))))
theorem w__law_same (T : Tx K mg) : FnOk P wd K mg base (L2.CX P wd) 8 T.a__law_same T.d__law_same ["actual", "expected"] (spD K mg 2 f__law_same) := wr__law_same T 8
theorem w__law_steps (T : Tx K mg) : FnOk P wd K mg base (L2.CX P wd) 1 T.a__law_steps T.d__law_steps ["one", "other"] (spD K mg 2 f__law_steps) :=
  fn_d T.F__law_steps sc__law_steps fun cdv A outer s H E w0 hr tk po =>
 (dss_cons (ds_set (i := 2) sc__law_steps.nd rfl (Or.inl rfl) (de_callB cf_len (by rfl) T.z_len PySem.boot_len (da_cons (de_of (df_lc rfl sc__law_steps.nd (di_range1 (by rfl) T.z_range (da_cons (de_callB (cf_min rfl) (by rfl) T.z_min (by decide +kernel) (da_cons (de_callB cf_len (by rfl) T.z_len PySem.boot_len (da_cons (de_var 0) da_nil)) (da_cons (de_callB cf_len (by rfl) T.z_len PySem.boot_len (da_cons (de_var 1) da_nil)) da_nil))) da_nil)) (blkOk_by (own := [("k", 6)]) (N := N__law_steps) (sc := defScope s__law_steps) (by decide +kernel)) (fun _ _ _ _ _ _ => (dg_name (i := 6) sc__law_steps.nd rfl (Or.inl rfl))) (fun _ _ _ _ _ _ => (dts_one (dt_cmp (of_eq hr.units) (de_sl (de_var 0) do_no (do_part (de_op of_add (de_var 6) de_int))) (de_sl (de_var 1) do_no (do_part (de_op of_add (de_var 6) de_int)))))) (fun _ _ _ _ _ _ => (de_var 6)))) da_nil)))
 (dss_cons (ds_set (i := 3) sc__law_steps.nd rfl (Or.inl rfl) (de_op of_sub (de_callB (cf_min rfl) (by rfl) T.z_min (by decide +kernel) (da_cons (de_callB cf_len (by rfl) T.z_len PySem.boot_len (da_cons (de_var 0) da_nil)) (da_cons (de_callB cf_len (by rfl) T.z_len PySem.boot_len (da_cons (de_var 1) da_nil)) da_nil))) (de_var 2)))
 (dss_cons (ds_set (i := 4) sc__law_steps.nd rfl (Or.inl rfl) (de_callB cf_len (by rfl) T.z_len PySem.boot_len (da_cons (de_of (df_lc rfl sc__law_steps.nd (di_range2 (by rfl) T.z_range (da_cons de_int (da_cons (de_op of_add (de_var 3) de_int) da_nil))) (blkOk_by (own := [("k", 6)]) (N := N__law_steps) (sc := defScope s__law_steps) (by decide +kernel)) (fun _ _ _ _ _ _ => (dg_name (i := 6) sc__law_steps.nd rfl (Or.inl rfl))) (fun _ _ _ _ _ _ => (dts_one (dt_cmp (of_eq hr.units) (de_sl (de_var 0) (do_part (de_op of_sub (de_callB cf_len (by rfl) T.z_len PySem.boot_len (da_cons (de_var 0) da_nil)) (de_var 6))) do_no) (de_sl (de_var 1) (do_part (de_op of_sub (de_callB cf_len (by rfl) T.z_len PySem.boot_len (da_cons (de_var 1) da_nil)) (de_var 6))) do_no)))) (fun _ _ _ _ _ _ => (de_var 6)))) da_nil)))
 (dss_cons (ds_setLc (i := 5) rfl sc__law_steps.nd rfl rfl (sw_true rfl rfl rfl (by decide +kernel)) (di_range2 (by rfl) T.z_range (da_cons (de_var 2) (da_cons (de_op of_sub (de_callB cf_len (by rfl) T.z_len PySem.boot_len (da_cons (de_var 0) da_nil)) (de_var 4)) da_nil))) (blkOk_by (own := [("k", 6)]) (N := N__law_steps) (sc := defScope s__law_steps) (by decide +kernel)) (fun _ _ _ _ _ _ => (dg_name (i := 6) sc__law_steps.nd rfl (Or.inl rfl))) (fun _ _ _ _ _ _ => dts_nil) (fun _ _ _ _ _ _ => (de_tup (da_cons de_str (da_cons (de_var 6) (da_cons (de_ix (de_var 0) (de_var 6)) da_nil))))))
 (dss_one (ds_ret (de_op of_add (de_rev (de_var 5)) (de_of (df_lc rfl sc__law_steps.nd (di_range2 (by rfl) T.z_range (da_cons (de_var 2) (da_cons (de_op of_sub (de_callB cf_len (by rfl) T.z_len PySem.boot_len (da_cons (de_var 1) da_nil)) (de_var 4)) da_nil))) (blkOk_by (own := [("k", 6)]) (N := N__law_steps) (sc := defScope s__law_steps) (by decide +kernel)) (fun _ _ _ _ _ _ => (dg_name (i := 6) sc__law_steps.nd rfl (Or.inl rfl))) (fun _ _ _ _ _ _ => dts_nil) (fun _ _ _ _ _ _ => (de_tup (da_cons de_str (da_cons (de_var 6) (da_cons (de_ix (de_var 1) (de_var 6)) da_nil))))))))))))))
theorem w__law_is_unfit (T : Tx K mg) : FnOk P wd K mg base (L2.CX P wd) 2 T.a__law_is_unfit T.d__law_is_unfit ["rows", "steps"] (spD K mg 2 f__law_is_unfit) :=
  fn_d T.F__law_is_unfit sc__law_is_unfit fun cdv A outer s H E w0 hr tk po =>
 (dss_cons (ds_try rfl rfl ⟨rfl, by decide, .inl T.g_InvalidPaper⟩ tk (tbl_cons T.g_DeskError T.e_DeskError_InvalidPaper (tbl_cons T.g_InvalidPaper T.e_InvalidPaper_InvalidPaper tbl_nil)) (fun W pn xe tk po => (dss_one (ds_expr (de_call tk ((w_stepped T).mono (by decide)) hr (by rfl) T.g_stepped T.F_stepped.kp T.b_stepped .nil (fun _ _ => rfl) (da_cons (de_var 0) (da_cons (de_var 1) da_nil)) (len_dd (len_cons (len_cons len_nil)) rfl))))) (fun a oe pn => (dss_one (ds_ret de_bl))))
 (dss_one (ds_ret de_bl)))
theorem w_law (T : Tx K mg) : FnOk P wd K mg base (L2.CX P wd) 9 T.a_law T.d_law ["script"] (spD K mg 1 f_law) :=
  fn_d T.F_law sc_law fun cdv A outer s H E w0 hr tk po =>
 (dss_cons (ds_setC (i := 1) sc_law.nd rfl (Or.inr rfl) (df_lst (da_cons (de_of (df_list (by rfl) T.z_list (by decide +kernel) (da_cons (de_var 0) da_nil))) (da_cons de_int (da_cons de_int (da_cons de_int da_nil))))))
 (dss_cons (ds_set (i := 2) sc_law.nd rfl (Or.inr rfl) (de_of (df_lst (da_cons (de_tup (da_cons de_str (da_cons de_int da_nil))) (da_cons (de_tup (da_cons de_str (da_cons de_int da_nil))) (da_cons (de_tup (da_cons de_str (da_cons de_int da_nil))) da_nil))))))
 (dss_cons (ds_setO (i := 3) sc_law.nd rfl (Or.inr rfl) (df_lst (da_cons (de_of (df_lc rfl sc_law.nd (di_range1 (by rfl) T.z_range (da_cons (de_call tk ((w__law_next T).mono (by decide)) hr (by rfl) T.g__law_next T.F__law_next.kp T.b__law_next .nil (fun _ _ => rfl) (da_cons (de_var 1) (da_cons de_int da_nil)) (len_dd (len_cons (len_cons len_nil)) rfl)) da_nil)) (blkOk_by (own := [("k", 6)]) (N := N_law) (sc := defScope s_law) (by decide +kernel)) (fun _ _ _ _ _ _ => (dg_name (i := 6) sc_law.nd rfl (Or.inl rfl))) (fun _ _ _ _ _ _ => dts_nil) (fun _ _ _ _ _ _ => (de_ix (de_var 2) (de_call takes0 ((w__law_next T).mono (by decide)) hr (by rfl) T.g__law_next T.F__law_next.kp T.b__law_next .nil (fun _ _ => rfl) (da_cons (de_var 1) (da_cons de_int da_nil)) (len_dd (len_cons (len_cons len_nil)) rfl)))))) da_nil)))
 (dss_cons (ds_for po rfl (di_range1 (by rfl) T.z_range (da_cons (de_op of_add de_int (de_call tk ((w__law_next T).mono (by decide)) hr (by rfl) T.g__law_next T.F__law_next.kp T.b__law_next .nil (fun _ _ => rfl) (da_cons (de_var 1) (da_cons de_int da_nil)) (len_dd (len_cons (len_cons len_nil)) rfl))) da_nil)) (dg_name (i := 4) sc_law.nd rfl (Or.inl rfl))
 (dss_cons (ds_set (i := 5) sc_law.nd rfl (Or.inr rfl) (de_of (df_list (by rfl) T.z_list (by decide +kernel) (da_cons (de_ixO (pv 3) (de_neg de_int)) da_nil))))
 (dss_cons (ds_for po rfl (di_range1 (by rfl) T.z_range (da_cons (de_call tk ((w__law_next T).mono (by decide)) hr (by rfl) T.g__law_next T.F__law_next.kp T.b__law_next .nil (fun _ _ => rfl) (da_cons (de_var 1) (da_cons de_int da_nil)) (len_dd (len_cons (len_cons len_nil)) rfl)) da_nil)) (dg_name (i := 6) sc_law.nd rfl (Or.inl rfl))
 (dss_cons (ds_set (i := 7) sc_law.nd rfl (Or.inl rfl) (de_call tk ((w__law_next T).mono (by decide)) hr (by rfl) T.g__law_next T.F__law_next.kp T.b__law_next .nil (fun _ _ => rfl) (da_cons (de_var 1) (da_cons (de_op of_add (de_callB cf_len (by rfl) T.z_len PySem.boot_len (da_cons (de_var 5) da_nil)) de_int) da_nil)) (len_dd (len_cons (len_cons len_nil)) rfl)))
 (dss_one (ds_if (dt_cmp (of_eq hr.units) (de_call tk ((w__law_next T).mono (by decide)) hr (by rfl) T.g__law_next T.F__law_next.kp T.b__law_next .nil (fun _ _ => rfl) (da_cons (de_var 1) (da_cons de_int da_nil)) (len_dd (len_cons (len_cons len_nil)) rfl)) de_int)
 (dss_one (ds_set (i := 5) sc_law.nd rfl (Or.inr rfl) (de_op of_add (de_op of_add (de_sl (de_var 5) do_no (do_part (de_var 7))) (de_of (df_lst (da_cons (de_ix (de_var 2) (de_call tk ((w__law_next T).mono (by decide)) hr (by rfl) T.g__law_next T.F__law_next.kp T.b__law_next .nil (fun _ _ => rfl) (da_cons (de_var 1) (da_cons de_int da_nil)) (len_dd (len_cons (len_cons len_nil)) rfl))) da_nil)))) (de_sl (de_var 5) (do_part (de_var 7)) do_no))))
 (dss_one (ds_set (i := 5) sc_law.nd rfl (Or.inr rfl) (de_op of_add (de_sl (de_var 5) do_no (do_part (de_var 7))) (de_sl (de_var 5) (do_part (de_op of_add (de_var 7) de_int)) do_no))))))))
 (dss_one (ds_expr (de_mut PySem.F.slot_list_append PySem.F.type_list_append mf_append (pv 3) (da_cons (de_var 5) da_nil)))))))
 (dss_frz 3 (dss_cons (ds_for po rfl (di_seq (de_var 3)) (dg_name (i := 8) sc_law.nd rfl (Or.inl rfl))
 (dss_cons (ds_if (dt_not (dt_tru (de_call tk ((w__law_same T).mono (by decide)) hr (by rfl) T.g__law_same T.F__law_same.kp T.b__law_same .nil (fun _ _ => rfl) (da_cons (de_call tk ((w_steps_between T).mono (by decide)) hr (by rfl) T.g_steps_between T.F_steps_between.kp T.b_steps_between .nil (fun _ _ => rfl) (da_cons (de_var 8) (da_cons (de_var 8) da_nil)) (len_dd (len_cons (len_cons len_nil)) rfl)) (da_cons (de_of (df_lst da_nil)) da_nil)) (len_dd (len_cons (len_cons len_nil)) rfl))))
 (dss_one (ds_ret de_bl))
 dss_nil)
 (dss_frz 3 (dss_one (ds_for po rfl (di_seq (de_var 3)) (dg_name (i := 9) sc_law.nd rfl (Or.inl rfl))
 (dss_cons (ds_set (i := 10) sc_law.nd rfl (Or.inl rfl) (de_call tk ((w_steps_between T).mono (by decide)) hr (by rfl) T.g_steps_between T.F_steps_between.kp T.b_steps_between .nil (fun _ _ => rfl) (da_cons (de_var 8) (da_cons (de_var 9) da_nil)) (len_dd (len_cons (len_cons len_nil)) rfl)))
 (dss_cons (ds_if (DW.dt (dw_or (dt_not (dt_tru (de_call tk ((w__law_same T).mono (by decide)) hr (by rfl) T.g__law_same T.F__law_same.kp T.b__law_same .nil (fun _ _ => rfl) (da_cons (de_var 10) (da_cons (de_call tk ((w__law_steps T).mono (by decide)) hr (by rfl) T.g__law_steps T.F__law_steps.kp T.b__law_steps .nil (fun _ _ => rfl) (da_cons (de_var 8) (da_cons (de_var 9) da_nil)) (len_dd (len_cons (len_cons len_nil)) rfl)) da_nil)) (len_dd (len_cons (len_cons len_nil)) rfl)))) (dw_or (dt_not (dt_tru (de_call tk ((w__law_same T).mono (by decide)) hr (by rfl) T.g__law_same T.F__law_same.kp T.b__law_same .nil (fun _ _ => rfl) (da_cons (de_call tk ((w_stepped T).mono (by decide)) hr (by rfl) T.g_stepped T.F_stepped.kp T.b_stepped .nil (fun _ _ => rfl) (da_cons (de_var 8) (da_cons (de_var 10) da_nil)) (len_dd (len_cons (len_cons len_nil)) rfl)) (da_cons (de_var 9) da_nil)) (len_dd (len_cons (len_cons len_nil)) rfl)))) (dw_or1 (dt_not (dt_tru (de_call tk ((w__law_same T).mono (by decide)) hr (by rfl) T.g__law_same T.F__law_same.kp T.b__law_same .nil (fun _ _ => rfl) (da_cons (de_call tk ((w_stepped T).mono (by decide)) hr (by rfl) T.g_stepped T.F_stepped.kp T.b_stepped .nil (fun _ _ => rfl) (da_cons (de_var 9) (da_cons (de_call tk ((w_turned T).mono (by decide)) hr (by rfl) T.g_turned T.F_turned.kp T.b_turned .nil (fun _ _ => rfl) (da_cons (de_var 10) da_nil) (len_dd (len_cons len_nil) rfl)) da_nil)) (len_dd (len_cons (len_cons len_nil)) rfl)) (da_cons (de_var 8) da_nil)) (len_dd (len_cons (len_cons len_nil)) rfl))))))))
 (dss_one (ds_ret de_bl))
 dss_nil)
 (dss_cons (ds_if (DW.dt (dw_or (dt_not (dt_tru (de_call tk ((w__law_same T).mono (by decide)) hr (by rfl) T.g__law_same T.F__law_same.kp T.b__law_same .nil (fun _ _ => rfl) (da_cons (de_call tk ((w_turned T).mono (by decide)) hr (by rfl) T.g_turned T.F_turned.kp T.b_turned .nil (fun _ _ => rfl) (da_cons (de_call tk ((w_turned T).mono (by decide)) hr (by rfl) T.g_turned T.F_turned.kp T.b_turned .nil (fun _ _ => rfl) (da_cons (de_var 10) da_nil) (len_dd (len_cons len_nil) rfl)) da_nil) (len_dd (len_cons len_nil) rfl)) (da_cons (de_var 10) da_nil)) (len_dd (len_cons (len_cons len_nil)) rfl)))) (dw_or1 (dt_cmp (of_ne hr.units) (de_callB cf_len (by rfl) T.z_len PySem.boot_len (da_cons (de_call tk ((w_turned T).mono (by decide)) hr (by rfl) T.g_turned T.F_turned.kp T.b_turned .nil (fun _ _ => rfl) (da_cons (de_var 10) da_nil) (len_dd (len_cons len_nil) rfl)) da_nil)) (de_callB cf_len (by rfl) T.z_len PySem.boot_len (da_cons (de_var 10) da_nil))))))
 (dss_one (ds_ret de_bl))
 dss_nil)
 (dss_cons (ds_set (i := 11) sc_law.nd rfl (Or.inr rfl) (de_op of_mul (de_of (df_lst (da_cons (de_tup (da_cons de_str (da_cons de_int da_nil))) da_nil))) (de_call tk ((w__law_next T).mono (by decide)) hr (by rfl) T.g__law_next T.F__law_next.kp T.b__law_next .nil (fun _ _ => rfl) (da_cons (de_var 1) (da_cons de_int da_nil)) (len_dd (len_cons (len_cons len_nil)) rfl))))
 (dss_cons (ds_set (i := 12) sc_law.nd rfl (Or.inl rfl) (de_op of_mul (de_of (df_lst (da_cons (de_tup (da_cons de_str (da_cons de_int da_nil))) da_nil))) (de_call tk ((w__law_next T).mono (by decide)) hr (by rfl) T.g__law_next T.F__law_next.kp T.b__law_next .nil (fun _ _ => rfl) (da_cons (de_var 1) (da_cons de_int da_nil)) (len_dd (len_cons (len_cons len_nil)) rfl))))
 (dss_cons (ds_setLc (i := 13) rfl sc_law.nd rfl rfl (sw_true rfl rfl rfl (by decide +kernel)) (di_seq (de_var 10)) (blkOk_by (own := [("word", 18), ("place", 19), ("row", 20)]) (N := N_law) (sc := defScope s_law) (by decide +kernel)) (fun _ _ _ _ _ _ => (dg_tup rfl (dgs_cons (dg_name (i := 18) sc_law.nd rfl (Or.inl rfl)) (dgs_cons (dg_name (i := 19) sc_law.nd rfl (Or.inl rfl)) (dgs_cons (dg_name (i := 20) sc_law.nd rfl (Or.inl rfl)) dgs_nil))))) (fun _ _ _ _ _ _ => dts_nil) (fun _ _ _ _ _ _ => (de_tup (da_cons (de_var 18) (da_cons (de_op of_add (de_var 19) (de_callB cf_len (by rfl) T.z_len PySem.boot_len (da_cons (de_var 11) da_nil))) (da_cons (de_var 20) da_nil))))))
 (dss_cons (ds_if (dt_not (dt_tru (de_call tk ((w__law_same T).mono (by decide)) hr (by rfl) T.g__law_same T.F__law_same.kp T.b__law_same .nil (fun _ _ => rfl) (da_cons (de_call tk ((w_steps_between T).mono (by decide)) hr (by rfl) T.g_steps_between T.F_steps_between.kp T.b_steps_between .nil (fun _ _ => rfl) (da_cons (de_op of_add (de_op of_add (de_var 11) (de_var 8)) (de_var 12)) (da_cons (de_op of_add (de_op of_add (de_var 11) (de_var 9)) (de_var 12)) da_nil)) (len_dd (len_cons (len_cons len_nil)) rfl)) (da_cons (de_var 13) da_nil)) (len_dd (len_cons (len_cons len_nil)) rfl))))
 (dss_one (ds_ret de_bl))
 dss_nil)
 (dss_frz 3 (dss_one (ds_for po rfl (di_seq (de_var 3)) (dg_name (i := 14) sc_law.nd rfl (Or.inl rfl))
 (dss_one (ds_if (dt_not (dt_tru (de_call tk ((w__law_same T).mono (by decide)) hr (by rfl) T.g__law_same T.F__law_same.kp T.b__law_same .nil (fun _ _ => rfl) (da_cons (de_call tk ((w_folded T).mono (by decide)) hr (by rfl) T.g_folded T.F_folded.kp T.b_folded .nil (fun _ _ => rfl) (da_cons (de_var 8) (da_cons (de_of (df_lst (da_cons (de_var 10) (da_cons (de_call tk ((w_steps_between T).mono (by decide)) hr (by rfl) T.g_steps_between T.F_steps_between.kp T.b_steps_between .nil (fun _ _ => rfl) (da_cons (de_var 9) (da_cons (de_var 14) da_nil)) (len_dd (len_cons (len_cons len_nil)) rfl)) da_nil)))) da_nil)) (len_dd (len_cons (len_cons len_nil)) rfl)) (da_cons (de_var 14) da_nil)) (len_dd (len_cons (len_cons len_nil)) rfl))))
 (dss_one (ds_ret de_bl))
 dss_nil)))))))))))))))))
 (dss_cons (ds_setLc (i := 15) rfl sc_law.nd rfl rfl (sw_true rfl rfl rfl (by decide +kernel)) (di_range1 (by rfl) T.z_range (da_cons (de_op of_sub (de_lenO (pv 3) (by rfl) T.z_len PySem.boot_len) de_int) da_nil)) (blkOk_by (own := [("k", 6)]) (N := N_law) (sc := defScope s_law) (by decide +kernel)) (fun _ _ _ _ _ _ => (dg_name (i := 6) sc_law.nd rfl (Or.inl rfl))) (fun _ _ _ _ _ _ => dts_nil) (fun _ _ _ _ _ _ => (de_call takes0 ((w_steps_between T).mono (by decide)) hr (by rfl) T.g_steps_between T.F_steps_between.kp T.b_steps_between .nil (fun _ _ => rfl) (da_cons (de_ixO (pv 3) (de_var 6)) (da_cons (de_ixO (pv 3) (de_op of_add (de_var 6) de_int)) da_nil)) (len_dd (len_cons (len_cons len_nil)) rfl))))
 (dss_cons (ds_if (DW.dt (dw_or (dt_not (dt_tru (de_call tk ((w__law_same T).mono (by decide)) hr (by rfl) T.g__law_same T.F__law_same.kp T.b__law_same .nil (fun _ _ => rfl) (da_cons (de_call tk ((w_folded T).mono (by decide)) hr (by rfl) T.g_folded T.F_folded.kp T.b_folded .nil (fun _ _ => rfl) (da_cons (de_ixO (pv 3) de_int) (da_cons (de_var 15) da_nil)) (len_dd (len_cons (len_cons len_nil)) rfl)) (da_cons (de_ixO (pv 3) (de_neg de_int)) da_nil)) (len_dd (len_cons (len_cons len_nil)) rfl)))) (dw_or1 (dt_not (dt_tru (de_call tk ((w__law_same T).mono (by decide)) hr (by rfl) T.g__law_same T.F__law_same.kp T.b__law_same .nil (fun _ _ => rfl) (da_cons (de_call tk ((w_folded T).mono (by decide)) hr (by rfl) T.g_folded T.F_folded.kp T.b_folded .nil (fun _ _ => rfl) (da_cons (de_ixO (pv 3) de_int) (da_cons (de_of (df_lst da_nil)) da_nil)) (len_dd (len_cons (len_cons len_nil)) rfl)) (da_cons (de_ixO (pv 3) de_int) da_nil)) (len_dd (len_cons (len_cons len_nil)) rfl)))))))
 (dss_one (ds_ret de_bl))
 dss_nil)
 (dss_cons (ds_if (dt_not (dt_tru (de_call tk ((w__law_same T).mono (by decide)) hr (by rfl) T.g__law_same T.F__law_same.kp T.b__law_same .nil (fun _ _ => rfl) (da_cons (de_call tk ((w_folded T).mono (by decide)) hr (by rfl) T.g_folded T.F_folded.kp T.b_folded .nil (fun _ _ => rfl) (da_cons (de_ixO (pv 3) (de_neg de_int)) (da_cons (de_of (df_lc rfl sc_law.nd (di_seq (de_rev (de_var 15))) (blkOk_by (own := [("steps", 10)]) (N := N_law) (sc := defScope s_law) (by decide +kernel)) (fun _ _ _ _ _ _ => (dg_name (i := 10) sc_law.nd rfl (Or.inl rfl))) (fun _ _ _ _ _ _ => dts_nil) (fun _ _ _ _ _ _ => (de_call takes0 ((w_turned T).mono (by decide)) hr (by rfl) T.g_turned T.F_turned.kp T.b_turned .nil (fun _ _ => rfl) (da_cons (de_var 10) da_nil) (len_dd (len_cons len_nil) rfl))))) da_nil)) (len_dd (len_cons (len_cons len_nil)) rfl)) (da_cons (de_ixO (pv 3) de_int) da_nil)) (len_dd (len_cons (len_cons len_nil)) rfl))))
 (dss_one (ds_ret de_bl))
 dss_nil)
 (dss_cons (ds_set (i := 5) sc_law.nd rfl (Or.inr rfl) (de_ixO (pv 3) (de_neg de_int)))
 (dss_cons (ds_set (i := 16) sc_law.nd rfl (Or.inl rfl) (de_of (df_lst (da_cons (de_of (df_lst (da_cons (de_tup (da_cons de_str (da_cons (de_callB cf_len (by rfl) T.z_len PySem.boot_len (da_cons (de_var 5) da_nil)) (da_cons (de_tup (da_cons de_str (da_cons de_int da_nil))) da_nil)))) da_nil))) (da_cons (de_of (df_lst (da_cons (de_tup (da_cons de_str (da_cons (de_op of_add (de_callB cf_len (by rfl) T.z_len PySem.boot_len (da_cons (de_var 5) da_nil)) de_int) (da_cons (de_tup (da_cons de_str (da_cons de_int da_nil))) da_nil)))) da_nil))) (da_cons (de_of (df_lst (da_cons (de_tup (da_cons de_str (da_cons (de_neg de_int) (da_cons (de_tup (da_cons de_str (da_cons de_int da_nil))) da_nil)))) da_nil))) (da_cons (de_of (df_lst (da_cons (de_tup (da_cons de_str (da_cons de_int (da_cons (de_tup (da_cons de_str (da_cons de_int da_nil))) da_nil)))) da_nil))) (da_cons (de_of (df_lst (da_cons (de_tup (da_cons de_str (da_cons de_int (da_cons (de_tup (da_cons de_str (da_cons de_int da_nil))) da_nil)))) da_nil))) da_nil))))))))
 (dss_cons (ds_set (i := 17) sc_law.nd rfl (Or.inl rfl) (de_of (df_list (by rfl) T.z_list (by decide +kernel) (da_cons (de_var 5) da_nil))))
 (dss_one (ds_ret (de_and (de_cmp (of_eq hr.units) (de_of (df_lc rfl sc_law.nd (di_seq (de_var 16)) (blkOk_by (own := [("steps", 10)]) (N := N_law) (sc := defScope s_law) (by decide +kernel)) (fun _ _ _ _ _ _ => (dg_name (i := 10) sc_law.nd rfl (Or.inl rfl))) (fun _ _ _ _ _ _ => (dts_one (dt_not (dt_tru (de_call takes0 ((w__law_is_unfit T).mono (by decide)) hr (by rfl) T.g__law_is_unfit T.F__law_is_unfit.kp T.b__law_is_unfit .nil (fun _ _ => rfl) (da_cons (de_var 5) (da_cons (de_var 10) da_nil)) (len_dd (len_cons (len_cons len_nil)) rfl)))))) (fun _ _ _ _ _ _ => (de_var 10)))) (de_of (df_lst da_nil))) (de_and (de_cmp (of_eq hr.units) (de_var 5) (de_var 17)) (de_one (de_cmp (of_eq hr.units) (de_call tk ((w_stepped T).mono (by decide)) hr (by rfl) T.g_stepped T.F_stepped.kp T.b_stepped .nil (fun _ _ => rfl) (da_cons (de_var 5) (da_cons (de_of (df_lst (da_cons (de_tup (da_cons de_str (da_cons (de_callB cf_len (by rfl) T.z_len PySem.boot_len (da_cons (de_var 5) da_nil)) (da_cons (de_tup (da_cons de_str (da_cons de_int da_nil))) da_nil)))) da_nil))) da_nil)) (len_dd (len_cons (len_cons len_nil)) rfl)) (de_op of_add (de_var 5) (de_of (df_lst (da_cons (de_tup (da_cons de_str (da_cons de_int da_nil))) da_nil))))))))))))))))))))))
end
end K15

set_option maxHeartbeats 8000000
namespace K15
open PySem PySem.Spec PyProof.Rows L2 DL
def tx_mk {K : PySem.W.Frag} {mg : Str → Option Value} {h : Heap} (X : K.In h) (G : h.Ns mainGlobals mg)
    {a_InvalidPaper : Addr}
    {a_DeskError : Addr}
    {a_steps_between : Addr} {od_steps_between an_steps_between : Option Addr} {sl_steps_between : Array (Option Value)} {oc_steps_between kV_steps_between dc_steps_between pm_steps_between cd_steps_between ct_steps_between : Value}
    {a_stepped : Addr} {od_stepped an_stepped : Option Addr} {sl_stepped : Array (Option Value)} {oc_stepped kV_stepped dc_stepped pm_stepped cd_stepped ct_stepped : Value}
    {a_turned : Addr} {od_turned an_turned : Option Addr} {sl_turned : Array (Option Value)} {oc_turned kV_turned dc_turned pm_turned cd_turned ct_turned : Value}
    {a_folded : Addr} {od_folded an_folded : Option Addr} {sl_folded : Array (Option Value)} {oc_folded kV_folded dc_folded pm_folded cd_folded ct_folded : Value}
    {a__law_next : Addr} {od__law_next an__law_next : Option Addr} {sl__law_next : Array (Option Value)} {oc__law_next kV__law_next dc__law_next pm__law_next cd__law_next ct__law_next : Value}
    {a__law_same : Addr} {od__law_same an__law_same : Option Addr} {sl__law_same : Array (Option Value)} {oc__law_same kV__law_same dc__law_same pm__law_same cd__law_same ct__law_same : Value}
    {a__law_steps : Addr} {od__law_steps an__law_steps : Option Addr} {sl__law_steps : Array (Option Value)} {oc__law_steps kV__law_steps dc__law_steps pm__law_steps cd__law_steps ct__law_steps : Value}
    {a__law_is_unfit : Addr} {od__law_is_unfit an__law_is_unfit : Option Addr} {sl__law_is_unfit : Array (Option Value)} {oc__law_is_unfit kV__law_is_unfit dc__law_is_unfit pm__law_is_unfit cd__law_is_unfit ct__law_is_unfit : Value}
    {a_law : Addr} {od_law an_law : Option Addr} {sl_law : Array (Option Value)} {oc_law kV_law dc_law pm_law cd_law ct_law : Value}
    (z_bool : PySem.W.nsIn K mainGlobals "bool" = some none)
    (z_int : PySem.W.nsIn K mainGlobals "int" = some none)
    (z_isinstance : PySem.W.nsIn K mainGlobals "isinstance" = some none)
    (z_len : PySem.W.nsIn K mainGlobals "len" = some none)
    (z_list : PySem.W.nsIn K mainGlobals "list" = some none)
    (z_min : PySem.W.nsIn K mainGlobals "min" = some none)
    (z_range : PySem.W.nsIn K mainGlobals "range" = some none)
    (z_reversed : PySem.W.nsIn K mainGlobals "reversed" = some none)
    (z_str : PySem.W.nsIn K mainGlobals "str" = some none)
    (z_tuple : PySem.W.nsIn K mainGlobals "tuple" = some none)
    (g_InvalidPaper : PySem.W.nsIn K mainGlobals "InvalidPaper" = some (some (.ref a_InvalidPaper)))
    (xP_InvalidPaper : PySem.W.excIn K a_InvalidPaper [.type "ValueError", .type "Exception", .type "BaseException", .type "object"] "ValueError.__new__" = true)
    (kP_InvalidPaper : PySem.W.keepIn K (.ref a_InvalidPaper) = true)
    (bP_InvalidPaper : PySem.W.subIn K (.ref a_InvalidPaper) (.type "BaseException") = some true)
    (tP_InvalidPaper : PySem.W.typeIn K (.ref a_InvalidPaper) = some (.type "type"))
    (g_DeskError : PySem.W.nsIn K mainGlobals "DeskError" = some (some (.ref a_DeskError)))
    (iP_InvalidPaper : PySem.W.isClsIn K a_InvalidPaper = true)
    (e_DeskError_InvalidPaper : PySem.W.subIn K (.ref a_DeskError) (.ref a_InvalidPaper) = some false)
    (e_InvalidPaper_InvalidPaper : PySem.W.subIn K (.ref a_InvalidPaper) (.ref a_InvalidPaper) = some true)
    (h_steps_between : PySem.W.nsIn K mainGlobals "steps_between" = some (some (.ref a_steps_between)))
    (l_steps_between : K.lookup a_steps_between = some ⟨oc_steps_between, od_steps_between, .func (PySem.W.fnOf "steps_between" "steps_between" (defArgs s_steps_between) (defBody s_steps_between) (defScope s_steps_between) .none kV_steps_between dc_steps_between pm_steps_between an_steps_between cd_steps_between ct_steps_between), sl_steps_between⟩)
    (c_steps_between : PySem.W.codeIn K cd_steps_between "steps_between" = true)
    (k__steps_between : PySem.W.keepIn K (.ref a_steps_between) = true)
    (h_stepped : PySem.W.nsIn K mainGlobals "stepped" = some (some (.ref a_stepped)))
    (l_stepped : K.lookup a_stepped = some ⟨oc_stepped, od_stepped, .func (PySem.W.fnOf "stepped" "stepped" (defArgs s_stepped) (defBody s_stepped) (defScope s_stepped) .none kV_stepped dc_stepped pm_stepped an_stepped cd_stepped ct_stepped), sl_stepped⟩)
    (c_stepped : PySem.W.codeIn K cd_stepped "stepped" = true)
    (k__stepped : PySem.W.keepIn K (.ref a_stepped) = true)
    (h_turned : PySem.W.nsIn K mainGlobals "turned" = some (some (.ref a_turned)))
    (l_turned : K.lookup a_turned = some ⟨oc_turned, od_turned, .func (PySem.W.fnOf "turned" "turned" (defArgs s_turned) (defBody s_turned) (defScope s_turned) .none kV_turned dc_turned pm_turned an_turned cd_turned ct_turned), sl_turned⟩)
    (c_turned : PySem.W.codeIn K cd_turned "turned" = true)
    (k__turned : PySem.W.keepIn K (.ref a_turned) = true)
    (h_folded : PySem.W.nsIn K mainGlobals "folded" = some (some (.ref a_folded)))
    (l_folded : K.lookup a_folded = some ⟨oc_folded, od_folded, .func (PySem.W.fnOf "folded" "folded" (defArgs s_folded) (defBody s_folded) (defScope s_folded) .none kV_folded dc_folded pm_folded an_folded cd_folded ct_folded), sl_folded⟩)
    (c_folded : PySem.W.codeIn K cd_folded "folded" = true)
    (k__folded : PySem.W.keepIn K (.ref a_folded) = true)
    (h__law_next : PySem.W.nsIn K mainGlobals "_law_next" = some (some (.ref a__law_next)))
    (l__law_next : K.lookup a__law_next = some ⟨oc__law_next, od__law_next, .func (PySem.W.fnOf "_law_next" "_law_next" (defArgs s__law_next) (defBody s__law_next) (defScope s__law_next) .none kV__law_next dc__law_next pm__law_next an__law_next cd__law_next ct__law_next), sl__law_next⟩)
    (c__law_next : PySem.W.codeIn K cd__law_next "_law_next" = true)
    (k___law_next : PySem.W.keepIn K (.ref a__law_next) = true)
    (h__law_same : PySem.W.nsIn K mainGlobals "_law_same" = some (some (.ref a__law_same)))
    (l__law_same : K.lookup a__law_same = some ⟨oc__law_same, od__law_same, .func (PySem.W.fnOf "_law_same" "_law_same" (defArgs s__law_same) (defBody s__law_same) (defScope s__law_same) .none kV__law_same dc__law_same pm__law_same an__law_same cd__law_same ct__law_same), sl__law_same⟩)
    (c__law_same : PySem.W.codeIn K cd__law_same "_law_same" = true)
    (k___law_same : PySem.W.keepIn K (.ref a__law_same) = true)
    (h__law_steps : PySem.W.nsIn K mainGlobals "_law_steps" = some (some (.ref a__law_steps)))
    (l__law_steps : K.lookup a__law_steps = some ⟨oc__law_steps, od__law_steps, .func (PySem.W.fnOf "_law_steps" "_law_steps" (defArgs s__law_steps) (defBody s__law_steps) (defScope s__law_steps) .none kV__law_steps dc__law_steps pm__law_steps an__law_steps cd__law_steps ct__law_steps), sl__law_steps⟩)
    (c__law_steps : PySem.W.codeIn K cd__law_steps "_law_steps" = true)
    (k___law_steps : PySem.W.keepIn K (.ref a__law_steps) = true)
    (h__law_is_unfit : PySem.W.nsIn K mainGlobals "_law_is_unfit" = some (some (.ref a__law_is_unfit)))
    (l__law_is_unfit : K.lookup a__law_is_unfit = some ⟨oc__law_is_unfit, od__law_is_unfit, .func (PySem.W.fnOf "_law_is_unfit" "_law_is_unfit" (defArgs s__law_is_unfit) (defBody s__law_is_unfit) (defScope s__law_is_unfit) .none kV__law_is_unfit dc__law_is_unfit pm__law_is_unfit an__law_is_unfit cd__law_is_unfit ct__law_is_unfit), sl__law_is_unfit⟩)
    (c__law_is_unfit : PySem.W.codeIn K cd__law_is_unfit "_law_is_unfit" = true)
    (k___law_is_unfit : PySem.W.keepIn K (.ref a__law_is_unfit) = true)
    (h_law : PySem.W.nsIn K mainGlobals "law" = some (some (.ref a_law)))
    (l_law : K.lookup a_law = some ⟨oc_law, od_law, .func (PySem.W.fnOf "law" "law" (defArgs s_law) (defBody s_law) (defScope s_law) .none kV_law dc_law pm_law an_law cd_law ct_law), sl_law⟩)
    (c_law : PySem.W.codeIn K cd_law "law" = true)
    (k__law : PySem.W.keepIn K (.ref a_law) = true)
    : Tx K mg where
  z_bool := PySem.W.mg_none_of X G z_bool
  z_int := PySem.W.mg_none_of X G z_int
  z_isinstance := PySem.W.mg_none_of X G z_isinstance
  z_len := PySem.W.mg_none_of X G z_len
  z_list := PySem.W.mg_none_of X G z_list
  z_min := PySem.W.mg_none_of X G z_min
  z_range := PySem.W.mg_none_of X G z_range
  z_reversed := PySem.W.mg_none_of X G z_reversed
  z_str := PySem.W.mg_none_of X G z_str
  z_tuple := PySem.W.mg_none_of X G z_tuple
  a_InvalidPaper := a_InvalidPaper
  g_InvalidPaper := PySem.W.mg_of X G g_InvalidPaper
  xP_InvalidPaper := xP_InvalidPaper
  kP_InvalidPaper := kP_InvalidPaper
  bP_InvalidPaper := bP_InvalidPaper
  tP_InvalidPaper := tP_InvalidPaper
  a_DeskError := a_DeskError
  g_DeskError := PySem.W.mg_of X G g_DeskError
  e_DeskError_InvalidPaper := DL.exm_by bP_InvalidPaper iP_InvalidPaper tP_InvalidPaper e_DeskError_InvalidPaper
  e_InvalidPaper_InvalidPaper := DL.exm_by bP_InvalidPaper iP_InvalidPaper tP_InvalidPaper e_InvalidPaper_InvalidPaper
  a_steps_between := a_steps_between
  d_steps_between := _
  F_steps_between := fun_mk (st := s_steps_between) l_steps_between c_steps_between k__steps_between
  g_steps_between := PySem.W.mg_of X G h_steps_between
  b_steps_between := (fun_mk (st := s_steps_between) l_steps_between c_steps_between k__steps_between).binds (ps := ["one", "other"]) fun _ _ _ _ _ _ us hl => match us, hl with | [_, _], _ => rfl
  a_stepped := a_stepped
  d_stepped := _
  F_stepped := fun_mk (st := s_stepped) l_stepped c_stepped k__stepped
  g_stepped := PySem.W.mg_of X G h_stepped
  b_stepped := (fun_mk (st := s_stepped) l_stepped c_stepped k__stepped).binds (ps := ["rows", "steps"]) fun _ _ _ _ _ _ us hl => match us, hl with | [_, _], _ => rfl
  a_turned := a_turned
  d_turned := _
  F_turned := fun_mk (st := s_turned) l_turned c_turned k__turned
  g_turned := PySem.W.mg_of X G h_turned
  b_turned := (fun_mk (st := s_turned) l_turned c_turned k__turned).binds (ps := ["steps"]) fun _ _ _ _ _ _ us hl => match us, hl with | [_], _ => rfl
  a_folded := a_folded
  d_folded := _
  F_folded := fun_mk (st := s_folded) l_folded c_folded k__folded
  g_folded := PySem.W.mg_of X G h_folded
  b_folded := (fun_mk (st := s_folded) l_folded c_folded k__folded).binds (ps := ["rows", "all_steps"]) fun _ _ _ _ _ _ us hl => match us, hl with | [_, _], _ => rfl
  a__law_next := a__law_next
  d__law_next := _
  F__law_next := fun_mk (st := s__law_next) l__law_next c__law_next k___law_next
  g__law_next := PySem.W.mg_of X G h__law_next
  b__law_next := (fun_mk (st := s__law_next) l__law_next c__law_next k___law_next).binds (ps := ["state", "limit"]) fun _ _ _ _ _ _ us hl => match us, hl with | [_, _], _ => rfl
  a__law_same := a__law_same
  d__law_same := _
  F__law_same := fun_mk (st := s__law_same) l__law_same c__law_same k___law_same
  g__law_same := PySem.W.mg_of X G h__law_same
  b__law_same := (fun_mk (st := s__law_same) l__law_same c__law_same k___law_same).binds (ps := ["actual", "expected"]) fun _ _ _ _ _ _ us hl => match us, hl with | [_, _], _ => rfl
  a__law_steps := a__law_steps
  d__law_steps := _
  F__law_steps := fun_mk (st := s__law_steps) l__law_steps c__law_steps k___law_steps
  g__law_steps := PySem.W.mg_of X G h__law_steps
  b__law_steps := (fun_mk (st := s__law_steps) l__law_steps c__law_steps k___law_steps).binds (ps := ["one", "other"]) fun _ _ _ _ _ _ us hl => match us, hl with | [_, _], _ => rfl
  a__law_is_unfit := a__law_is_unfit
  d__law_is_unfit := _
  F__law_is_unfit := fun_mk (st := s__law_is_unfit) l__law_is_unfit c__law_is_unfit k___law_is_unfit
  g__law_is_unfit := PySem.W.mg_of X G h__law_is_unfit
  b__law_is_unfit := (fun_mk (st := s__law_is_unfit) l__law_is_unfit c__law_is_unfit k___law_is_unfit).binds (ps := ["rows", "steps"]) fun _ _ _ _ _ _ us hl => match us, hl with | [_, _], _ => rfl
  a_law := a_law
  d_law := _
  F_law := fun_mk (st := s_law) l_law c_law k__law
  g_law := PySem.W.mg_of X G h_law
  b_law := (fun_mk (st := s_law) l_law c_law k__law).binds (ps := ["script"]) fun _ _ _ _ _ _ us hl => match us, hl with | [_], _ => rfl
theorem all_mk {l : PySem.W.OpenLaw} {wd : World} {K : PySem.W.Frag} {mg : Str → Option Value} {fa : Addr} (hfa : mg "law" = some (.ref fa)) (T : Tx K mg) (hb : ∀ (s : Shared) (v : Value), BindsTo s T.d_law ⟨[v], []⟩ [("script", v)]) :
    ∃ fd : FuncData, (∀ (s : Shared) (v : Value), BindsTo s fd ⟨[v], []⟩ [("script", v)]) ∧ ∀ base : Heap, K.In base → base.Ns mainGlobals mg → FnOk l.prog wd K mg base (L2.CX l.prog wd) 9 fa fd ["script"] (DL.spL K 63) := by
  have e := hfa.symm.trans T.g_law
  cases e
  exact ⟨T.d_law, hb, fun base _ _ => DL.law_of (w_law T) law_holds⟩
end K15
open PySem PySem.W PyProof.Rows
set_option maxHeartbeats 0 in
theorem PySem.Challenge.cw_desksagree_k15_whole_steps_between_rows_holds : PySem.Challenge.rw_desksagree_k15_whole_steps_between_rows.Holds := by
  w_on; o_law; k_head; (case hw => w_witness2)
  k_fill
  refine L2.walk_of (l := PySem.Challenge.rw_desksagree_k15_whole_steps_between_rows) (n := 63) (k := 9) (x := "script") (CX := fun w => L2.CX PySem.Challenge.rw_desksagree_k15_whole_steps_between_rows.prog w) (sp := fun w => DL.spL _ 63) rfl (by decide) rfl ⟨rfl, by decide, by decide⟩ (fun w h Y => PySem.W.kIn_of Y) ?F (fun _ _ a ns hl _ hS => ⟨a, ns, rfl, hS, hl, fun _ => rfl⟩) (fun _ _ _ _ _ h => DL.cx_none h)
  case F =>
    intro w mg fa h KX G hmg
    refine' K15.all_mk hmg (K15.tx_mk KX G ?z_bool ?z_int ?z_isinstance ?z_len ?z_list ?z_min ?z_range ?z_reversed ?z_str ?z_tuple ?g_InvalidPaper ?xP_InvalidPaper ?kP_InvalidPaper ?bP_InvalidPaper ?tP_InvalidPaper ?g_DeskError ?iP_InvalidPaper ?e_DeskError_InvalidPaper ?e_InvalidPaper_InvalidPaper ?h_steps_between ?l_steps_between ?c_steps_between ?k__steps_between ?h_stepped ?l_stepped ?c_stepped ?k__stepped ?h_turned ?l_turned ?c_turned ?k__turned ?h_folded ?l_folded ?c_folded ?k__folded ?h__law_next ?l__law_next ?c__law_next ?k___law_next ?h__law_same ?l__law_same ?c__law_same ?k___law_same ?h__law_steps ?l__law_steps ?c__law_steps ?k___law_steps ?h__law_is_unfit ?l__law_is_unfit ?c__law_is_unfit ?k___law_is_unfit ?h_law ?l_law ?c_law ?k__law) ?hb
    (case z_bool => k_is)
    (case z_int => k_is)
    (case z_isinstance => k_is)
    (case z_len => k_is)
    (case z_list => k_is)
    (case z_min => k_is)
    (case z_range => k_is)
    (case z_reversed => k_is)
    (case z_str => k_is)
    (case z_tuple => k_is)
    (case g_InvalidPaper => k_is)
    (case xP_InvalidPaper => k_exc)
    (case kP_InvalidPaper => k_is)
    (case bP_InvalidPaper => k_is)
    (case tP_InvalidPaper => k_is)
    (case g_DeskError => k_is)
    (case iP_InvalidPaper => k_is)
    (case e_DeskError_InvalidPaper => k_is)
    (case e_InvalidPaper_InvalidPaper => k_is)
    (case h_steps_between => k_is)
    (case l_steps_between => k_is)
    (case c_steps_between => k_is)
    (case k__steps_between => k_is)
    (case h_stepped => k_is)
    (case l_stepped => k_is)
    (case c_stepped => k_is)
    (case k__stepped => k_is)
    (case h_turned => k_is)
    (case l_turned => k_is)
    (case c_turned => k_is)
    (case k__turned => k_is)
    (case h_folded => k_is)
    (case l_folded => k_is)
    (case c_folded => k_is)
    (case k__folded => k_is)
    (case h__law_next => k_is)
    (case l__law_next => k_is)
    (case c__law_next => k_is)
    (case k___law_next => k_is)
    (case h__law_same => k_is)
    (case l__law_same => k_is)
    (case c__law_same => k_is)
    (case k___law_same => k_is)
    (case h__law_steps => k_is)
    (case l__law_steps => k_is)
    (case c__law_steps => k_is)
    (case k___law_steps => k_is)
    (case h__law_is_unfit => k_is)
    (case l__law_is_unfit => k_is)
    (case c__law_is_unfit => k_is)
    (case k___law_is_unfit => k_is)
    (case h_law => k_is)
    (case l_law => k_is)
    (case c_law => k_is)
    (case k__law => k_is)
    (case hb => exact fun s v => .of_eq rfl)

